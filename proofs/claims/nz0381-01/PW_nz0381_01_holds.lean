import PyProof.Rows.All
import Wide.All
import OpenK.AllK
import Wide.FinOn
import PySem.Challenge.RW_nz0381_01
open PySem PySem.W PyProof.Rows
set_option Elab.async false
set_option maxRecDepth 100000
set_option maxHeartbeats 8000000
namespace Mine
section
local macro_rules | `(tactic| o_head $_) => `(tactic| assumption)
/-- the part of the heap that the law reaches is written out on the way: A.heap_1 -/
theorem A (h : PySem.Challenge.rw_nz0381_01.row.Holds) : PySem.Challenge.rw_nz0381_01.row.Holds := by
  k_head
end
/-- the text without its assignments to the module's name -/
noncomputable def V0 : Program := { PySem.Challenge.pw_nz0381_01 with main := { PySem.Challenge.pw_nz0381_01.main with body := PySem.Challenge.pw_nz0381_01.main.body.filter fun | .Assign .. => false | _ => true } }
/-- what a call of a def of the text does that changes nothing -/
def Reads (w : World) (nd : Nat) (f : Nat) (vs : List Value) (news : List (Addr × Obj)) (Post : Value → Prop) : Prop :=
  ∀ (dp un : Nat) (gd : Option (List Code)) (cn : Str) (cs : Scope) (a : Addr) (ccd : Value) (cl : List (Str × Addr)) (outer : List Env) (A₀ : Around) (base h₀ : Heap) (L : Addr) (m : Str → Option Value) (s : Shared) (mean : ExcName → Option Value) (mg mb : Str → Option Value)
    (Q E : Value → Shared → Prop),
    Below A₀ base outer h₀ → Fr h₀ L s.heap m → (A.heap_1 w.params).In h₀ → News h₀ L s.heap news → Top V0 (looseW V0 []) mean mg mb h₀ → cs.kind = .function →
    dp + nd < recursionLimit → un + 8 * nd < cLine →
    (∀ r h' tk', Fr h₀ L h' m → News h₀ L h' news → Post r → Q r { s with heap := h', toks := tk' }) →
    wpAny (model PySem.Challenge.rw_nz0381_01.prog w) (ktrTop dp un gd cn cs L a ccd cl outer) (call (.ref f) vs) Q E s

abbrev circD (e1 e2 e3 : Int) (t1 t2 t3 : Tok) (kl pl kd : Addr) : Obj := dictOf [⟨e1, .str (Str.ofString "kinds") t1, .ref kl⟩, ⟨e2, .str (Str.ofString "parts_now") t2, .ref pl⟩, ⟨e3, .str (Str.ofString "known") t3, .ref kd⟩] 3

section
variable {prog : Program} {w : World} {A : Around} {E : Value → Shared → Prop} {s : Shared} {h₀ : Heap} {L l : Addr} {m : Str → Option Value} {news : List (Addr × Obj)}
theorem len_mem {vs : List Value} {n : Nat} {Q : Value → Shared → Prop} (N : News h₀ L s.heap news) (hl : (l, listOf vs.toArray n) ∈ news) (hz : vs.length < 2 ^ 62)
    (h : Q (.int (vs.length : Nat) (s.toks + 1)) { s with toks := s.toks + 1 + 1 }) : wpAny (model prog w) A (call (.builtin "len") [.ref l]) Q E s := by
  refine Calls.call_len_list (News.isList N hl) (by simp only [List.size_toArray]; omega) ?_
  simpa using h
theorem append_U {vs : List Value} {n : Nat} {x : Value} {news' : List (Addr × Obj)} {Q : Value → Shared → Prop} (F : Fr h₀ L s.heap m) (N : News h₀ L s.heap news) (U : Upd l (listOf vs.toArray n) (listOf (vs ++ [x]).toArray (n + 1)) news news') (hsz : vs.length ≤ 10000000)
    (h : ∀ h', Fr h₀ L h' m → News h₀ L h' news' → Q .none { s with heap := h' }) : wpAny (model prog w) A (call (.builtin "list.append") [.ref l, x]) Q E s := by
  refine append_K F N (by rw [List.push_toArray]; exact U) h ?_
  rw [List.size_toArray]
  exact Nat.le_trans hsz (by unfold sizeLine; omega)
theorem item_mem {value slice : PySem.Expr} {vs : List Value} {n : Nat} {k : Int} {u : Tok} {v : Value} {Q : Value → Shared → Prop} (N : News h₀ L s.heap news) (hl : (l, listOf vs.toArray n) ∈ news)
    (hx : vs[k.toNat]? = some v) (h0 : 0 ≤ k) (hhi : k < 2 ^ 63) (h : Q v s)
    (hs : subscripted slice false (.ref l) (.int k u) = operate [.ref l, .int k u] (getItem (.ref l) (.int k u)) := by with_unfolding_all rfl) :
    wpAny (model prog w) A (subscriptTail value slice (.ref l) (.int k u)) Q E s :=
  tail_any (News.isList N hl).typeIs slot_list_getitem.lookup (wpAny_getItem_list (News.isList N hl) h0 hhi (by simpa using hx) h) hs
end

theorem abs_toNat (g : Int) : (if g < 0 then -g else g).toNat = g.natAbs := by split <;> omega

/-- what stood before the call stands behind it, the changed objects apart -/
def Keep (muts : List (Addr × Obj)) (H H' : Heap) : Prop := ∀ b o, H.get? b = some o → b ∉ muts.map (·.1) → H'.get? b = some o

/-- what a call of a def of the text does that changes the objects `muts` -/
def Calls (w : World) (nd : Nat) (f : Nat) (vs : List Value) (muts S : List (Addr × Obj)) (Post : Value → List (Addr × Obj) → List (Addr × Obj) → Prop) : Prop :=
  ∀ (dp un : Nat) (gd : Option (List Code)) (cn : Str) (cs : Scope) (a : Addr) (ccd : Value) (cl : List (Str × Addr)) (outer : List Env) (A₀ : Around) (base h₀ : Heap) (L : Addr) (m : Str → Option Value) (s : Shared) (mean : ExcName → Option Value) (mg mb : Str → Option Value)
    (Q E : Value → Shared → Prop),
    Below A₀ base outer h₀ → Fr h₀ L s.heap m → (A.heap_1 w.params).In h₀ → News h₀ L s.heap (muts ++ S) → Top V0 (looseW V0 []) mean mg mb h₀ → cs.kind = .function →
    dp + nd < recursionLimit → un + 8 * nd < cLine →
    (∀ r muts' new h' tk', Fr h₀ L h' m → News h₀ L h' (muts' ++ (new ++ S)) → (∀ p ∈ new, s.heap.get? p.1 = none) → Keep muts s.heap h' → Post r muts' new → Q r { s with heap := h', toks := tk' }) →
    wpAny (model PySem.Challenge.rw_nz0381_01.prog w) (ktrTop dp un gd cn cs L a ccd cl outer) (call (.ref f) vs) Q E s

theorem keep_end {h₀ H H' g : Heap} {L L' : Addr} {m' : Str → Option Value} {muts S news' : List (Addr × Obj)} (G : GSub H g ((muts ++ S).map (·.1))) (N : News h₀ L H (muts ++ S)) (F' : Fr g L' H' m') (N' : News h₀ L H' news') (hs : ∀ p ∈ S, p ∈ news') : Keep muts H H' := by
  intro b o hb hn
  by_cases hS : b ∈ S.map (·.1)
  · obtain ⟨p, hp, rfl⟩ := List.mem_map.mp hS
    have h1 := (N p (List.mem_append.mpr (.inr hp))).1
    rw [hb] at h1
    cases h1
    exact (N' p (hs p hp)).1
  · refine F'.keep b o (G b o hb ?_)
    intro h
    rw [List.map_append] at h
    rcases List.mem_append.mp h with h | h
    · exact hn h
    · exact hS h
theorem fresh_end {H g h : Heap} {L' : Addr} {led new news' : List (Addr × Obj)} (G : GSub H g (led.map (·.1))) (N' : News g L' h news') (hs : ∀ p ∈ new, p ∈ news') (off : ∀ p ∈ new, p.1 ∉ led.map (·.1)) : ∀ p ∈ new, H.get? p.1 = none := by
  intro p hp
  cases e : H.get? p.1 with
  | none => rfl
  | some o =>
    have h1 := G _ o e (off p hp)
    rw [(N' p (hs p hp)).2.2] at h1
    cases h1
theorem new_off {g h : Heap} {L' : Addr} {led new : List (Addr × Obj)} (N : News g L' h led) (fr : ∀ p ∈ new, h.get? p.1 = none) : ∀ p ∈ new, p.1 ∉ led.map (·.1) := by
  intro p hp hm
  obtain ⟨q, hq, e⟩ := List.mem_map.mp hm
  have h1 := (N q hq).1
  rw [e, fr p hp] at h1
  cases h1
theorem off_nil {led : List (Addr × Obj)} : ∀ p ∈ ([] : List (Addr × Obj)), p.1 ∉ led.map (·.1) := fun _ h => nomatch h
theorem off_cons {led new : List (Addr × Obj)} {a : Addr} {o : Obj} (h1 : a ∉ led.map (·.1)) (h2 : ∀ p ∈ new, p.1 ∉ led.map (·.1)) : ∀ p ∈ (a, o) :: new, p.1 ∉ led.map (·.1) := by
  intro p hp
  rcases List.mem_cons.mp hp with rfl | hp
  · exact h1
  · exact h2 p hp
theorem allLt_notin {d : Addr} : ∀ {l : List (Addr × Obj)}, AllLt d l → d ∉ l.map (·.1)
  | [], _ => by simp
  | q :: r, h => by
    intro hm
    rcases List.mem_cons.mp hm with e | hm
    · have := h.1
      rw [e] at this
      exact Nat.lt_irrefl _ this
    · exact allLt_notin h.2 hm
theorem ownOff_cons {a : Addr} {o : Obj} {S : List (Addr × Obj)} {adr : List Addr} (h1 : ∀ b ∈ adr, @Ne Nat a b) (h : OwnOff S adr) : OwnOff ((a, o) :: S) adr := by
  intro p hp b hb
  rcases List.mem_cons.mp hp with rfl | hp
  · exact h1 b hb
  · exact h p hp b hb

theorem calls_use {w : World} {nd f : Nat} {vs : List Value} {muts S : List (Addr × Obj)} {Post : Value → List (Addr × Obj) → List (Addr × Obj) → Prop} (C : Calls w nd f vs muts S Post)
    {dp un : Nat} {gd : Option (List Code)} {cn : Str} {cs : Scope} {a : Addr} {ccd : Value} {cl : List (Str × Addr)} {outer : List Env} {A₀ : Around} {base h₀ : Heap} {L : Addr} {m : Str → Option Value} {s : Shared} {mean : ExcName → Option Value} {mg mb : Str → Option Value}
    {Q E : Value → Shared → Prop} {news : List (Addr × Obj)}
    (B : Below A₀ base outer h₀) (F : Fr h₀ L s.heap m) (X : (A.heap_1 w.params).In h₀) (N : News h₀ L s.heap news) (T : Top V0 (looseW V0 []) mean mg mb h₀) (hk : cs.kind = .function)
    (hd : dp + nd < recursionLimit) (hu : un + 8 * nd < cLine) (hs : ∀ p ∈ muts ++ S, p ∈ news)
    (ret : ∀ r muts' new h' tk', Fr h₀ L h' m → News h₀ L h' (muts' ++ (new ++ S)) → (∀ p ∈ new, s.heap.get? p.1 = none) → Keep muts s.heap h' → Post r muts' new → Q r { s with heap := h', toks := tk' }) :
    wpAny (model PySem.Challenge.rw_nz0381_01.prog w) (ktrTop dp un gd cn cs L a ccd cl outer) (call (.ref f) vs) Q E s :=
  C _ _ _ _ _ _ _ _ _ _ _ _ _ _ _ _ _ _ _ _ B F X (fun p hp => N p (hs p hp)) T hk hd hu ret
theorem reads_use {w : World} {nd f : Nat} {vs : List Value} {news : List (Addr × Obj)} {Post : Value → Prop} (C : Reads w nd f vs news Post)
    {dp un : Nat} {gd : Option (List Code)} {cn : Str} {cs : Scope} {a : Addr} {ccd : Value} {cl : List (Str × Addr)} {outer : List Env} {A₀ : Around} {base h₀ : Heap} {L : Addr} {m : Str → Option Value} {s : Shared} {mean : ExcName → Option Value} {mg mb : Str → Option Value}
    {Q E : Value → Shared → Prop}
    (B : Below A₀ base outer h₀) (F : Fr h₀ L s.heap m) (X : (A.heap_1 w.params).In h₀) (N : News h₀ L s.heap news) (T : Top V0 (looseW V0 []) mean mg mb h₀) (hk : cs.kind = .function)
    (hd : dp + nd < recursionLimit) (hu : un + 8 * nd < cLine)
    (ret : ∀ r h' tk', Fr h₀ L h' m → News h₀ L h' news → Post r → Q r { s with heap := h', toks := tk' }) :
    wpAny (model PySem.Challenge.rw_nz0381_01.prog w) (ktrTop dp un gd cn cs L a ccd cl outer) (call (.ref f) vs) Q E s :=
  C _ _ _ _ _ _ _ _ _ _ _ _ _ _ _ _ _ _ _ _ B F X N T hk hd hu ret
theorem room0 {dp nd : Nat} (h : dp + nd < recursionLimit) : dp < recursionLimit := Nat.lt_of_le_of_lt (Nat.le_add_right _ _) h
theorem room1 {dp nd k : Nat} (h : dp + nd < recursionLimit) (e : k + 1 ≤ nd) : dp + 1 + k < recursionLimit := by omega
theorem room2 {dp nd k : Nat} (h : dp + nd < recursionLimit) (e : k ≤ nd) : dp + k < recursionLimit := by omega
theorem unit1 {un nd k u : Nat} (h : un + 8 * nd < cLine) (e : u + 8 * k ≤ 8 * nd) : un + u + 8 * k < cLine := by omega
theorem unit2 {un nd k : Nat} (h : un + 8 * nd < cLine) (e : k ≤ 8 * nd) : un + k < cLine := by omega
def Stop (P : Prop) : Prop := P
theorem stop_here {P : Prop} (h : Stop P) : P := h

abbrev tupO (vs : List Value) (n : Nat) : Obj := { cls := .type "tuple", data := .seq vs.toArray n }
section
variable {prog : Program} {w : World} {A₀ A : Around} {s : Shared} {base h₀ : Heap} {outer : List Env} {L : Addr} {m : Str → Option Value} {env : Env} {news : List (Addr × Obj)}
theorem enter_def {K : Frag} {p : Program} {loose : List Str} {mean : ExcName → Option Value} {mg mb : Str → Option Value} {R : Result → Shared → Prop} {name qual : Str} {params : Arguments} {body : List Stmt} {scope : Scope} {dV kV doc pm cdv ct oc : Value} {an od : Option Addr} {osl : Array (Option Value)} {f : Addr} {args : Args} {binds : List (Str × Value)}
    (B : Below A₀ base outer h₀) (F : Fr h₀ L s.heap m) (X₀ : K.In h₀) (N : News h₀ L s.heap news) (T : Top p loose mean mg mb h₀) (hA : A.frames = some (env :: outer)) (hf : env.frame = some L) (hke : env.scope.kind = .function)
    (ho : K.lookup f = some ⟨oc, od, .func (fnOf name qual params body scope dV kV doc pm an cdv ct), osl⟩) (hcd : codeIn K cdv qual = true) (hroom : A.depth < recursionLimit)
    (hbind : BindsTo s (fnOf name qual params body scope dV kV doc pm an cdv ct) args binds) (hloc : ∀ y ∈ binds, scope.names.lookup y.1 = some .local)
    (h : ∀ (tk : Nat) (m' : Str → Option Value), (∀ y, m' y = binds.reverse.lookup y) → ∀ g L' h₁, Fr h₀ L g m → Fr g L' h₁ m' → News g L' h₁ news → Below A base (env :: outer) g → K.In g → Top p loose mean mg mb g → GSub s.heap g (news.map (·.1)) →
      wpAny (model prog w) (A.deeper (envOf qual scope L' f cdv)) (execs body (envOf qual scope L' f cdv))
        (fun fl s' => LeaveK h₀ L m g R (match fl with | .ret v => v | _ => .none) s')
        (fun e s' => wpAny (model prog w) (A.deeper (envOf qual scope L' f cdv)) (leaving (envOf qual scope L' f cdv) e) (fun _ s'' => R (.error e) s'') (fun e' s'' => R (.error e') s'') s')
        { s with heap := h₁, toks := tk })
    (hco : scope.isCoroutine = false) (hgen : scope.isGenerator = false) (hk : scope.kind = .function)
    (hcell : ∀ x ∈ scope.names, x.2 ≠ .cell) : codeAny (model prog w) A (.call (.ref f) args) R s :=
  code_defG B F X₀ N T hA hf hke ho hcd hroom hbind hloc (fun g L' h₁ a b c d e f k => h _ _ (fun _ => rfl) g L' h₁ a b c d e f k) hco hgen hk hcell
end
/-- a gate of a circuit -/
inductive Gate where
  | dummy
  | tru
  | inp
  | and (ps : List Int)
def Gate.isAnd (ps : List Int) : Gate → Bool
  | .and qs => qs == ps
  | _ => false
def Gate.kindS : Gate → Str
  | .dummy => Str.ofString ""
  | .tru => Str.ofString "true"
  | .inp => Str.ofString "input"
  | .and _ => Str.ofString "and"
def Gate.parts : Gate → List Int
  | .and ps => ps
  | _ => []
theorem Gate.isAnd_iff {ps : List Int} {g : Gate} : g.isAnd ps = true ↔ g = .and ps := by
  cases g <;> simp [Gate.isAnd]
def idxOf (C : List Gate) (ps : List Int) : Option Nat := C.findIdx? (Gate.isAnd ps)
def addAnd (C : List Gate) (ps : List Int) : List Gate × Int :=
  match idxOf C ps with
  | some i => (C, (i : Int))
  | none => (C ++ [.and ps], (C.length : Int))
/-- what all_of((a, b)) does -/
def allOf (C : List Gate) (a b : Int) : List Gate × Int :=
  if a = -1 ∨ b = -1 then (C, -1)
  else if a = 1 then (C, b)
  else if -b = a then (C, -1)
  else if b = 1 ∨ b = a then (C, a)
  else addAnd C (if a ≤ b then [a, b] else [b, a])
theorem idxOf_append (C : List Gate) (g : Gate) (ps : List Int) : idxOf (C ++ [g]) ps = match idxOf C ps with
    | some i => some i
    | none => if g.isAnd ps then some C.length else none := by
  unfold idxOf
  rw [List.findIdx?_append]
  cases h : List.findIdx? (Gate.isAnd ps) C with
  | some i => simp
  | none => cases hg : g.isAnd ps <;> simp [List.findIdx?_cons, hg]
theorem allOf_len (C : List Gate) (a b : Int) : C.length ≤ (allOf C a b).1.length ∧ (allOf C a b).1.length ≤ C.length + 1 := by
  unfold allOf addAnd
  split
  · simp
  split
  · simp
  split
  · simp
  split
  · simp
  split <;> simp
/-- the end of a turn of a loop: the iterators `its` as they were, the word `J` at the new frame and ledger -/
def TEnd (h₀ : Heap) (L : Addr) (s₁ : Shared) (its : List (Addr × Obj)) (J : (Str → Option Value) → List (Addr × Obj) → Prop) (s₂ : Shared) : Prop := UnrEndW h₀ L s₁ its J s₂
def TPost (h₀ : Heap) (L : Addr) (s₁ : Shared) (its : List (Addr × Obj)) (J : (Str → Option Value) → List (Addr × Obj) → Prop) (Q : Flow → Shared → Prop) (f : Flow) (s₂ : Shared) : Prop :=
  match f with
  | .ret v => Q (.ret v) s₂
  | .brk => Q .next s₂
  | _ => TEnd h₀ L s₁ its J s₂
theorem TPost.next {h₀ : Heap} {L : Addr} {s₁ s₂ : Shared} {its : List (Addr × Obj)} {J : (Str → Option Value) → List (Addr × Obj) → Prop} {Q : Flow → Shared → Prop} (h : TEnd h₀ L s₁ its J s₂) : TPost h₀ L s₁ its J Q .next s₂ := h
theorem TPost.ret {h₀ : Heap} {L : Addr} {s₁ s₂ : Shared} {its : List (Addr × Obj)} {J : (Str → Option Value) → List (Addr × Obj) → Prop} {Q : Flow → Shared → Prop} {v : Value} (h : Q (.ret v) s₂) : TPost h₀ L s₁ its J Q (.ret v) s₂ := h
theorem TEnd.intro {h₀ : Heap} {L : Addr} {s₁ : Shared} {its news' : List (Addr × Obj)} {J : (Str → Option Value) → List (Addr × Obj) → Prop} {h' : Heap} {tk : Nat} {m' : Str → Option Value} (F : Fr h₀ L h' m') (N : News h₀ L h' (its ++ news'))
    (off : ∀ p ∈ news', ∀ q ∈ its, p.1 ≠ q.1) (hj : J m' news') : TEnd h₀ L s₁ its J { s₁ with heap := h', toks := tk } := ⟨h', tk, m', news', rfl, F, N, off, hj⟩

section
variable {prog : Program} {w : World} {A : Around} {E : Value → Shared → Prop} {s : Shared} {env : Env} {h₀ : Heap} {target : Expr} {body : List Stmt} {Q : Flow → Shared → Prop}
theorem letGo_revIter {I t : Addr} {i : Int} {v : Value} {Q' : Unit → Shared → Prop} {s' : Shared} (hit : s'.heap.IsRevIter I t i) (h : Q' () s') :
    wpAny (model prog w) A (letOwnedTupleGo target (.ref I) v) Q' E s' := by
  obtain ⟨o, ho, hc, hd⟩ := hit
  unfold letOwnedTupleGo
  cases target <;> first
    | exact wpAny_pure h
    | (cases v <;> first
        | exact wpAny_pure h
        | (refine wpAny_bind (wpAny_load ho ?_)
           rw [hc, hd]
           exact wpAny_pure h))
theorem items_inv {ws : List (Addr × String)} {keep : List (Addr × Obj)} {xs : List Itm} (J : Nat → (Str → Option Value) → List (Addr × Obj) → Prop)
    (hk : ∀ i m nx, J i m nx → SubL keep nx)
    (turn : ∀ i a v m news its h tk, xs[i]? = some a → a.Is v h → J i m news → Objs ws its → (∀ p ∈ news, ∀ q ∈ its, p.1 ≠ q.1) → Fr h₀ env.locals h m → News h₀ env.locals h (its ++ news) →
      wpAny (model prog w) A (assign target env v) (fun _ s₂ => wpAny (model prog w) A (execs body env) (TPost h₀ env.locals { s with heap := h, toks := tk } its (J (i + 1)) Q) E s₂) E { s with heap := h, toks := tk })
    (done : ∀ m news h tk, J xs.length m news → Fr h₀ env.locals h m → News h₀ env.locals h news → Q .next { s with heap := h, toks := tk }) :
    ∀ k i m news, i + k = xs.length → J i m news → (∀ p ∈ news, p.1 ∉ ws.map (·.1)) → ItemsRest prog w A E h₀ env target body Q s ws keep (xs.drop i) m news := by
  intro k
  induction k with
  | zero =>
    intro i m news hi hj _
    have e : i = xs.length := by omega
    subst e
    rw [List.drop_length]
    exact fun h tk F N => done m news h tk hj F N
  | succ k ih =>
    intro i m news hi hj hoff
    have hlt : i < xs.length := by omega
    rw [List.drop_eq_getElem_cons hlt]
    intro v h tk hv F
    have all : ∀ its, Objs ws its → News h₀ env.locals h (its ++ news) → wpAny (model prog w) A (assign target env v) (fun _ s₂ => wpAny (model prog w) A (execs body env) (UnrPostW h₀ env.locals { s with heap := h, toks := tk } its (fun m' n' => SubL keep n' ∧ ItemsRest prog w A E h₀ env target body Q s ws keep (xs.drop (i + 1)) m' n') Q) E s₂) E { s with heap := h, toks := tk } := by
      intro its hits N
      have hmap := hits.map
      refine wpAny_mono (turn i _ v m news its h tk (List.getElem?_eq_getElem hlt) hv hj hits (fun p hp q hq e => hoff p hp (by rw [e, ← hmap]; exact List.mem_map_of_mem hq)) F N) (fun _ s₂ h2 => wpAny_mono h2 (fun f s₃ h3 => ?_) fun _ _ e => e) fun _ _ e => e
      have fin : TEnd h₀ env.locals { s with heap := h, toks := tk } its (J (i + 1)) s₃ → UnrEndW h₀ env.locals { s with heap := h, toks := tk } its (fun m' n' => SubL keep n' ∧ ItemsRest prog w A E h₀ env target body Q s ws keep (xs.drop (i + 1)) m' n') s₃ := by
        rintro ⟨h', tk', m', news', e, F', N', off', hj'⟩
        refine ⟨h', tk', m', news', e, F', N', off', hk _ _ _ hj', ih (i + 1) m' news' (by omega) hj' fun p hp hm => ?_⟩
        rw [← hmap] at hm
        obtain ⟨q, hq, e⟩ := List.mem_map.mp hm
        exact off' p hp q hq e.symm
      cases f with
      | ret v => exact h3
      | brk => exact h3
      | next => exact fin h3
      | cont => exact fin h3
    have go : ∀ (ws' : List (Addr × String)) (k : List (Addr × Obj) → Prop), (∀ its, Objs ws' its → k its) → AllObj ws' k := by
      intro ws'
      induction ws' with
      | nil => intro k h; exact h [] trivial
      | cons q r ih2 => intro k h o ho; exact ih2 _ fun its hi => h _ ⟨⟨rfl, ho⟩, hi⟩
    exact go ws _ fun its hits N => all its hits N

theorem for_list {ax : Addr} {lo : Obj} {vs : List Value} {n : Nat} {iter : Expr} {pos : Pos} {m₀ : Str → Option Value} (J : Nat → (Str → Option Value) → List (Addr × Obj) → Prop) (hh : A.handled = none) (hc : lo.cls = .type "list") (hd : lo.data = .seq vs.toArray n) (F : Fr h₀ env.locals s.heap m₀)
    (heval : wpAny (model prog w) A (eval iter env) (fun xv s₁ => ∃ h tk m news, xv = .ref ax ∧ s₁ = { s with heap := h, toks := tk } ∧ Fr h₀ env.locals h m ∧ News h₀ env.locals h news ∧ J 0 m news) (fun _ _ => False) s)
    (hJ : ∀ i m nx, J i m nx → (ax, lo) ∈ nx)
    (turn : ∀ i v m news I oI h tk, vs[i]? = some v → J i m news → oI.cls = .type "list_iterator" → (∀ p ∈ news, p.1 ≠ I) → Fr h₀ env.locals h m → News h₀ env.locals h ((I, oI) :: news) →
      ∀ Qt : Flow → Shared → Prop, (∀ f s₂, TPost h₀ env.locals { s with heap := h, toks := tk } [(I, oI)] (J (i + 1)) Q f s₂ → Qt f s₂) → wpAny (model prog w) A (assign target env v) (fun _ s₂ => wpAny (model prog w) A (execs body env) Qt (fun _ _ => False) s₂) (fun _ _ => False) { s with heap := h, toks := tk })
    (done : ∀ m news h tk, J vs.length m news → Fr h₀ env.locals h m → News h₀ env.locals h news → Q .next { s with heap := h, toks := tk })
    (hs : ∀ x, foldedSetIterable iter env x = pure x := by intro _; rfl) :
    wpAny (model prog w) A (exec (.For target iter body [] pos) env) Q E s := by
  refine wpAny_noRaise (For_turns F (wpAny_mono heval (fun xv s₁ h1 => ?_) fun _ _ e => e) hs PassesOwn.never)
  obtain ⟨h, tk, m, news, rfl, rfl, F1, N1, hj⟩ := h1
  refine iter_listTurns hh F1 N1 (hJ _ _ _ hj) hc hd fun I l1 => ?_
  refine items_inv (s := { s with heap := h, toks := tk }) (xs := vs.map .val) (keep := [(ax, lo)]) J (fun i m nx h => ⟨hJ _ _ _ h, trivial⟩) ?_ ?_ vs.length 0 m news (by simp) hj ?_
  · intro i a v m news its h tk ha hv hj hits off F N
    match its, hits, N, off with
    | [(I', oI)], hits, N, off =>
      obtain ⟨⟨e1, e2⟩, _⟩ := hits
      have hv' : vs[i]? = some v := by
        rw [List.getElem?_map] at ha
        cases e : vs[i]? with
        | none => rw [e] at ha; cases ha
        | some u => rw [e] at ha; cases ha; exact congrArg some hv.symm
      exact turn i v m news I' oI h tk hv' hj e2 (fun p hp => off p hp _ (.head _)) F N _ (fun _ _ h => h)
    | [], hits, _, _ => exact hits.elim
    | _ :: _ :: _, hits, _, _ => exact hits.2.elim
  · intro m news h tk hj F N
    exact done m news h tk (by simpa using hj) F N
  · intro p hp hm
    simp at hm
    exact Nat.lt_irrefl _ (hm ▸ l1 p hp)

theorem for_tup {ax : Addr} {lo : Obj} {vs : List Value} {n : Nat} {iter : Expr} {pos : Pos} {m₀ : Str → Option Value} (J : Nat → (Str → Option Value) → List (Addr × Obj) → Prop) (hh : A.handled = none) (hc : lo.cls = .type "tuple") (hd : lo.data = .seq vs.toArray n) (F : Fr h₀ env.locals s.heap m₀)
    (heval : wpAny (model prog w) A (eval iter env) (fun xv s₁ => ∃ h tk m news, xv = .ref ax ∧ s₁ = { s with heap := h, toks := tk } ∧ Fr h₀ env.locals h m ∧ News h₀ env.locals h news ∧ J 0 m news) (fun _ _ => False) s)
    (hJ : ∀ i m nx, J i m nx → (ax, lo) ∈ nx)
    (turn : ∀ i v m news I oI h tk, vs[i]? = some v → J i m news → oI.cls = .type "tuple_iterator" → (∀ p ∈ news, p.1 ≠ I) → Fr h₀ env.locals h m → News h₀ env.locals h ((I, oI) :: news) →
      ∀ Qt : Flow → Shared → Prop, (∀ f s₂, TPost h₀ env.locals { s with heap := h, toks := tk } [(I, oI)] (J (i + 1)) Q f s₂ → Qt f s₂) → wpAny (model prog w) A (assign target env v) (fun _ s₂ => wpAny (model prog w) A (execs body env) Qt (fun _ _ => False) s₂) (fun _ _ => False) { s with heap := h, toks := tk })
    (done : ∀ m news h tk, J vs.length m news → Fr h₀ env.locals h m → News h₀ env.locals h news → Q .next { s with heap := h, toks := tk })
    (hs : ∀ x, foldedSetIterable iter env x = pure x := by intro _; rfl) :
    wpAny (model prog w) A (exec (.For target iter body [] pos) env) Q E s := by
  refine wpAny_noRaise (For_turns F (wpAny_mono heval (fun xv s₁ h1 => ?_) fun _ _ e => e) hs PassesOwn.never)
  obtain ⟨h, tk, m, news, rfl, rfl, F1, N1, hj⟩ := h1
  refine iter_tupTurns hh F1 N1 (hJ _ _ _ hj) hc hd fun I l1 => ?_
  refine items_inv (s := { s with heap := h, toks := tk }) (xs := vs.map .val) (keep := [(ax, lo)]) J (fun i m nx h => ⟨hJ _ _ _ h, trivial⟩) ?_ ?_ vs.length 0 m news (by simp) hj ?_
  · intro i a v m news its h tk ha hv hj hits off F N
    match its, hits, N, off with
    | [(I', oI)], hits, N, off =>
      obtain ⟨⟨e1, e2⟩, _⟩ := hits
      have hv' : vs[i]? = some v := by
        rw [List.getElem?_map] at ha
        cases e : vs[i]? with
        | none => rw [e] at ha; cases ha
        | some u => rw [e] at ha; cases ha; exact congrArg some hv.symm
      exact turn i v m news I' oI h tk hv' hj e2 (fun p hp => off p hp _ (.head _)) F N _ (fun _ _ h => h)
    | [], hits, _, _ => exact hits.elim
    | _ :: _ :: _, hits, _, _ => exact hits.2.elim
  · intro m news h tk hj F N
    exact done m news h tk (by simpa using hj) F N
  · intro p hp hm
    simp at hm
    exact Nat.lt_irrefl _ (hm ▸ l1 p hp)

theorem for_range {a₀ b₀ : Int} {n : Nat} {x : Str} {px : Pos} {iter : Expr} {pos : Pos} {m₀ : Str → Option Value} (J : Nat → (Str → Option Value) → List (Addr × Obj) → Prop) (hh : A.handled = none) (F : Fr h₀ env.locals s.heap m₀)
    (hsmall : Builtin.Range.small a₀ b₀ 1 = true) (hn : Builtin.Range.rangeSize a₀ b₀ 1 = (n : Int))
    (heval : wpAny (model prog w) A (eval iter env) (fun xv s₁ => ∃ r t₀ u₀ v₀ h tk m news, xv = .ref r ∧ s₁ = { s with heap := h, toks := tk } ∧ IsRange h r a₀ b₀ 1 t₀ u₀ v₀ ∧ Fr h₀ env.locals h m ∧ News h₀ env.locals h news ∧ J 0 m news) (fun _ _ => False) s)
    (turn : ∀ (i : Nat) t m news I oI h tk, i < n → J i m news → oI.cls = .type "range_iterator" → (∀ p ∈ news, p.1 ≠ I) → Fr h₀ env.locals h m → News h₀ env.locals h ((I, oI) :: news) →
      ∀ Qt : Flow → Shared → Prop, (∀ f s₂, TPost h₀ env.locals { s with heap := h, toks := tk } [(I, oI)] (J (i + 1)) Q f s₂ → Qt f s₂) → wpAny (model prog w) A (assign (.Name x px) env (.int (a₀ + i) t)) (fun _ s₂ => wpAny (model prog w) A (execs body env) Qt (fun _ _ => False) s₂) (fun _ _ => False) { s with heap := h, toks := tk })
    (done : ∀ m news h tk, J n m news → Fr h₀ env.locals h m → News h₀ env.locals h news → Q .next { s with heap := h, toks := tk })
    (hs : ∀ x, foldedSetIterable iter env x = pure x := by intro _; rfl) :
    wpAny (model prog w) A (exec (.For (.Name x px) iter body [] pos) env) Q E s := by
  refine wpAny_noRaise (For_turns F (wpAny_mono heval (fun xv s₁ h1 => ?_) fun _ _ e => e) hs PassesOwn.never)
  obtain ⟨r, t₀, u₀, v₀, h, tk, m, news, rfl, rfl, hr, F1, N1, hj⟩ := h1
  refine wpAny_pyIter_range hr hsmall ?_
  have hfresh : ∀ p ∈ news, p.1 ∉ ([(h.objs.size, "range_iterator")] : List (Addr × String)).map (·.1) := by
    intro p hp hm
    simp at hm
    exact Nat.lt_irrefl _ (hm ▸ Heap.lt_size (N1 p hp).1)
  have W : Walks prog w A h.objs.size [h.objs.size] [h.objs.size] n (fun i v => i < n ∧ ∃ t, v = .int (a₀ + i * 1) t) (fun i h' => IsRangeIter h' h.objs.size (a₀ + (i : Nat) * 1) ((n : Int) - (i : Nat)) 1) := (Walks.range hh _ a₀ 1 n).bound
  refine ktu_core (tk0 := tk) (s := { s with heap := h, toks := tk }) (ws := [(h.objs.size, "range_iterator")]) (keep := []) (xs := (List.range n).map fun i => Itm.tok (fun t => .int (a₀ + (i : Nat)) t)) (KTurns.ofWalks W (fun i v s Q E st q => wpAny_pure q)) (by simp) ?_ ?_ ?_ ?_ ?_ ?_ ?_ ?_ (F1.push _) (fun p hp => ⟨Heap.get?_push_of_some _ (N1 p hp).1, (N1 p hp).2⟩) trivial ?_
  · rintro i v h ⟨hi, t, rfl⟩
    refine ⟨Itm.tok (fun t => .int (a₀ + (i : Nat)) t), by simp [hi], t, by simp⟩
  · intro i h' st
    exact ⟨[(h.objs.size, _)], ⟨⟨rfl, rfl⟩, trivial⟩, fun p hp => by rw [List.mem_singleton.mp hp]; exact st⟩
  · intro b hb
    have e : b = h.objs.size := by simpa using hb
    rw [e]
    exact ⟨List.mem_cons_self .., next_is_new F1⟩
  · intro b hb; simpa using hb
  · intro b hb; exact .inl (by simpa using hb)
  · intro hm
    exact absurd F1.ns.lt ((List.mem_singleton.mp hm) ▸ Nat.lt_irrefl _)
  · intro p hp hI; exact hfresh p hp (by simpa using hI)
  · show IsRangeIter _ _ _ _ _
    rw [hn]
    simpa using Heap.get?_push_size _ rfl
  · refine items_inv (s := { s with heap := h, toks := tk }) (keep := []) J (fun i m nx h => trivial) ?_ ?_ n 0 m news (by simp) hj hfresh
    · intro i a v m news its h tk ha hv hj hits off F N
      match its, hits, N, off with
      | [(I', oI)], hits, N, off =>
        obtain ⟨⟨e1, e2⟩, _⟩ := hits
        have hlt : i < n := by
          have := (List.getElem?_eq_some_iff.mp ha).1
          simpa using this
        have hv' : ∃ t, v = .int (a₀ + (i : Nat)) t := by
          rw [List.getElem?_map, List.getElem?_range hlt] at ha
          cases ha
          exact hv
        obtain ⟨t, rfl⟩ := hv'
        exact turn i t m news I' oI h tk hlt hj e2 (fun p hp => off p hp _ (.head _)) F N _ (fun _ _ h => h)
      | [], hits, _, _ => exact hits.elim
      | _ :: _ :: _, hits, _, _ => exact hits.2.elim
    · intro m news h tk hj F N
      exact done m news h tk (by simpa using hj) F N

theorem for_rev {ax : Addr} {lo : Obj} {vs : List Value} {n : Nat} {iter : Expr} {pos : Pos} {m₀ : Str → Option Value} (J : Nat → (Str → Option Value) → List (Addr × Obj) → Prop) (hh : A.handled = none) (hc : lo.cls = .type "list") (hd : lo.data = .seq vs.toArray n) (F : Fr h₀ env.locals s.heap m₀)
    (heval : wpAny (model prog w) A (eval iter env) (fun xv s₁ => ∃ D h tk m news, xv = .ref D ∧ s₁ = { s with heap := h, toks := tk } ∧ Fr h₀ env.locals h m ∧ News h₀ env.locals h ((D, revObj ax ((vs.length : Int) - 1)) :: news) ∧ (∀ p ∈ news, p.1 < D) ∧ J 0 m news) (fun _ _ => False) s)
    (hJ : ∀ i m nx, J i m nx → (ax, lo) ∈ nx)
    (turn : ∀ i v m news I oI h tk, vs.reverse[i]? = some v → J i m news → oI.cls = .type "list_reverseiterator" → (∀ p ∈ news, p.1 ≠ I) → Fr h₀ env.locals h m → News h₀ env.locals h ((I, oI) :: news) →
      ∀ Qt : Flow → Shared → Prop, (∀ f s₂, TPost h₀ env.locals { s with heap := h, toks := tk } [(I, oI)] (J (i + 1)) Q f s₂ → Qt f s₂) → wpAny (model prog w) A (assign target env v) (fun _ s₂ => wpAny (model prog w) A (execs body env) Qt (fun _ _ => False) s₂) (fun _ _ => False) { s with heap := h, toks := tk })
    (done : ∀ m news h tk, J vs.length m news → Fr h₀ env.locals h m → News h₀ env.locals h news → Q .next { s with heap := h, toks := tk })
    (hs : ∀ x, foldedSetIterable iter env x = pure x := by intro _; rfl) :
    wpAny (model prog w) A (exec (.For target iter body [] pos) env) Q E s := by
  refine wpAny_noRaise (For_turns F (wpAny_mono heval (fun xv s₁ h1 => ?_) fun _ _ e => e) hs PassesOwn.never)
  obtain ⟨D, h, tk, m, news, rfl, rfl, F1, N1, l1, hj⟩ := h1
  have hD := N1 _ (.head _)
  have hax := N1 _ (.tail _ (hJ _ _ _ hj))
  have hit : h.IsRevIter D ax ((vs.length : Int) - 1) := ⟨_, hD.1, rfl, rfl⟩
  have hl : h.IsList ax vs.toArray := ⟨lo, hax.1, hc, n, hd⟩
  have hne : ax ≠ D := Nat.ne_of_lt (l1 _ (hJ _ _ _ hj))
  have hfresh : ∀ p ∈ news, p.1 ∉ ([(D, "list_reverseiterator")] : List (Addr × String)).map (·.1) := by
    intro p hp hm
    simp at hm
    exact Nat.lt_irrefl _ (hm ▸ l1 p hp)
  refine wpAny_pyIter_revIter hit ?_
  refine ktu_core (tk0 := tk) (s := { s with heap := h, toks := tk }) (ws := [(D, "list_reverseiterator")]) (keep := [(ax, lo)]) (xs := vs.reverse.map .val) (KTurns.ofWalks (Walks.listRev hh D ax hne vs.toArray).bound (fun i v s Q E st q => letGo_revIter st.2.1 q)) (by simp) ?_ ?_ ?_ ?_ ?_ ?_ ?_ ?_ F1 (fun p hp => N1 p (.tail _ hp)) ⟨hJ _ _ _ hj, trivial⟩ ?_
  · rintro i v h ⟨hlt, hv⟩
    refine ⟨.val v, ?_, rfl⟩
    have hv' : vs.toArray[vs.toArray.size - 1 - i]? = some v := hv
    simp at hv' hlt
    rw [List.getElem?_map, List.getElem?_reverse hlt, hv']
    rfl
  · intro i h' st
    obtain ⟨it, a, b, c⟩ := st.2.1
    exact ⟨[(D, it)], ⟨⟨rfl, b⟩, trivial⟩, fun p hp => by rw [List.mem_singleton.mp hp]; exact a⟩
  · intro b hb
    have e : b = D := by simpa using hb
    rw [e]
    exact ⟨List.mem_cons_self .., hD.2.2⟩
  · intro b hb; simpa using hb
  · intro b hb
    have hb' : b = D ∨ b = ax := by simpa using hb
    rcases hb' with e | e
    · exact .inl (by simp [e])
    · exact .inr ⟨lo, by simp [e]⟩
  · intro hI
    rcases List.mem_cons.mp hI with e | hI
    · exact hD.2.1 e.symm
    · exact hax.2.1 (List.mem_singleton.mp hI).symm
  · intro p hp hI; exact hfresh p hp (by simpa using hI)
  · exact ⟨Nat.zero_le _, by simpa using hit, hl⟩
  · refine items_inv (s := { s with heap := h, toks := tk }) (keep := [(ax, lo)]) J (fun i m nx h => ⟨hJ _ _ _ h, trivial⟩) ?_ ?_ vs.length 0 m news (by simp) hj hfresh
    · intro i a v m news its h tk ha hv hj hits off F N
      match its, hits, N, off with
      | [(I', oI)], hits, N, off =>
        obtain ⟨⟨e1, e2⟩, _⟩ := hits
        have hv' : vs.reverse[i]? = some v := by
          rw [List.getElem?_map] at ha
          cases e : vs.reverse[i]? with
          | none => rw [e] at ha; cases ha
          | some u => rw [e] at ha; cases ha; exact congrArg some hv.symm
        exact turn i v m news I' oI h tk hv' hj e2 (fun p hp => off p hp _ (.head _)) F N _ (fun _ _ h => h)
      | [], hits, _, _ => exact hits.elim
      | _ :: _ :: _, hits, _, _ => exact hits.2.elim
    · intro m news h tk hj F N
      exact done m news h tk (by simpa using hj) F N
theorem range_1 {L : Addr} {m : Str → Option Value} {news : List (Addr × Obj)} {b : Int} {t : Tok} {Q : Value → Shared → Prop} (F : Fr h₀ L s.heap m) (N : News h₀ L s.heap news)
    (h : ∀ r t₀ u₀ v₀ h' tk, IsRange h' r 0 b 1 t₀ u₀ v₀ → Fr h₀ L h' m → News h₀ L h' news → Q (.ref r) { s with heap := h', toks := tk }) : wpAny (model prog w) A (call (.type "range") [.int b t]) Q E s := by
  refine call_range_1 (h _ _ _ _ _ _ (IsRange.new _ _ _ _ _ _ _) (F.push _) fun p hp => ⟨Heap.get?_push_of_some _ (N p hp).1, (N p hp).2⟩)
theorem range_2 {L : Addr} {m : Str → Option Value} {news : List (Addr × Obj)} {a b : Int} {t u : Tok} {Q : Value → Shared → Prop} (F : Fr h₀ L s.heap m) (N : News h₀ L s.heap news)
    (h : ∀ r t₀ u₀ v₀ h' tk, IsRange h' r a b 1 t₀ u₀ v₀ → Fr h₀ L h' m → News h₀ L h' news → Q (.ref r) { s with heap := h', toks := tk }) : wpAny (model prog w) A (call (.type "range") [.int a t, .int b u]) Q E s := by
  refine call_range_2 (h _ _ _ _ _ _ (IsRange.new _ _ _ _ _ _ _) (F.push _) fun p hp => ⟨Heap.get?_push_of_some _ (N p hp).1, (N p hp).2⟩)
theorem range_size {n : Nat} (h : n ≤ 1000000) : Builtin.Range.small 0 (n : Int) 1 = true ∧ Builtin.Range.rangeSize 0 (n : Int) 1 = ((n : Nat) : Int) := by
  refine ⟨small_one (by omega) (by omega) (by omega) (by omega), ?_⟩
  rw [rangeSize_nat]; omega
theorem range_size2 {a b : Int} {n : Nat} (h : n ≤ 1000000) (h0 : 0 ≤ a) (h1 : a ≤ 1000000) (e : b = a + n) : Builtin.Range.small a b 1 = true ∧ Builtin.Range.rangeSize a b 1 = ((n : Nat) : Int) := by
  refine ⟨small_one (by omega) (by omega) (by omega) (by omega), ?_⟩
  rw [rangeSize_nat]; omega
end
section
variable {prog : Program} {w : World} {A : Around} {E : Value → Shared → Prop} {s : Shared} {h₀ : Heap} {L d l : Addr} {m : Str → Option Value} {news : List (Addr × Obj)} {o : Obj} {kvs : List (Int × Value)} {k : Int} {t : Tok}
theorem dictAt_mem (N : News h₀ L s.heap news) (hd : (d, o) ∈ news) (ho : o.IsDictOf (intKind prog w) kvs) : s.heap.DictOf (intKind prog w) d kvs := Heap.dictOf_iff.mpr ⟨o, (N _ hd).1, ho⟩
theorem inI {Q : Value → Shared → Prop} (N : News h₀ L s.heap news) (hd : (d, o) ∈ news) (lo : (d == sysModules) = false) (ho : o.IsDictOf (intKind prog w) kvs)
    (h : Q (.bool (valueAt kvs k).isSome) { s with toks := s.toks + 1 }) : wpAny (model prog w) A (compareOp .In (.int k t) (.ref d)) Q E s :=
  wpAny_in_of (intKind_is prog w k t) lo (dictAt_mem N hd ho).mapOf h
theorem notInI {Q : Value → Shared → Prop} (N : News h₀ L s.heap news) (hd : (d, o) ∈ news) (lo : (d == sysModules) = false) (ho : o.IsDictOf (intKind prog w) kvs)
    (h : Q (.bool (!(valueAt kvs k).isSome)) { s with toks := s.toks + 1 }) : wpAny (model prog w) A (compareOp .NotIn (.int k t) (.ref d)) Q E s :=
  wpAny_notIn_of (intKind_is prog w k t) lo (dictAt_mem N hd ho).mapOf h
theorem itemI {value slice : PySem.Expr} {v : Value} {Q : Value → Shared → Prop} (N : News h₀ L s.heap news) (hd : (d, o) ∈ news) (ho : o.IsDictOf (intKind prog w) kvs) (hv : valueAt kvs k = some v)
    (h : Q v { s with toks := s.toks + 1 }) (hs : subscripted slice false (.ref d) (.int k t) = operate [.ref d, .int k t] (getItem (.ref d) (.int k t)) := by with_unfolding_all rfl) :
    wpAny (model prog w) A (subscriptTail value slice (.ref d) (.int k t)) Q E s :=
  have hm := (dictAt_mem N hd ho).mapOf
  tail_any hm.typeIs slot_dict_getitem.lookup (wpAny_getItem_of (intKind_is prog w k t) hm hv h) hs
theorem setI {v : Value} {f : Obj → List (Addr × Obj)} {Q : Unit → Shared → Prop} (F : Fr h₀ L s.heap m) (N : News h₀ L s.heap news) (U : ∀ o', Upd d o o' news (f o')) (ho : o.IsDictOf (intKind prog w) kvs) (hz : kvs.length ≤ 1000000)
    (h : ∀ h' o', Fr h₀ L h' m → News h₀ L h' (f o') → o'.IsDictOf (intKind prog w) (stored kvs k v) → Q () { s with heap := h', toks := s.toks + 1 }) :
    wpAny (model prog w) A (setItem (.ref d) (.int k t) v) Q E s := by
  have hd : (d, o) ∈ news := by
    obtain ⟨pre, post, e, _⟩ := (U o).split
    rw [e]; exact List.mem_append.mpr (.inr (.head _))
  refine wpAny_setItem_pairs (hsz := by unfold sizeLine; omega) (intKind_is prog w k t) (dictAt_mem N hd ho) fun h' hm hs => ?_
  obtain ⟨o', ho', hd'⟩ := Heap.dictOf_iff.mp hm
  have z := N _ hd
  obtain ⟨pre, post, e1, e2, a, b⟩ := (U o').split
  rw [e1] at N
  refine h h' o' (F.change hs z.2.1 z.2.2) ?_ hd'
  rw [e2]
  exact news_set N a b hs ho'
theorem itemS {kvs : List (Str × Value)} {k : Str} {value slice : PySem.Expr} {v : Value} {Q : Value → Shared → Prop} (N : News h₀ L s.heap news) (hd : (d, o) ∈ news) (ho : o.IsDictOf (strKind prog w) kvs) (hv : valueAt kvs k = some v)
    (h : Q v { s with toks := s.toks + 1 }) (hs : subscripted slice false (.ref d) (.str k t) = operate [.ref d, .str k t] (getItem (.ref d) (.str k t)) := by with_unfolding_all rfl) :
    wpAny (model prog w) A (subscriptTail value slice (.ref d) (.str k t)) Q E s :=
  have hm := (Heap.dictOf_iff.mpr ⟨o, (N _ hd).1, ho⟩ : s.heap.DictOf (strKind prog w) d kvs).mapOf
  tail_any hm.typeIs slot_dict_getitem.lookup (wpAny_getItem_of (strKind_is prog w k t) hm hv h) hs
theorem setS {kvs : List (Str × Value)} {k : Str} {v : Value} {f : Obj → List (Addr × Obj)} {Q : Unit → Shared → Prop} (F : Fr h₀ L s.heap m) (N : News h₀ L s.heap news) (U : ∀ o', Upd d o o' news (f o')) (ho : o.IsDictOf (strKind prog w) kvs) (hz : kvs.length ≤ 1000000)
    (h : ∀ h' o', Fr h₀ L h' m → News h₀ L h' (f o') → o'.IsDictOf (strKind prog w) (stored kvs k v) → Q () { s with heap := h', toks := s.toks + 1 }) :
    wpAny (model prog w) A (setItem (.ref d) (.str k t) v) Q E s := by
  have hd : (d, o) ∈ news := by
    obtain ⟨pre, post, e, _⟩ := (U o).split
    rw [e]; exact List.mem_append.mpr (.inr (.head _))
  refine wpAny_setItem_pairs (hsz := by unfold sizeLine; omega) (strKind_is prog w k t) (Heap.dictOf_iff.mpr ⟨o, (N _ hd).1, ho⟩) fun h' hm hs => ?_
  obtain ⟨o', ho', hd'⟩ := Heap.dictOf_iff.mp hm
  have z := N _ hd
  obtain ⟨pre, post, e1, e2, a, b⟩ := (U o').split
  rw [e1] at N
  refine h h' o' (F.change hs z.2.1 z.2.2) ?_ hd'
  rw [e2]
  exact news_set N a b hs ho'
theorem sort_head {vs : List Value} {ns : List Int} {n : Nat} {Q : Value → Shared → Prop} (F : Fr h₀ L s.heap m) (N : News h₀ L s.heap ((l, listOf vs.toArray n) :: news)) (hlt : ∀ q ∈ news, q.1 < l) (hI : IntsAre vs ns) (h64 : vs.length < 64)
    (h : ∀ h' vs' ns' e, Fr h₀ L h' m → News h₀ L h' ((l, listOf vs'.toArray e) :: news) → IntsAre vs' ns' → ns'.Perm ns → ns'.Pairwise (· ≤ ·) → Q .none { s with heap := h' }) : wpAny (model prog w) A (call (.builtin "list.sort") [.ref l]) Q E s := by
  have z := N _ (.head _)
  refine wpAny_call_entry slot_list_sort ⟨_, z.1, rfl⟩ entry_list_sort ?_ (args_list_sort _)
  refine list_sort_tree (vs := vs) (n := n) z.1 hI h64 fun out ns' a1 a2 a3 => ⟨_, rfl, ?_⟩
  obtain ⟨e, he⟩ := sortedHeap_at (out := out) (vs := vs) (n := n) z.1
  have old : ∀ b ob, b ≠ l → s.heap.get? b = some ob → (sortedHeap s.heap l vs out).get? b = some ob := fun b ob hb hg => (sortedHeap_old hb (Heap.lt_size hg)).trans hg
  have he' : (sortedHeap s.heap l vs out).get? l = some (listOf out.toList.toArray e) := by rw [he]
  refine h _ out.toList ns' e ⟨F.ns.at' fun ob hg => old _ ob (Ne.symm z.2.1) hg, fun b ob hg => old b ob (fun q => by rw [q, z.2.2] at hg; cases hg) (F.keep b ob hg), F.above⟩ ?_ a1 a2 a3
  intro p hp
  rcases List.mem_cons.mp hp with rfl | hp
  · exact ⟨he', z.2⟩
  · have y := N p (.tail _ hp)
    exact ⟨old _ _ (Nat.ne_of_lt (hlt p hp)) y.1, y.2⟩
theorem keys_ints : ∀ (vs : List Value) (kvs : List (Int × Value)), vs.length = kvs.length → (∀ (j : Nat) v, vs[j]? = some v → ∃ k x, kvs[j]? = some (k, x) ∧ (intKind prog w).is k v = true) → IntsAre vs (kvs.map (·.1)) := by
  intro vs
  induction vs with
  | nil => intro kvs hl _; match kvs, hl with | [], _ => exact .nil
  | cons v r ih =>
    intro kvs hl hv
    match kvs, hl, hv with
    | (k, x) :: q, hl, hv =>
      obtain ⟨k', x', e, hk⟩ := hv 0 v rfl
      have e' : (k, x) = (k', x') := by simpa using e
      cases e'
      obtain ⟨t, rfl⟩ := Value.isInt_shape hk
      exact .cons _ _ (ih q (by simpa using hl) fun j u hu => hv (j + 1) u hu)
theorem sortedI {Q : Value → Shared → Prop} (hh : A.handled = none) (F : Fr h₀ L s.heap m) (N : News h₀ L s.heap news) (hd : (d, o) ∈ news) (lo : (d == sysModules) = false) (ho : o.IsDictOf (intKind prog w) kvs) (h64 : kvs.length < 64)
    (h : ∀ B h' tk vs ns e, Fr h₀ L h' m → News h₀ L h' ((B, listOf vs.toArray e) :: news) → (∀ q ∈ news, q.1 < B) → vs.length = kvs.length → IntsAre vs ns → ns.Perm (kvs.map (·.1)) → ns.Pairwise (· ≤ ·) → Q (.ref B) { s with heap := h', toks := tk }) :
    wpAny (model prog w) A (call (.builtin "sorted") [.ref d]) Q E s := by
  obtain ⟨ep, hat⟩ := (dictAt_mem N hd ho).dictAt
  refine kdu_sorted (kdl_dict (knd := intKind prog w) (kvs := kvs) (ep := ep) lo) hh F N hat (by unfold sizeLine; omega) fun B h' tk vs F' N' l1 hl hv => ?_
  exact sort_head F' N' l1 (keys_ints vs kvs hl hv) (by omega) fun h2 vs' ns' e F2 N2 a1 a2 a3 => h B h2 _ vs' ns' e F2 N2 l1 (by have := a1.length; have := a2.length_eq; simp at *; omega) a1 a2 a3
end
section
variable {prog : Program} {w : World} {A : Around} {E : Value → Shared → Prop} {s : Shared} {h₀ : Heap} {L l d a : Addr} {m : Str → Option Value} {news : List (Addr × Obj)} {o : Obj} {D : List (PyData × PyData)} {us : List Value} {ps : List Int} {n : Nat}
theorem len_tup {vs : List Value} {n : Nat} {Q : Value → Shared → Prop} (N : News h₀ L s.heap news) (hl : (l, tupO vs n) ∈ news) (hz : vs.length < 2 ^ 62)
    (h : Q (.int (vs.length : Nat) (s.toks + 1)) { s with toks := s.toks + 1 + 1 }) : wpAny (model prog w) A (call (.builtin "len") [.ref l]) Q E s := by
  refine PyProof.Rows.len_tuple (News.isTup N hl) (by simp only [List.size_toArray]; omega) ?_
  simpa using h
theorem item_tup {value slice : PySem.Expr} {vs : List Value} {n : Nat} {k : Int} {u : Tok} {v : Value} {Q : Value → Shared → Prop} (N : News h₀ L s.heap news) (hl : (l, tupO vs n) ∈ news)
    (hx : vs[k.toNat]? = some v) (h0 : 0 ≤ k) (hhi : k < 2 ^ 63) (h : Q v s)
    (hs : subscripted slice false (.ref l) (.int k u) = operate [.ref l, .int k u] (getItem (.ref l) (.int k u)) := by with_unfolding_all rfl) :
    wpAny (model prog w) A (subscriptTail value slice (.ref l) (.int k u)) Q E s := by
  have hlt := (List.getElem?_eq_some_iff.mp hx).1
  refine item_tupleT (j := k.toNat) (News.isTup N hl) (by omega) hhi ?_ hx h hs
  simp only [seqIndex?]
  rw [if_neg (show ¬ k < 0 by omega)]
  have e : (decide (0 ≤ k) && decide (k < (vs.length : Int))) = true := by simp; omega
  rw [if_pos e]
theorem tuple_of {vs : List Value} {n : Nat} {Q : Value → Shared → Prop} (F : Fr h₀ L s.heap m) (N : News h₀ L s.heap news) (hl : (l, listOf vs.toArray n) ∈ news) (hz : vs.length ≤ 16384)
    (h : ∀ D h', Fr h₀ L h' m → News h₀ L h' ((D, tupO vs 0) :: news) → (∀ p ∈ news, p.1 < D) → Q (.ref D) { s with heap := h' }) : wpAny (model prog w) A (call (.type "tuple") [.ref l]) Q E s :=
  kde_tupleOf F N (News.isList N hl) (by simpa using hz) (by simp) h
theorem items_are (hi : IntsAre us ps) : ItemsAre (intKind prog w) ps us := by
  induction hi with
  | nil => exact .nil
  | cons i t _ ih => exact .cons (intKind_is prog w i t) ih
theorem tupKey (hi : IntsAre us ps) : TupKeyObj (intKind prog w) ps (tupO us n) := ⟨rfl, us.toArray, n, rfl, items_are hi⟩
theorem notInT {Q : Value → Shared → Prop} (hu : A.units + 1 < cLine) (N : News h₀ L s.heap news) (T : TupTab (intKind prog w) PyData.int news d D) (ha : (a, tupO us n) ∈ news) (hi : IntsAre us ps) {b : Bool} (hb : (!(Spec.lookup (encTuple PyData.int ps) D).isSome) = b)
    (h : Q (.bool b) { s with toks := s.toks + (ps.length + 1) }) : wpAny (model prog w) A (compareOp .NotIn (.ref a) (.ref d)) Q E s :=
  notin_tupTab PyProof.V.same_int hu N T ha (tupKey hi) (hb ▸ h)
theorem itemT {value slice : PySem.Expr} {k : Int} {Q : Value → Shared → Prop} (hu : A.units + 1 < cLine) (N : News h₀ L s.heap news) (T : TupTab (intKind prog w) PyData.int news d D) (ha : (a, tupO us n) ∈ news) (hi : IntsAre us ps)
    (hl : Spec.lookup (encTuple PyData.int ps) D = some (.int k)) (h : ∀ t, Q (.int k t) { s with toks := s.toks + (ps.length + 1) })
    (hs : subscripted slice false (.ref d) (.ref a) = operate [.ref d, .ref a] (getItem (.ref d) (.ref a)) := by with_unfolding_all rfl) (hg : ∀ r, letTemporaryGo value (.ref d) r = pure () := by intro _; with_unfolding_all rfl) :
    wpAny (model prog w) A (subscriptTail value slice (.ref d) (.ref a)) Q E s := by
  refine item_tupTab PyProof.V.same_int hu N T ha (tupKey hi) hl (fun v hv => ?_) hs hg
  obtain ⟨t, rfl⟩ := hv.int_inv
  exact h t
theorem setT {f : Obj → List (Addr × Obj)} {k : Int} {t : Tok} {Q : Unit → Shared → Prop} (hu : A.units + 1 < cLine) (F : Fr h₀ L s.heap m) (N : News h₀ L s.heap news) (U : ∀ o', Upd d o o' news (f o')) (T : TupTab (intKind prog w) PyData.int news d D) (ha : (a, tupO us n) ∈ news) (hi : IntsAre us ps) (hz : D.length ≤ 1000000)
    (h : ∀ h' o', Fr h₀ L h' m → News h₀ L h' (f o') → Heap.SameBut d s.heap h' → TupTab (intKind prog w) PyData.int (f o') d (PyProof.V.putD (encTuple PyData.int ps) (.int k) D) → Q () { s with heap := h', toks := s.toks + (ps.length + 1) }) :
    wpAny (model prog w) A (setItem (.ref d) (.ref a) (.int k t)) Q E s := by
  obtain ⟨lo, oo, es, ep, xs, hm, hc, hd, he, hn, hk, hf⟩ := T
  have hDm : (d, o) ∈ news := by
    obtain ⟨pre, post, e, _⟩ := (U o).split
    rw [e]; exact List.mem_append.mpr (.inr (.head _))
  obtain rfl : oo = o := Option.some.inj ((N.get hm).symm.trans (N.get hDm))
  have tk := tupKey (prog := prog) (w := w) (n := n) hi
  have hD : s.heap.DictOfH (tupleKind (intKind prog w)) d xs := ⟨oo, es, ep, N.get hm, hc, hd, he, fun x hx => let ⟨_, hmk, t⟩ := hk x hx; t.key (N.get hmk), hn⟩
  have hne : ∀ {b : Addr} {ob : Obj} {ks' : List Int}, (b, ob) ∈ news → TupKeyObj (intKind prog w) ks' ob → b ≠ d := by
    intro b ob ks' hb t e
    subst e
    obtain rfl : ob = oo := Option.some.inj ((N.get hb).symm.trans (N.get hm))
    have h1 := t.1
    rw [hc.1] at h1
    injection h1 with h2
    exact absurd h2 (by decide)
  have hxs : xs.length ≤ sizeLine := by have e := hf.length; simp only [kvsOf, List.length_map] at e; unfold sizeLine; omega
  refine wpAny_setItem_heap (hsz := hxs) (knd := tupleKind (intKind prog w)) (tupleKind_room_in1 hu) (tk.key (N.get ha)) hD fun h' hm' hs => ?_
  obtain ⟨o', es', ep', ho', hc', hd', he', _, hn'⟩ := hm'
  obtain ⟨pre, post, e1, e2, p1, p2⟩ := (U o').split
  have keep : ∀ p ∈ news, p.1 ≠ d → p ∈ f o' := by
    intro p hp hpd
    rw [e1] at hp
    rw [e2]
    rcases List.mem_append.mp hp with hp | hp
    · exact List.mem_append_left _ hp
    · rcases List.mem_cons.mp hp with rfl | hp
      · exact absurd rfl hpd
      · exact List.mem_append_right _ (.tail _ hp)
  refine h h' o' (F.change hs (N _ hm).2.1 (N.fresh hm)) ?_ hs ⟨lo, o', es', ep', storedH xs ps a (.int k t), ?_, hc', hd', he', hn', fun x hx => ?_, by rw [kvsOf_storedH]; exact hf.stored (same_encTuple PyProof.V.same_int) ps (.int k t)⟩
  · rw [e1] at N
    rw [e2]
    exact news_set N p1 p2 hs ho'
  · rw [e2]; exact List.mem_append.mpr (.inr (.head _))
  · rcases mem_storedH hx with ⟨y, hy, q1, q2⟩ | ⟨q1, q2⟩
    · obtain ⟨oky, hmk, t⟩ := hk y hy
      exact ⟨oky, by rw [q2]; exact keep _ hmk (hne hmk t), by rw [q1]; exact t⟩
    · exact ⟨tupO us n, by rw [q2]; exact keep _ ha (hne ha tk), by rw [q1]; exact tk⟩
end
theorem news_same {h₀ h h' : Heap} {L d : Addr} {led : List (Addr × Obj)} (N : News h₀ L h led) (hs : Heap.SameBut d h h') (off : ∀ p ∈ led, p.1 ≠ d) : News h₀ L h' led := fun p hp => ⟨(hs.2 _ (off p hp)).trans (N p hp).1, (N p hp).2⟩
theorem news_app {h₀ h : Heap} {L : Addr} {a b : List (Addr × Obj)} (x : News h₀ L h a) (y : News h₀ L h b) : News h₀ L h (a ++ b) := fun p hp => (List.mem_append.mp hp).elim (x p) (y p)
theorem news_cons {h₀ h : Heap} {L : Addr} {a : Addr × Obj} {b : List (Addr × Obj)} (x : News h₀ L h b) (e : h.get? a.1 = some a.2) (hl : a.1 ≠ L) (hn : h₀.get? a.1 = none) : News h₀ L h (a :: b) := fun p hp => by
  rcases List.mem_cons.mp hp with rfl | hp
  · exact ⟨e, hl, hn⟩
  · exact x p hp
theorem ownOff_sub {S : List (Addr × Obj)} {adr adr' : List Addr} (h : OwnOff S adr) (k : ∀ b ∈ adr', b ∈ adr) : OwnOff S adr' := fun p hp b hb => h p hp b (k b hb)
def foundAt (zs : List Int) : List (Int × Value) := zs.foldl (fun kv z => if z = 1 then kv else stored kv z (Value.bool true)) []
def okAt (zs : List Int) (i : Nat) : Prop := ∀ j z, j < i → zs[j]? = some z → z ≠ -1 ∧ (valueAt (foundAt (zs.take j)) (-z)).isSome = false
theorem foundAt_succ {zs : List Int} {i : Nat} {z : Int} (h : zs[i]? = some z) : foundAt (zs.take (i + 1)) = if z = 1 then foundAt (zs.take i) else stored (foundAt (zs.take i)) z (Value.bool true) := by
  unfold foundAt
  rw [List.take_add_one, h]
  simp
theorem okAt_succ {zs : List Int} {i : Nat} {z : Int} (h : zs[i]? = some z) (k : okAt zs i) (h1 : z ≠ -1) (h2 : (valueAt (foundAt (zs.take i)) (-z)).isSome = false) : okAt zs (i + 1) := by
  intro j y hj hy
  by_cases e : j = i
  · subst e
    rw [h] at hy
    cases hy
    exact ⟨h1, h2⟩
  · exact k j y (by omega) hy
theorem foundAt_len {x y : Int} : (foundAt [x, y]).length ≤ 2 := by
  unfold foundAt
  simp only [List.foldl_cons, List.foldl_nil]
  unfold stored
  split <;> split <;> simp <;> split <;> simp
theorem stored_len (kv : List (Int × Value)) (k : Int) (v : Value) : (stored kv k v).length ≤ kv.length + 1 := by
  unfold stored
  split <;> simp
theorem foundAt_take {x y : Int} : ∀ i : Nat, (foundAt ([x, y].take i)).length ≤ 2
  | 0 => by simp [foundAt]
  | 1 => by
    unfold foundAt
    simp only [List.take_succ_cons, List.take_zero, List.foldl_cons, List.foldl_nil]
    split
    · simp
    · exact Nat.le_trans (stored_len _ _ _) (by simp)
  | i + 2 => by
    have e : [x, y].take (i + 2) = [x, y] := by simp
    rw [e]
    exact foundAt_len
theorem allOf_bad {C : List Gate} {x y z : Int} {i : Nat} (h : [x, y][i]? = some z) (k : okAt [x, y] i) (hb : z = -1 ∨ (valueAt (foundAt ([x, y].take i)) (-z)).isSome = true) : allOf C x y = (C, -1) := by
  match i, h, k, hb with
  | 0, h, k, hb =>
    have e : x = z := by simpa using h
    subst e
    rcases hb with rfl | hb
    · simp [allOf]
    · simp [foundAt, valueAt] at hb
  | 1, h, k, hb =>
    have e : y = z := by simpa using h
    subst e
    have k0 := k 0 x (by omega) rfl
    rcases hb with rfl | hb
    · simp [allOf]
    · unfold foundAt valueAt at hb
      simp only [List.take_succ_cons, List.take_zero, List.foldl_cons, List.foldl_nil] at hb
      by_cases e : x = 1
      · rw [if_pos e] at hb; simp at hb
      · rw [if_neg e] at hb
        have e2 : -y = x := by
          unfold stored at hb
          simp at hb
          omega
        unfold allOf
        rw [if_neg (by omega), if_neg e, if_pos e2]
  | n + 2, h, _, _ => simp at h
/-- what stands in `found` behind the loop -/
theorem allOf_keys {C : List Gate} {x y : Int} (k : okAt [x, y] 2) {ns : List Int} (p : ns.Perm ((foundAt [x, y]).map (·.1))) (o : ns.Pairwise (· ≤ ·)) :
    (ns = [] ∧ allOf C x y = (C, 1)) ∨ (∃ g, ns = [g] ∧ allOf C x y = (C, g)) ∨ (2 ≤ ns.length ∧ allOf C x y = addAnd C ns) := by
  have k0 := k 0 x (by omega) rfl
  have k1 := k 1 y (by omega) rfl
  obtain ⟨hx, _⟩ := k0
  obtain ⟨hy, hk⟩ := k1
  unfold foundAt valueAt at hk
  simp only [List.take_succ_cons, List.take_zero, List.foldl_cons, List.foldl_nil] at hk
  unfold foundAt at p
  simp only [List.foldl_cons, List.foldl_nil] at p
  by_cases e1 : x = 1
  · rw [if_pos e1] at p
    by_cases e2 : y = 1
    · rw [if_pos e2] at p
      refine .inl ⟨by simpa using p, ?_⟩
      unfold allOf
      rw [if_neg (by omega), if_pos e1, e2]
    · rw [if_neg e2] at p
      refine .inr (.inl ⟨y, by simpa [stored] using p, ?_⟩)
      unfold allOf
      rw [if_neg (by omega), if_pos e1]
  · rw [if_neg e1] at p hk
    have hk' : -y ≠ x := by
      intro e
      unfold stored at hk
      simp [e] at hk
    by_cases e2 : y = 1 ∨ y = x
    · refine .inr (.inl ⟨x, ?_, ?_⟩)
      · rcases e2 with rfl | rfl
        · rw [if_pos rfl] at p; simpa [stored] using p
        · rw [if_neg e1] at p; simpa [stored] using p
      · unfold allOf
        rw [if_neg (by omega), if_neg e1, if_neg hk', if_pos e2]
    · have e3 : y ≠ 1 := fun e => e2 (.inl e)
      have e4 : y ≠ x := fun e => e2 (.inr e)
      rw [if_neg e3] at p
      have p' : ns.Perm [x, y] := by simpa [stored, Ne.symm e4] using p
      refine .inr (.inr ⟨by rw [p'.length_eq]; simp, ?_⟩)
      unfold allOf
      rw [if_neg (by omega), if_neg e1, if_neg hk', if_neg e2]
      have hl := p'.length_eq
      match ns, hl, p', o with
      | [a, b], _, p', o =>
        have hab : a ≤ b := by simpa using o
        have ha : a = x ∨ a = y := by have := p'.mem_iff (a := a); simpa using this
        have hb : b = x ∨ b = y := by have := p'.mem_iff (a := b); simpa using this
        have hxa : x = a ∨ x = b := by have := p'.mem_iff (a := x); simpa using this
        have hya : y = a ∨ y = b := by have := p'.mem_iff (a := y); simpa using this
        congr 1
        split
        · have : a = x ∧ b = y := by omega
          rw [this.1, this.2]
        · have : a = y ∧ b = x := by omega
          rw [this.1, this.2]
theorem ints_nil {vs : List Value} (h : IntsAre vs []) : vs = [] := by cases h; rfl
theorem ints_one {vs : List Value} {g : Int} (h : IntsAre vs [g]) : ∃ t, vs = [.int g t] := by
  cases h with
  | cons _ t hr => cases hr; exact ⟨t, rfl⟩
local macro_rules | `(tactic| walk_at $s:str) => `(tactic| k_extra $s)
local macro_rules | `(tactic| k_mem) => `(tactic| first | assumption | exact List.Mem.head _ | (refine' List.Mem.tail _ ?_; k_mem))
local macro_rules | `(tactic| k_ne) => `(tactic| (refine neN ?_; (try dsimp only); first | assumption | exact Nat.ne_of_gt (by assumption) | exact Nat.ne_of_lt (by assumption) | exact Ne.symm (by assumption) | exact Nat.ne_of_gt (And.left (by assumption)) | exact Nat.ne_of_lt (And.left (by assumption)) | exact Ne.symm (And.left (by assumption)) | exact (And.left (by assumption)) | exact Nat.ne_of_gt (And.left (And.right (by assumption))) | exact Nat.ne_of_lt (And.left (And.right (by assumption))) | exact Ne.symm (And.left (And.right (by assumption))) | exact (And.left (And.right (by assumption))) | exact Nat.ne_of_gt (And.left (And.right (And.right (by assumption)))) | exact Nat.ne_of_lt (And.left (And.right (And.right (by assumption)))) | exact Ne.symm (And.left (And.right (And.right (by assumption)))) | exact (And.left (And.right (And.right (by assumption)))) | exact Nat.ne_of_gt (And.left (And.right (And.right (And.right (by assumption))))) | exact Nat.ne_of_lt (And.left (And.right (And.right (And.right (by assumption))))) | exact Ne.symm (And.left (And.right (And.right (And.right (by assumption))))) | exact (And.left (And.right (And.right (And.right (by assumption))))) | exact Nat.ne_of_gt (And.left (And.right (And.right (And.right (And.right (by assumption)))))) | exact Nat.ne_of_lt (And.left (And.right (And.right (And.right (And.right (by assumption)))))) | exact Ne.symm (And.left (And.right (And.right (And.right (And.right (by assumption)))))) | exact (And.left (And.right (And.right (And.right (And.right (by assumption)))))) | exact Nat.ne_of_gt (And.left (And.right (And.right (And.right (And.right (And.right (by assumption))))))) | exact Nat.ne_of_lt (And.left (And.right (And.right (And.right (And.right (And.right (by assumption))))))) | exact Ne.symm (And.left (And.right (And.right (And.right (And.right (And.right (by assumption))))))) | exact (And.left (And.right (And.right (And.right (And.right (And.right (by assumption))))))) | omega))
theorem words : True := by
  w_top off
  k_with "subscriptTail Name Constant ref int" => (k_here; (with_reducible show wpAny _ _ (subscriptTail _ _ (Value.ref _) (Value.int _ _)) _ _ _); k_dflt (refine' item_mem ?k1 ?k2 ?k3 ?k4 ?k5 ?_ ?k6; (case k1 => k_asm); (case k2 => k_mem); (case k3 => first | with_reducible assumption | assumption); (case k4 => first | with_reducible assumption | decide | omega); (case k5 => first | with_reducible assumption | decide | omega); (case k6 => with_unfolding_all rfl); k_whole))
  k_with "subscriptTail Attribute Call ref int" => (k_here; (with_reducible show wpAny _ _ (subscriptTail _ _ (Value.ref _) (Value.int _ _)) _ _ _); k_dflt (refine' item_mem ?k1 ?k2 ?k3 ?k4 ?k5 ?_ ?k6; (case k1 => k_asm); (case k2 => k_mem); (case k3 => first | with_reducible assumption | assumption); (case k4 => first | with_reducible assumption | decide | omega); (case k5 => first | with_reducible assumption | decide | omega); (case k6 => with_unfolding_all rfl); k_whole))
  k_with "subscriptTail Name Name ref int" => (k_here; (with_reducible show wpAny _ _ (subscriptTail _ _ (Value.ref _) (Value.int _ _)) _ _ _); k_dflt (refine' item_mem ?k1 ?k2 ?k3 ?k4 ?k5 ?_ ?k6; (case k1 => k_asm); (case k2 => k_mem); (case k3 => first | with_reducible assumption | assumption); (case k4 => first | with_reducible assumption | decide | omega); (case k5 => first | with_reducible assumption | decide | omega); (case k6 => with_unfolding_all rfl); k_whole))
  k_with "subscriptTail Name Call ref int" => (k_here; (with_reducible show wpAny _ _ (subscriptTail _ _ (Value.ref _) (Value.int _ _)) _ _ _); k_dflt (refine' item_mem ?k1 ?k2 ?k3 ?k4 ?k5 ?_ ?k6; (case k1 => k_asm); (case k2 => k_mem); (case k3 => first | with_reducible assumption | assumption); (case k4 => first | with_reducible assumption | decide | omega); (case k5 => first | with_reducible assumption | decide | omega); (case k6 => with_unfolding_all rfl); k_whole))
  k_with "subscriptTail Name UnaryOp ref int" => (k_here; (with_reducible show wpAny _ _ (subscriptTail _ _ (Value.ref _) (Value.int _ _)) _ _ _); k_dflt (refine' item_mem ?k1 ?k2 ?k3 ?k4 ?k5 ?_ ?k6; (case k1 => k_asm); (case k2 => k_mem); (case k3 => first | with_reducible assumption | assumption); (case k4 => first | with_reducible assumption | decide | omega); (case k5 => first | with_reducible assumption | decide | omega); (case k6 => with_unfolding_all rfl); k_whole))
  k_with "call builtin:list.append" => (k_here; (with_reducible show wpAny _ _ (call (Value.builtin "list.append") [Value.ref _, _]) _ _ _); k_dflt (refine' append_U ?k1 ?k2 ?k3 ?k4 ?_; (case k1 => k_asm); (case k2 => k_asm); (case k3 => k_upd); (case k4 => first | omega | (simp only [List.length_append, List.length_cons, List.length_nil]; omega)); k_whole); intro _ _ _; (try k_sweep))
  k_with "call builtin:len" => (k_here; (with_reducible show wpAny _ _ (call (Value.builtin "len") [Value.ref _]) _ _ _); k_dflt (refine' len_mem ?k1 ?k2 ?k3 ?_; (case k1 => k_asm); (case k2 => k_mem); (case k3 => first | omega | (simp only [List.length_append, List.length_cons, List.length_nil]; omega)); k_whole); (try simp only [List.length_append, List.length_cons, List.length_nil, Nat.zero_add]))
  k_with "enterG" => (refine' enter_def ?k1 ?k2 ?k3 ?k4 ?k5 ?kA ?kF ?kK ?k6 ?k7 ?k8 ?k9 ?kB ?_ ?c2 ?c3 ?c4 ?c5; (case kA => exact rfl); (case kF => exact rfl); (case kK => assumption); (case k1 => k_asm); (case k2 => k_asm); (case k3 => k_asm); (case k4 => k_asm); (case k5 => k_asm); (case k6 => k_is); (case k7 => k_is); (case k8 => first | exact room0 hd | ktr_room); (case k9 => exact BindsTo.of_eq rfl); (case c5 => decide); (case kB => exact locs rfl); (case c2 => exact rfl); (case c3 => exact rfl); (case c4 => exact rfl); k_whole; intro tk _ hM _ _ _ _ _ _ _ _ _ _; (try dsimp only); (try k_fold))
  k_with "enterC" => (refine' enter_cells ?k1 ?k2 ?k3 ?k4 ?k5 ?kA ?kF ?kK ?k6 ?k7 ?k8 ?k9 ?kB ?kD ?_ ?c2 ?c3 ?c4; (case kA => exact rfl); (case kF => exact rfl); (case kK => assumption); (case k1 => k_asm); (case k2 => k_asm); (case k3 => k_asm); (case k4 => k_asm); (case k5 => k_asm); (case k6 => k_is); (case k7 => k_is); (case k8 => first | exact room0 hd | ktr_room); (case k9 => exact BindsTo.of_eq rfl); (case kB => exact rfl); (case kD => decide +kernel); (case c2 => exact rfl); (case c3 => exact rfl); (case c4 => exact rfl); k_whole; intro tk _ _ hM hMC g' L' h' cells' FG' F' N' Y' B' X' T' l1; k_cells Y'; (try simp only [List.cons_append, List.nil_append] at N'); (try dsimp only); (try k_fold))
  k_with "call ref" => (k_here; (fail_if_success (with_reducible show wpAny _ _ (call (Value.ref 136) _) _ _ _)); (fail_if_success (with_reducible show wpAny _ _ (call (Value.ref 162) _) _ _ _)); refine stop_here ?_)
  k_with "use premises" => ((case k1 => k_asm); (case k2 => k_asm); (case k3 => k_asm); (case k4 => k_asm); (case k5 => k_asm); (case kK => first | exact rfl | assumption); (case kd => first | exact room1 hd (by decide) | exact room2 hd (by decide) | ktr_room); (case ku => first | exact unit1 hu (by decide) | exact unit2 hu (by decide) | ktr_units))
  k_with "eval Name" => (k_here; (with_reducible show wpAny _ _ (eval (Expr.Name _ _) (envOfC _ _ _ _ _)) _ _ _); k_dflt (refine' ldC ?k1 ?k2 ?_; (case k1 => k_asm); (case k2 => first | with_reducible assumption | exact rfl | assumption); k_whole))
  k_with "eval Name" => (k_here; (with_reducible show wpAny _ _ (eval (Expr.Name _ _) (envOf _ _ _ _ _)) _ _ _); k_dflt (refine' ld ?k1 ?k2 ?_; (case k1 => k_asm); (case k2 => first | with_reducible assumption | exact rfl | assumption | exact (hM _).trans rfl); k_whole))
  k_with "compareOp In int ref" => (k_here; (with_reducible show wpAny _ _ (compareOp CmpOp.In (Value.int _ _) (Value.ref _)) _ _ _); k_dflt (refine' inI ?k1 ?k2 ?k3 ?k4 ?_; (case k1 => k_asm); (case k2 => k_mem); (case k3 => first | with_reducible assumption | assumption); (case k4 => first | with_reducible assumption | assumption); k_whole))
  k_with "compareOp NotIn int ref" => (k_here; (with_reducible show wpAny _ _ (compareOp CmpOp.NotIn (Value.int _ _) (Value.ref _)) _ _ _); k_dflt (refine' notInI ?k1 ?k2 ?k3 ?k4 ?_; (case k1 => k_asm); (case k2 => k_mem); (case k3 => first | with_reducible assumption | assumption); (case k4 => first | with_reducible assumption | assumption); k_whole))
  k_with "setItem ref int" => (k_here; (with_reducible show wpAny _ _ (setItem (Value.ref _) (Value.int _ _) _) _ _ _); k_dflt (refine' setI ?k1 ?k2 ?k3 ?k4 ?k5 ?_; (case k1 => k_asm); (case k2 => k_asm); (case k3 => (intro o'; k_upd)); (case k4 => first | with_reducible assumption | assumption); (case k5 => first | decide | omega | (simp; done) | (simp; omega)); k_whole); intro _ _ _ _ _; (try dsimp only); (try k_sweep))
  k_with "k_suffix" => (intro p hp; repeat' (first | exact hp | refine List.Mem.tail _ ?_))
  k_with "call builtin:sorted" => (k_here; (with_reducible show wpAny _ _ (call (Value.builtin "sorted") [Value.ref _]) _ _ _); k_dflt (refine' sortedI ?k0 ?k1 ?k2 ?k3 ?k4 ?k5 ?k6 ?_; (case k0 => exact rfl); (case k1 => k_asm); (case k2 => k_asm); (case k3 => k_mem); (case k4 => first | with_reducible assumption | assumption); (case k5 => first | with_reducible assumption | assumption); (case k6 => first | assumption | omega); k_whole); intro _ _ _ _ _ _ _ _ lt1 _ _ _ _; (try k_lt lt1); (try k_sweep))
  k_with "call builtin:len" => (k_here; (with_reducible show wpAny _ _ (call (Value.builtin "len") [Value.ref _]) _ _ _); k_dflt (refine' len_tup ?k1 ?k2 ?k3 ?_; (case k1 => k_asm); (case k2 => k_mem); (case k3 => first | omega | (simp only [List.length_append, List.length_cons, List.length_nil]; omega)); k_whole); (try simp only [List.length_append, List.length_cons, List.length_nil, Nat.zero_add]))
  k_with "subscriptTail Name Constant ref int" => (k_here; (with_reducible show wpAny _ _ (subscriptTail _ _ (Value.ref _) (Value.int _ _)) _ _ _); k_dflt (refine' item_tup ?k1 ?k2 ?k3 ?k4 ?k5 ?_ ?k6; (case k1 => k_asm); (case k2 => k_mem); (case k3 => first | with_reducible assumption | assumption); (case k4 => first | with_reducible assumption | decide | omega); (case k5 => first | with_reducible assumption | decide | omega); (case k6 => with_unfolding_all rfl); k_whole))
  k_with "subscriptTail Attribute Call ref int" => (k_here; (with_reducible show wpAny _ _ (subscriptTail _ _ (Value.ref _) (Value.int _ _)) _ _ _); k_dflt (refine' item_tup ?k1 ?k2 ?k3 ?k4 ?k5 ?_ ?k6; (case k1 => k_asm); (case k2 => k_mem); (case k3 => first | with_reducible assumption | assumption); (case k4 => first | with_reducible assumption | decide | omega); (case k5 => first | with_reducible assumption | decide | omega); (case k6 => with_unfolding_all rfl); k_whole))
  k_with "subscriptTail Name Name ref int" => (k_here; (with_reducible show wpAny _ _ (subscriptTail _ _ (Value.ref _) (Value.int _ _)) _ _ _); k_dflt (refine' item_tup ?k1 ?k2 ?k3 ?k4 ?k5 ?_ ?k6; (case k1 => k_asm); (case k2 => k_mem); (case k3 => first | with_reducible assumption | assumption); (case k4 => first | with_reducible assumption | decide | omega); (case k5 => first | with_reducible assumption | decide | omega); (case k6 => with_unfolding_all rfl); k_whole))
  k_with "subscriptTail Name Call ref int" => (k_here; (with_reducible show wpAny _ _ (subscriptTail _ _ (Value.ref _) (Value.int _ _)) _ _ _); k_dflt (refine' item_tup ?k1 ?k2 ?k3 ?k4 ?k5 ?_ ?k6; (case k1 => k_asm); (case k2 => k_mem); (case k3 => first | with_reducible assumption | assumption); (case k4 => first | with_reducible assumption | decide | omega); (case k5 => first | with_reducible assumption | decide | omega); (case k6 => with_unfolding_all rfl); k_whole))
  k_with "subscriptTail Name UnaryOp ref int" => (k_here; (with_reducible show wpAny _ _ (subscriptTail _ _ (Value.ref _) (Value.int _ _)) _ _ _); k_dflt (refine' item_tup ?k1 ?k2 ?k3 ?k4 ?k5 ?_ ?k6; (case k1 => k_asm); (case k2 => k_mem); (case k3 => first | with_reducible assumption | assumption); (case k4 => first | with_reducible assumption | decide | omega); (case k5 => first | with_reducible assumption | decide | omega); (case k6 => with_unfolding_all rfl); k_whole))
  k_with "compareOp NotIn ref ref" => (k_here; (with_reducible show wpAny _ _ (compareOp CmpOp.NotIn (Value.ref _) (Value.ref _)) _ _ _); k_dflt (refine' notInT ?k0 ?k1 ?k2 ?k3 ?k4 ?k5 ?_; (case k0 => ktr_units); (case k1 => k_asm); (case k2 => (refine tupTab_mono (by assumption) ?_; walk_at "k_suffix")); (case k3 => k_mem); (case k4 => first | with_reducible assumption | assumption); (case k5 => first | with_reducible assumption | assumption); k_whole))
  k_with "subscriptTail Attribute Name ref ref" => (k_here; (with_reducible show wpAny _ _ (subscriptTail _ _ (Value.ref _) (Value.ref _)) _ _ _); k_dflt (refine' itemT ?k0 ?k1 ?k2 ?k3 ?k4 ?k5 ?_ ?k6 ?k7; (case k0 => ktr_units); (case k1 => k_asm); (case k2 => (refine tupTab_mono (by assumption) ?_; walk_at "k_suffix")); (case k3 => k_mem); (case k4 => first | with_reducible assumption | assumption); (case k5 => first | with_reducible assumption | assumption); (case k6 => with_unfolding_all rfl); (case k7 => (intro _; with_unfolding_all rfl)); k_whole); intro _)
  k_with "subscriptTail Name Name ref ref" => (k_here; (with_reducible show wpAny _ _ (subscriptTail _ _ (Value.ref _) (Value.ref _)) _ _ _); k_dflt (refine' itemT ?k0 ?k1 ?k2 ?k3 ?k4 ?k5 ?_ ?k6 ?k7; (case k0 => ktr_units); (case k1 => k_asm); (case k2 => (refine tupTab_mono (by assumption) ?_; walk_at "k_suffix")); (case k3 => k_mem); (case k4 => first | with_reducible assumption | assumption); (case k5 => first | with_reducible assumption | assumption); (case k6 => with_unfolding_all rfl); (case k7 => (intro _; with_unfolding_all rfl)); k_whole); intro _)
  k_with "And" => ((with_reducible show Frag.In _ _ ∧ _); refine' ⟨Frag.In.keeps ?kX (Fr.keep ?kF), ?_⟩; (case kX => assumption); (case kF => assumption))
  k_with "compareOp LtE ref ref" => (k_here; refine stop_here ?_)
  k_with "compareOp LtE ref" => (k_here; refine stop_here ?_)
  k_with "binaryOp Pow int int" => (k_here; k_dflt (refine' pow_two ?k1 ?_; (case k1 => omega)))
  k_with "call builtin:sum" => (k_here; refine stop_here ?_)
  k_with "eval IfExp" => (k_here; (rename IfStop => hIS); clear hIS; refine stop_here ?_)
  k_with "subscriptTail Name Name ref int" => (k_here; (with_reducible show wpAny _ _ (subscriptTail _ _ (Value.ref _) (Value.int _ _)) _ _ _); k_dflt (refine' itemI ?k1 ?k2 ?k3 ?k4 ?_ ?k6; (case k1 => k_asm); (case k2 => k_mem); (case k3 => first | with_reducible assumption | assumption); (case k4 => first | with_reducible assumption | assumption); (case k6 => with_unfolding_all rfl); k_whole))
  k_with "subscriptTail Name Slice ref ref" => (k_here; (with_reducible show wpAny _ _ (subscriptTail _ (PySem.Expr.Slice none (some _) none _) (Value.ref _) (Value.ref _)) _ _ _); k_dflt (refine' slice_upto_U ?k1 ?k2 ?k3 ?k4 ?k5 ?_ ?k6 ?k7; (case k1 => k_asm); (case k2 => k_asm); (case k3 => k_mem); (case k4 => first | decide | omega); (case k5 => first | omega | (simp only [List.length_cons, List.length_nil, List.length_append]; omega)); (case k6 => with_unfolding_all rfl); (case k7 => (intro _; with_unfolding_all rfl)); k_whole); intro l' h' F' N' l1; (try k_lt l1); (try k_sweep))
  k_with "binaryOp Add ref ref" => (k_here; (with_reducible show wpAny _ _ (binaryOp _ (Value.ref _) (Value.ref _)) _ _ _); k_dflt (refine' add_U ?k1 ?k2 ?k3 ?k4 ?k5 ?_; (case k1 => k_asm); (case k2 => k_asm); (case k3 => k_mem); (case k4 => k_mem); (case k5 => (simp only [List.length_cons, List.length_nil, List.length_append, List.length_take]; omega)); k_whole); intro l' h' F' N' l1; (try k_lt l1); (try k_sweep))
  k_with "newList" => (k_here; k_dflt (refine' newList_U ?k1 ?k2 ?k3 ?_; (case k1 => k_asm); (case k2 => k_asm); (case k3 => simp only [List.length_cons, List.length_nil]; omega); k_whole); intro l' h' F' N' l1; (try k_lt l1); (try k_sweep))
  k_with "exec While Compare cons nil" => (k_here; refine stop_here ?_)
  k_with "subscriptTail Name UnaryOp ref int" => (k_here; (with_reducible show wpAny _ _ (subscriptTail _ _ (Value.ref _) (Value.int _ _)) _ _ _); k_dflt (refine' item_neg ?k1 ?k2 ?k3 ?k4 ?k5 ?k7 ?_ ?k6; (case k1 => k_asm); (case k2 => k_mem); (case k3 => first | with_reducible assumption | assumption); (case k4 => decide); (case k5 => first | with_reducible assumption | assumption); (case k7 => decide); (case k6 => with_unfolding_all rfl); k_whole))
  k_with "subscriptTail Name Call ref int" => (k_here; (with_reducible show wpAny _ _ (subscriptTail _ _ (Value.ref _) (Value.int _ _)) _ _ _); k_dflt (refine' itemI ?k1 ?k2 ?k3 ?k4 ?_ ?k6; (case k1 => k_asm); (case k2 => k_mem); (case k3 => first | with_reducible assumption | assumption); (case k4 => first | with_reducible assumption | assumption); (case k6 => with_unfolding_all rfl); k_whole))
  k_with "getMethod ref" => (k_here; (with_reducible show wpAny _ _ (getMethod (Value.ref _) _ _) _ _ _); (rename TupComp => hTC); k_dflt (refine kdg_method (knd := PySem.intKind _ _) (by k_asm) (by k_mem) (by assumption) ?_))
  k_with "call type:dict" => (k_here; refine stop_here ?_)
  k_with "subscriptTail Subscript Constant ref int" => (k_here; (with_reducible show wpAny _ _ (subscriptTail _ _ (Value.ref _) (Value.int _ _)) _ _ _); k_dflt (refine' item_tup ?k1 ?k2 ?k3 ?k4 ?k5 ?_ ?k6; (case k1 => k_asm); (case k2 => k_mem); (case k3 => first | with_reducible assumption | exact rfl | assumption); (case k4 => decide); (case k5 => decide); (case k6 => with_unfolding_all rfl); k_whole))
  k_with "call builtin:list.pop" => (k_here; refine stop_here ?_)
  k_with "call builtin:list.extend" => (k_here; refine stop_here ?_)
  k_with "call builtin:all" => (k_here; refine stop_here ?_)
  k_with "call builtin:dict.get" => (k_here; refine stop_here ?_)
  k_with "call type:range" => (k_here; (fail_if_success (rename NoStop => hNS)); refine stop_here ?_)
  k_with "call type:tuple" => (k_here; refine stop_here ?_)
  k_with "go" => repeat' (first | (k_unfold; (try dsimp only)) | walk1 | (dsimp only; walk1) | (leave1; (try dsimp only)))
  k_with "nes" => (repeat' (first | exact ne_nil | (refine ne_gt (by with_reducible assumption) ?_) | (refine ne_lt (by with_reducible assumption) ?_) | (refine ne_cons (by with_reducible assumption) ?_) | (refine ne_sym (by with_reducible assumption) ?_) | (refine ne_cons (by omega) ?_)))
  k_with "subs" => (repeat' (first | exact in_nil | refine in_cons (by k_mem) ?_))
  k_with "goTo" => repeat' (first | ((with_reducible show wpAny _ _ (execs (PySem.Stmt.Assign _ _ _ :: _) _) _ _ _); refine stop_here ?_) | (dsimp only; (with_reducible show wpAny _ _ (execs (PySem.Stmt.Assign _ _ _ :: _) _) _ _ _); refine stop_here ?_) | (k_unfold; (try dsimp only)) | walk1 | (dsimp only; walk1) | (leave1; (try dsimp only)))
  k_with "goFor" => repeat' (first | ((with_reducible show wpAny _ _ (execs (PySem.Stmt.For _ _ _ _ _ :: _) _) _ _ _); refine stop_here ?_) | (dsimp only; (with_reducible show wpAny _ _ (execs (PySem.Stmt.For _ _ _ _ _ :: _) _) _ _ _); refine stop_here ?_) | (k_unfold; (try dsimp only)) | walk1 | (dsimp only; walk1) | (leave1; (try dsimp only)))
  k_with "exec For Name Name cons nil" => (k_here; (fail_if_success (rename NoStop => hNS)); refine stop_here ?_)
  k_with "exec For Name Call cons nil" => (k_here; (fail_if_success (rename NoStop => hNS)); refine stop_here ?_)
  k_with "exec For Tuple Name cons nil" => (k_here; (fail_if_success (rename NoStop => hNS)); refine stop_here ?_)
  k_with "exec For Tuple Call cons nil" => (k_here; (fail_if_success (rename NoStop => hNS)); refine stop_here ?_)
  k_with "setItem ref ref int" => (k_here; refine stop_here ?_)
  k_with "subscriptTail Name Constant ref str" => (k_here; (with_reducible show wpAny _ _ (subscriptTail _ _ (Value.ref _) (Value.str _ _)) _ _ _); k_dflt (refine' itemS ?k1 ?k2 ?k3 ?k4 ?_ ?k6; (case k1 => k_asm); (case k2 => k_mem); (case k3 => first | with_reducible assumption | assumption); (case k4 => rfl); (case k6 => with_unfolding_all rfl); k_whole))
  k_with "setItem ref str" => (k_here; (with_reducible show wpAny _ _ (setItem (Value.ref _) (Value.str _ _) _) _ _ _); k_dflt (refine' setS ?k1 ?k2 ?k3 ?k4 ?k5 ?_; (case k1 => k_asm); (case k2 => k_asm); (case k3 => (intro o'; k_upd)); (case k4 => first | with_reducible assumption | assumption); (case k5 => first | decide | omega | (simp; done) | (simp; omega)); k_whole); intro _ _ _ _ _; (try dsimp only); (try k_sweep))
  k_with "eval ListComp" => (k_here; first
    | ((rename TupComp => hTC); k_dflt (refine comp_tup (by k_asm) (by with_unfolding_all rfl) (by decide) (by rfl) (by decide) (by rfl) ?_))
    | ((with_reducible show wpAny _ _ (eval (Expr.ListComp _ [⟨Expr.Tuple _ _ _, _, _, _⟩] _ _) _) _ _ _); k_dflt (refine LCp.ListComp_P (F₀ := by k_asm) (by with_unfolding_all rfl) (by decide) (by rfl) (by decide) (by rfl) (by rfl) (by decide) ?_))
    | ((with_reducible show wpAny _ _ (eval (Expr.ListComp _ [⟨Expr.Name _ _, _, [], _⟩] _ _) _) _ _ _); k_dflt (refine LCg.ListComp_U (F₀ := by k_asm) (by with_unfolding_all rfl) (by decide) (by rfl) (by decide) (by rfl) ?_))
    | ((with_reducible show wpAny _ _ (eval (Expr.ListComp _ [⟨Expr.Name _ _, _, [_], _⟩] _ _) _) _ _ _); k_dflt (refine LCt.ListComp_T (F₀ := by k_asm) (by with_unfolding_all rfl) (by decide) (by rfl) (by decide) (by rfl) ?_)))
  k_with "exec Assign cons ListComp" => (k_here; first
    | ((rename TupComp => hTC); k_dflt (refine assign_comp_tup (by k_asm) (by rfl) (by with_unfolding_all rfl) (by with_unfolding_all rfl) (by decide) (by rfl) (by decide) (by rfl) (by rfl) (by rfl) ?_))
    | ((with_reducible show wpAny _ _ (exec (Stmt.Assign _ (Expr.ListComp _ [⟨Expr.Tuple _ _ _, _, _, _⟩] _ _) _) _) _ _ _); k_dflt (refine LCp.Assign_ListComp_P (F₀ := by k_asm) (by rfl) (by with_unfolding_all rfl) (by with_unfolding_all rfl) (by decide) (by rfl) (by decide) (by rfl) (by rfl) (by decide) (by rfl) (by rfl) ?_))
    | ((with_reducible show wpAny _ _ (exec (Stmt.Assign _ (Expr.ListComp _ [⟨Expr.Name _ _, _, [], _⟩] _ _) _) _) _ _ _); k_dflt (refine LCg.Assign_ListComp_U (F₀ := by k_asm) (by rfl) (by with_unfolding_all rfl) (by with_unfolding_all rfl) (by decide) (by rfl) (by decide) (by rfl) (by rfl) (by rfl) ?_))
    | ((with_reducible refine wpAny_Assign_Name ?_); (with_unfolding_all rfl)))
  trivial
theorem size_spec (w : World) (news : List (Addr × Obj)) (c dc kl pl kd : Addr) (e1 e2 e3 : Int) (t1 t2 t3 : Tok) (kvs : List Value) (n : Nat) (hsz : kvs.length ≤ 1000000)
    (hc : (c, instObj 136 dc) ∈ news) (hdc : (dc, circD e1 e2 e3 t1 t2 t3 kl pl kd) ∈ news) (hkl : (kl, listOf kvs.toArray n) ∈ news) :
    Reads w 1 49 [.ref c] news (fun r => ∃ t, r = .int ((kvs.length : Int) - 1) t) := by
  unfold Reads
  k_fill
  intro dp un gd cn cs a ccd cl outer A₀ base h₀ L m s mean mg mb Q E B F X N T hk hd hu hret
  refine wpAny_call ?_
  k_dflt cell_enter
  k_steps
  exact hret _ _ _ (by k_asm) (by k_asm) ⟨_, rfl⟩

theorem kind_spec (w : World) (news : List (Addr × Obj)) (c dc kl pl kd : Addr) (e1 e2 e3 : Int) (t1 t2 t3 : Tok) (kvs : List Value) (n : Nat) (g : Int) (tg : Tok) (v : Value) (hsz : kvs.length ≤ 1000000)
    (hc : (c, instObj 136 dc) ∈ news) (hdc : (dc, circD e1 e2 e3 t1 t2 t3 kl pl kd) ∈ news) (hkl : (kl, listOf kvs.toArray n) ∈ news) (hv : kvs[g.natAbs]? = some v) :
    Reads w 1 56 [.ref c, .int g tg] news (fun r => r = v) := by
  unfold Reads
  k_fill
  intro dp un gd cn cs a ccd cl outer A₀ base h₀ L m s mean mg mb Q E B F X N T hk hd hu hret
  refine wpAny_call ?_
  k_dflt cell_enter
  have hv' : kvs[(if g < 0 then -g else g).toNat]? = some v := by rw [abs_toNat]; exact hv
  have h0 : 0 ≤ (if g < 0 then -g else g) := by split <;> omega
  have h1 : (if g < 0 then -g else g) < 2 ^ 63 := by
    have := (List.getElem?_eq_some_iff.mp hv).1
    split <;> omega
  k_steps
  exact hret _ _ _ (by k_asm) (by k_asm) rfl

theorem parts_spec (w : World) (news : List (Addr × Obj)) (c dc kl pl kd : Addr) (e1 e2 e3 : Int) (t1 t2 t3 : Tok) (pvs : List Value) (n : Nat) (g : Int) (tg : Tok) (v : Value) (hsz : pvs.length ≤ 1000000)
    (hc : (c, instObj 136 dc) ∈ news) (hdc : (dc, circD e1 e2 e3 t1 t2 t3 kl pl kd) ∈ news) (hpl : (pl, listOf pvs.toArray n) ∈ news) (hv : pvs[g.natAbs]? = some v) :
    Reads w 1 63 [.ref c, .int g tg] news (fun r => r = v) := by
  unfold Reads
  k_fill
  intro dp un gd cn cs a ccd cl outer A₀ base h₀ L m s mean mg mb Q E B F X N T hk hd hu hret
  refine wpAny_call ?_
  k_dflt cell_enter
  have hv' : pvs[(if g < 0 then -g else g).toNat]? = some v := by rw [abs_toNat]; exact hv
  have h0 : 0 ≤ (if g < 0 then -g else g) := by split <;> omega
  have h1 : (if g < 0 then -g else g) < 2 ^ 63 := by
    have := (List.getElem?_eq_some_iff.mp hv).1
    split <;> omega
  k_steps
  exact hret _ _ _ (by k_asm) (by k_asm) rfl

theorem new_gate_spec (w : World) (S : List (Addr × Obj)) (c dc kl pl kd pt : Addr) (e1 e2 e3 : Int) (t1 t2 t3 : Tok) (kvs pvs : List Value) (nk np : Nat) (kind : Str) (tz : Tok) (hsz : kvs.length ≤ 1000000) (hsp : pvs.length ≤ 1000000)
    (hc : (c, instObj 136 dc) ∈ S) (hdc : (dc, circD e1 e2 e3 t1 t2 t3 kl pl kd) ∈ S) (hne : @Ne Nat kl pl) (hoff : OwnOff S [kl, pl]) :
    Calls w 1 70 [.ref c, .str kind tz, .ref pt] [(kl, listOf kvs.toArray nk), (pl, listOf pvs.toArray np)] S
      (fun r muts' new => (∃ t, r = .int kvs.length t) ∧ new = [] ∧ muts' = [(kl, listOf (kvs ++ [Value.str kind tz]).toArray (nk + 1)), (pl, listOf (pvs ++ [Value.ref pt]).toArray (np + 1))]) := by
  unfold Calls
  k_fill
  intro dp un gd cn cs a ccd cl outer A₀ base h₀ L m s mean mg mb Q E B F X N T hk hd hu hret
  simp only [List.cons_append, List.nil_append] at N
  refine wpAny_call ?_
  k_dflt (walk_at "enterG")
  k_steps
  refine hret _ [(kl, listOf (kvs ++ [Value.str kind tz]).toArray (nk + 1)), (pl, listOf (pvs ++ [Value.ref pt]).toArray (np + 1))] [] _ _ (by k_asm) (by k_asm) (fun _ h => nomatch h) (keep_end (by assumption) (by k_asm) (by assumption) (by k_asm) ?_) ⟨ktn_int (by simp), rfl, rfl⟩
  · intro p hp; exact .tail _ (.tail _ hp)

theorem new_input_spec (w : World) (S : List (Addr × Obj)) (c dc kl pl kd : Addr) (e1 e2 e3 : Int) (t1 t2 t3 : Tok) (kvs pvs : List Value) (nk np : Nat) (hsz : kvs.length ≤ 1000000) (hsp : pvs.length ≤ 1000000)
    (hc : (c, instObj 136 dc) ∈ S) (hdc : (dc, circD e1 e2 e3 t1 t2 t3 kl pl kd) ∈ S) (hne : @Ne Nat kl pl) (hoff : OwnOff S [kl, pl]) :
    Calls w 2 77 [.ref c] [(kl, listOf kvs.toArray nk), (pl, listOf pvs.toArray np)] S
      (fun r muts' new => ∃ t tz pt n, r = .int kvs.length t ∧ new = [(pt, tupO [] n)] ∧ muts' = [(kl, listOf (kvs ++ [Value.str (Str.ofString "input") tz]).toArray (nk + 1)), (pl, listOf (pvs ++ [Value.ref pt]).toArray (np + 1))]) := by
  unfold Calls
  k_fill
  intro dp un gd cn cs a ccd cl outer A₀ base h₀ L m s mean mg mb Q E B F X N T hk hd hu hret
  simp only [List.cons_append, List.nil_append] at N
  refine wpAny_call ?_
  k_dflt (walk_at "enterG")
  rename_i g1 L1 _ FG _ _ B1 X1 T1 G1
  k_steps
  unfold Stop
  rename_i D h1 F1 N1 l1
  obtain ⟨l1, l2, l3⟩ := l1
  refine' calls_use (new_gate_spec w ((D, tupO [] 0) :: S) c dc kl pl kd D e1 e2 e3 t1 t2 t3 kvs pvs nk np (Str.ofString "input") _ hsz hsp (.tail _ hc) (.tail _ hdc) hne (ownOff_cons (by simp; omega) hoff)) ?k1 ?k2 ?k3 ?k4 ?k5 ?kK ?kd ?ku ?hs ?_
  walk_at "use premises"
  case hs => intro p hp; simp only [List.mem_append, List.mem_cons, List.not_mem_nil, or_false] at hp ⊢; grind
  rintro r muts' new h2 tk2 F2 N2 fr2 K2 ⟨⟨t, rfl⟩, rfl, rfl⟩
  k_steps
  rename_i kF kN _ _
  exact hret _ [(kl, listOf (kvs ++ [Value.str (Str.ofString "input") _]).toArray (nk + 1)), (pl, listOf (pvs ++ [Value.ref D]).toArray (np + 1))] [(D, tupO [] 0)] _ _ kF kN
    (fresh_end G1 N2 (by intro p hp; simp at hp ⊢; grind) (off_cons (allLt_notin ⟨l1, l2, l3⟩) off_nil)) (keep_end G1 N F2 kN (by intro p hp; simp; grind)) ⟨_, _, _, _, rfl, rfl, rfl⟩
/-- what the lists and the dict of a circuit hold; its tuples stand in `S` -/
structure CircV (w : World) (S : List (Addr × Obj)) (kd : Addr) (C : List Gate) (kvs pvs : List Value) (ko : Obj) : Prop where
  klen : kvs.length = C.length
  plen : pvs.length = C.length
  kinds : ∀ (i : Nat) (g : Gate), C[i]? = some g → ∃ t, kvs[i]? = some (Value.str g.kindS t)
  parts : ∀ (i : Nat) (g : Gate), C[i]? = some g → ∃ a us n, pvs[i]? = some (Value.ref a) ∧ (a, tupO us n) ∈ S ∧ IntsAre us g.parts
  known : ∃ D, TupTab (intKind PySem.Challenge.rw_nz0381_01.prog w) PyData.int ((kd, ko) :: S) kd D ∧ D.length ≤ C.length ∧ ∀ ps, Spec.lookup (encTuple PyData.int ps) D = (idxOf C ps).map fun (i : Nat) => PyData.int (i : Int)

theorem tupTab_mono {w : World} {news news' : List (Addr × Obj)} {d : Addr} {D : List (PyData × PyData)} (T : TupTab (intKind PySem.Challenge.rw_nz0381_01.prog w) PyData.int news d D) (h : ∀ p ∈ news, p ∈ news') :
    TupTab (intKind PySem.Challenge.rw_nz0381_01.prog w) PyData.int news' d D := by
  obtain ⟨lo, o, es, ep, xs, hm, hc, hd, he, hn, hk, hf⟩ := T
  exact ⟨lo, o, es, ep, xs, h _ hm, hc, hd, he, hn, fun x hx => let ⟨ok, a, b⟩ := hk x hx; ⟨ok, h _ a, b⟩, hf⟩
theorem CircV.mono {w : World} {S S' : List (Addr × Obj)} {kd : Addr} {C : List Gate} {kvs pvs : List Value} {ko : Obj} (V : CircV w S kd C kvs pvs ko) (h : ∀ p ∈ S, p ∈ S') : CircV w S' kd C kvs pvs ko where
  klen := V.klen
  plen := V.plen
  kinds := V.kinds
  parts := fun i g e => let ⟨a, us, n, x, y, z⟩ := V.parts i g e; ⟨a, us, n, x, h _ y, z⟩
  known := by
    obtain ⟨D, T, l, k⟩ := V.known
    refine ⟨D, tupTab_mono T fun p hp => ?_, l, k⟩
    rcases List.mem_cons.mp hp with rfl | hp
    · exact .head _
    · exact .tail _ (h _ hp)
theorem CircV.snoc {w : World} {S S' : List (Addr × Obj)} {kd D : Addr} {C : List Gate} {g : Gate} {kvs pvs : List Value} {ko ko' : Obj} {us : List Value} {n : Nat} {tz : Tok} (V : CircV w S kd C kvs pvs ko) (hs : ∀ p ∈ S, p ∈ S') (hD : (D, tupO us n) ∈ S') (hi : IntsAre us g.parts)
    (kn : ∃ D, TupTab (intKind PySem.Challenge.rw_nz0381_01.prog w) PyData.int ((kd, ko') :: S') kd D ∧ D.length ≤ (C ++ [g]).length ∧ ∀ ps, Spec.lookup (encTuple PyData.int ps) D = (idxOf (C ++ [g]) ps).map fun (i : Nat) => PyData.int (i : Int)) :
    CircV w S' kd (C ++ [g]) (kvs ++ [.str g.kindS tz]) (pvs ++ [.ref D]) ko' where
  klen := by simp [V.klen]
  plen := by simp [V.plen]
  kinds := fun i g' e => by
    by_cases hi : i < C.length
    · rw [List.getElem?_append_left hi] at e
      obtain ⟨t, ht⟩ := V.kinds i g' e
      exact ⟨t, by rw [List.getElem?_append_left (by rw [V.klen]; exact hi)]; exact ht⟩
    · rw [List.getElem?_append_right (by omega)] at e
      have e1 : i - C.length = 0 := by
        have := (List.getElem?_eq_some_iff.mp e).1
        simp at this; omega
      rw [e1] at e
      cases e
      exact ⟨tz, by rw [List.getElem?_append_right (by rw [V.klen]; omega), V.klen, e1]; rfl⟩
  parts := fun i g' e => by
    by_cases hi' : i < C.length
    · rw [List.getElem?_append_left hi'] at e
      obtain ⟨a, us', n', ht, hm, hu⟩ := V.parts i g' e
      exact ⟨a, us', n', by rw [List.getElem?_append_left (by rw [V.plen]; exact hi')]; exact ht, hs _ hm, hu⟩
    · rw [List.getElem?_append_right (by omega)] at e
      have e1 : i - C.length = 0 := by
        have := (List.getElem?_eq_some_iff.mp e).1
        simp at this; omega
      rw [e1] at e
      cases e
      exact ⟨D, us, n, by rw [List.getElem?_append_right (by rw [V.plen]; omega), V.plen, e1]; rfl, hD, hi⟩
  known := kn
theorem known_put {C : List Gate} {ns : List Int} {DD : List (PyData × PyData)} (hix : idxOf C ns = none) (hl : DD.length ≤ C.length) (hlk : ∀ ps, Spec.lookup (encTuple PyData.int ps) DD = (idxOf C ps).map fun (i : Nat) => PyData.int (i : Int)) :
    (PyProof.V.putD (encTuple PyData.int ns) (.int (C.length : Int)) DD).length ≤ (C ++ [Gate.and ns]).length ∧
    ∀ ps, Spec.lookup (encTuple PyData.int ps) (PyProof.V.putD (encTuple PyData.int ns) (.int (C.length : Int)) DD) = (idxOf (C ++ [Gate.and ns]) ps).map fun (i : Nat) => PyData.int (i : Int) := by
  refine ⟨Nat.le_trans (PyProof.V.putD_length_le _ _ _) (by simp; omega), fun ps => ?_⟩
  rw [PyProof.Rows.lookup_putK (keyEnc_tuple PyProof.V.keyEnc_int), idxOf_append]
  by_cases e : ps = ns
  · subst e
    rw [if_pos rfl, hix]
    simp [Gate.isAnd]
  · rw [if_neg e, hlk]
    cases h : idxOf C ps with
    | some i => rfl
    | none =>
      have : (Gate.and ns).isAnd ps = false := by
        cases h2 : (Gate.and ns).isAnd ps with
        | false => rfl
        | true => exact absurd (by have := Gate.isAnd_iff.mp h2; cases this; rfl) e
      simp [this]
/-- the circuit's own object -/
inductive CircS (S : List (Addr × Obj)) (c kl pl kd : Addr) : Prop
  | mk (dc : Addr) (e1 e2 e3 : Int) (t1 t2 t3 : Tok) (hc : (c, instObj 136 dc) ∈ S) (hdc : (dc, circD e1 e2 e3 t1 t2 t3 kl pl kd) ∈ S) : CircS S c kl pl kd
theorem CircS.mono {S S' : List (Addr × Obj)} {c kl pl kd : Addr} (x : CircS S c kl pl kd) (h : ∀ p ∈ S, p ∈ S') : CircS S' c kl pl kd :=
  let ⟨dc, e1, e2, e3, t1, t2, t3, a, b⟩ := x; ⟨dc, e1, e2, e3, t1, t2, t3, h _ a, h _ b⟩
def eitherG (C : List Gate) (a b : Int) : List Gate × Int := ((allOf C (-a) (-b)).1, -(allOf C (-a) (-b)).2)
def impliesG (C : List Gate) (a b : Int) : List Gate × Int := ((allOf C a (-b)).1, -(allOf C a (-b)).2)
def iffG (C : List Gate) (a b : Int) : List Gate × Int :=
  let r := impliesG C a b
  let q := impliesG r.1 b a
  allOf q.1 r.2 q.2
def chooseG (C : List Gate) (c a b : Int) : List Gate × Int :=
  let r := impliesG C c a
  let q := impliesG r.1 (-c) b
  allOf q.1 r.2 q.2
/-- what does not change of a circuit -/
structure CirO (S : List (Addr × Obj)) (c kl pl kd : Addr) : Prop where
  inst : CircS S c kl pl kd
  ne1 : @Ne Nat kl pl
  ne2 : @Ne Nat kl kd
  ne3 : @Ne Nat pl kd
  off : OwnOff S [kl, pl, kd]
theorem CirO.cons {S : List (Addr × Obj)} {c kl pl kd D : Addr} {o : Obj} (O : CirO S c kl pl kd) (h1 : @LT.lt Nat _ kl D) (h2 : @LT.lt Nat _ pl D) (h3 : @LT.lt Nat _ kd D) : CirO ((D, o) :: S) c kl pl kd :=
  ⟨O.inst.mono fun p hp => .tail _ hp, O.ne1, O.ne2, O.ne3, ownOff_cons (by simp; omega) O.off⟩
theorem CirO.grow {S new : List (Addr × Obj)} {c kl pl kd : Addr} (O : CirO S c kl pl kd) {h₀ h : Heap} {L : Addr} {led : List (Addr × Obj)} {o1 o2 o3 : Obj} (N : News h₀ L h led) (fr : ∀ p ∈ new, h.get? p.1 = none) (m1 : (kl, o1) ∈ led) (m2 : (pl, o2) ∈ led) (m3 : (kd, o3) ∈ led) : CirO (new ++ S) c kl pl kd :=
  ⟨O.inst.mono fun p hp => List.mem_append_right _ hp, O.ne1, O.ne2, O.ne3, fun p hp b hb => by
    rcases List.mem_append.mp hp with hp | hp
    · have z := fr p hp
      intro e
      rw [e] at z
      simp only [List.mem_cons, List.not_mem_nil, or_false] at hb
      rcases hb with rfl | rfl | rfl
      · rw [(N _ m1).1] at z; cases z
      · rw [(N _ m2).1] at z; cases z
      · rw [(N _ m3).1] at z; cases z
    · exact O.off p hp b hb⟩
/-- what a call upon a circuit gives back -/
inductive OpPost (w : World) (S : List (Addr × Obj)) (kl pl kd : Addr) (R : List Gate × Int) (r : Value) (muts' new : List (Addr × Obj)) : Prop
  | mk (t : Tok) (kvs' pvs' : List Value) (nk' np' : Nat) (ko' : Obj) (hr : r = .int R.2 t) (hm : muts' = [(kl, listOf (List.toArray kvs') nk'), (pl, listOf (List.toArray pvs') np'), (kd, ko')]) (V : CircV w (new ++ S) kd R.1 kvs' pvs' ko') : OpPost w S kl pl kd R r muts' new
theorem fresh_more {H g h1 h : Heap} {L1 L' : Addr} {a led new news' : List (Addr × Obj)} (G : GSub H g (led.map (·.1))) (N1 : News g L1 h1 (a ++ led)) (fr : ∀ p ∈ new, h1.get? p.1 = none) (N' : News g L' h news') (hs : ∀ p ∈ new, p ∈ news') : ∀ p ∈ new, H.get? p.1 = none :=
  fresh_end G N' hs fun p hp hm => new_off N1 fr p hp (by rw [List.map_append]; exact List.mem_append_right _ hm)
theorem fresh_app {H : Heap} {a b : List (Addr × Obj)} (x : ∀ p ∈ a, H.get? p.1 = none) (y : ∀ p ∈ b, H.get? p.1 = none) : ∀ p ∈ a ++ b, H.get? p.1 = none := fun p hp => (List.mem_append.mp hp).elim (x p) (y p)
theorem app_mid {α : Type} (a : List α) (x : α) (b : List α) : a ++ x :: b = (a ++ [x]) ++ b := by simp
theorem led_set {g h7 h8 : Heap} {L kl pl kd : Addr} {A B : Obj} {X Y : List (Addr × Obj)} (N7 : News g L h7 ((kl, A) :: (pl, B) :: X)) (hs : Heap.SameBut kd h7 h8) (n1 : @Ne Nat kl kd) (n2 : @Ne Nat pl kd) (N8 : News g L h8 Y) : News g L h8 ((kl, A) :: (pl, B) :: Y) :=
  news_app (a := [(kl, A), (pl, B)]) (news_same (fun p hp => N7 p (List.mem_append_left X hp)) hs (by
    intro p hp
    rcases List.mem_cons.mp hp with rfl | hp
    · exact n1
    · rw [List.mem_singleton.mp hp]; exact n2)) N8
theorem all_of_spec (w : World) (S : List (Addr × Obj)) (c dc kl pl kd gt : Addr) (e1 e2 e3 : Int) (t1 t2 t3 : Tok) (C : List Gate) (kvs pvs : List Value) (nk np ng : Nat) (ko : Obj) (x y : Int) (tx ty : Tok)
    (V : CircV w S kd C kvs pvs ko) (hsz : C.length ≤ 100000)
    (hc : (c, instObj 136 dc) ∈ S) (hdc : (dc, circD e1 e2 e3 t1 t2 t3 kl pl kd) ∈ S) (hne1 : @Ne Nat kl pl) (hne2 : @Ne Nat kl kd) (hne3 : @Ne Nat pl kd) (hoff : OwnOff S [kl, pl, kd]) (hg : (gt, tupO [.int x tx, .int y ty] ng) ∈ S) :
    Calls w 2 84 [.ref c, .ref gt] [(kl, listOf kvs.toArray nk), (pl, listOf pvs.toArray np), (kd, ko)] S
      (OpPost w S kl pl kd (allOf C x y)) := by
  unfold Calls
  k_fill
  intro dp un gd cn cs a ccd cl outer A₀ base h₀ L m s mean mg mb Q E B F X N T hk hd hu hret
  simp only [List.cons_append, List.nil_append] at N
  have hgk : @Ne Nat gt kl ∧ @Ne Nat gt pl ∧ @Ne Nat gt kd := ⟨hoff _ hg _ (by simp), hoff _ hg _ (by simp), hoff _ hg _ (by simp)⟩
  obtain ⟨hg1, hg2, hg3⟩ := hgk
  replace N : News h₀ L s.heap ((gt, tupO [.int x tx, .int y ty] ng) :: (kl, listOf kvs.toArray nk) :: (pl, listOf pvs.toArray np) :: (kd, ko) :: S) := by
    intro p hp
    rcases List.mem_cons.mp hp with rfl | hp
    · exact N _ (.tail _ (.tail _ (.tail _ hg)))
    · exact N _ hp
  refine wpAny_call ?_
  k_dflt (walk_at "enterG")
  rename_i g1 L1 _ FG _ _ B1 X1 T1 G1
  have G2 : GSub s.heap g1 (([(kl, listOf kvs.toArray nk), (pl, listOf pvs.toArray np), (kd, ko)] ++ S).map (·.1)) := fun b o e n => G1 b o e fun hm => by
    rcases List.mem_cons.mp hm with hm | hm
    · exact n (hm ▸ List.mem_map_of_mem (f := fun p : Addr × Obj => p.1) (List.mem_append_right _ hg))
    · exact n hm
  walk_at "go"
  rename_i d h1 o lo _ _ hi fi l1 h2 F2 N2
  unfold Stop
  k_fold
  refine for_tup (ax := gt) (lo := tupO [.int x tx, .int y ty] ng) (vs := [.int x tx, .int y ty]) (n := ng) (fun i mm nx => ∃ o', nx = (d, o') :: (gt, tupO [.int x tx, .int y ty] ng) :: (kl, listOf kvs.toArray nk) :: (pl, listOf pvs.toArray np) :: (kd, ko) :: S ∧ Obj.IsDictOf (intKind PySem.Challenge.rw_nz0381_01.prog w) o' (foundAt ([x, y].take i)) ∧ okAt [x, y] i ∧
    mm (Str.ofString "found") = some (.ref d) ∧ mm (Str.ofString "self") = some (.ref c)) rfl rfl rfl F2 ?heval ?hJ ?turn ?done
  case hJ => rintro i mm nx ⟨o', rfl, _⟩; exact .tail _ (.head _)
  case heval => exact ld F2 ((hM _).trans rfl) ⟨_, _, _, _, rfl, rfl, F2, N2, _, rfl, hi, fun _ _ h => absurd h (Nat.not_lt_zero _), rfl, (hM _).trans rfl⟩
  case turn =>
    rintro i v mm news I oI h3 tk3 hv ⟨o', rfl, hj, hok, hm1, hm2⟩ hoI hoff F3 N3 Qt hQt
    have hIne : @Ne Nat d I ∧ @Ne Nat gt I ∧ @Ne Nat kl I ∧ @Ne Nat pl I ∧ @Ne Nat kd I := ⟨hoff (d, o') (by simp), hoff (gt, _) (.tail _ (.head _)), hoff (kl, _) (.tail _ (.tail _ (.head _))), hoff (pl, _) (.tail _ (.tail _ (.tail _ (.head _)))), hoff (kd, _) (.tail _ (.tail _ (.tail _ (.tail _ (.head _)))))⟩
    obtain ⟨z, tz, rfl, hz⟩ : ∃ z tz, v = .int z tz ∧ [x, y][i]? = some z := by
      match i, hv with
      | 0, hv => cases hv; exact ⟨x, tx, rfl, rfl⟩
      | 1, hv => cases hv; exact ⟨y, ty, rfl, rfl⟩
      | (n + 2), hv => cases hv
    have hlen : (foundAt ([x, y].take i)).length ≤ 1000 := Nat.le_trans (foundAt_take i) (by omega)
    walk_at "go"
    all_goals have N2' : News h₀ L s.heap ([(kl, listOf kvs.toArray nk), (pl, listOf pvs.toArray np), (kd, ko)] ++ S) := fun p hp => N p (.tail _ hp)
    · refine hQt _ _ (TPost.ret ?_); show qk (Flow.ret _) _
      have hA := allOf_bad (C := C) hz hok (.inl (by assumption))
      walk_at "go"
      rename_i kF kN _ _
      exact hret _ [(kl, listOf kvs.toArray nk), (pl, listOf pvs.toArray np), (kd, ko)] [] _ _ kF (fun p hp => kN p (.tail _ (.tail _ (.tail _ hp)))) (fun _ h => nomatch h) (keep_end G2 N2' (by assumption) kN (fun p hp => .tail _ (.tail _ (.tail _ (.tail _ (.tail _ (.tail _ hp))))))) ⟨_, kvs, pvs, nk, np, ko, by rw [hA], rfl, by rw [hA]; exact V⟩
    · refine hQt _ _ (TPost.ret ?_); show qk (Flow.ret _) _
      have hA := allOf_bad (C := C) hz hok (.inr (by assumption))
      walk_at "go"
      rename_i kF kN _ _
      exact hret _ [(kl, listOf kvs.toArray nk), (pl, listOf pvs.toArray np), (kd, ko)] [] _ _ kF (fun p hp => kN p (.tail _ (.tail _ (.tail _ hp)))) (fun _ h => nomatch h) (keep_end G2 N2' (by assumption) kN (fun p hp => .tail _ (.tail _ (.tail _ (.tail _ (.tail _ (.tail _ hp))))))) ⟨_, kvs, pvs, nk, np, ko, by rw [hA], rfl, by rw [hA]; exact V⟩
    · rename_i h4 o4 F4 N4 d4
      refine hQt _ _ (TPost.next (TEnd.intro (its := [(I, oI)]) F4 N4 (fun p hp q hq => ?_) ⟨_, rfl, ?_, okAt_succ hz hok (by assumption) (by assumption), hm1, hm2⟩))
      · rw [List.mem_singleton.mp hq]
        rcases List.mem_cons.mp hp with rfl | hp
        · exact hIne.1
        · exact hoff p (.tail _ hp)
      · rw [foundAt_succ hz, if_neg (by assumption)]; assumption
    · rename_i F4 N4 _ hz1 hz2 _ hz3
      refine hQt _ _ (TPost.next (TEnd.intro (its := [(I, oI)]) F4 N4 (fun p hp q hq => ?_) ⟨_, rfl, ?_, okAt_succ hz hok (by assumption) (by assumption), hm1, hm2⟩))
      · rw [List.mem_singleton.mp hq]
        exact hoff p hp
      · rw [foundAt_succ hz, if_pos (by assumption)]; assumption
  case done =>
    rintro mm news h3 tk3 ⟨o', rfl, hd, hok, hm1, hm2⟩ F3 N3
    have hd2 : Obj.IsDictOf (intKind PySem.Challenge.rw_nz0381_01.prog w) o' (foundAt [x, y]) := hd
    have hok2 : okAt [x, y] 2 := hok
    clear hd hok
    have h64 : (foundAt [x, y]).length < 64 := by have := foundAt_len (x := x) (y := y); omega
    walk_at "go"
    unfold Stop
    rename_i B h4 tk4 vs ns e4 F4 N4 hvl hvi hp ho
    obtain ⟨l5, l6, l7, l8, l9, l10⟩ := lt1
    have hcases := allOf_keys (C := C) hok2 hp ho
    have hnl := hvi.length
    have hvz : vs.length ≤ 2 := by rw [hvl]; exact foundAt_len
    refine tuple_of F4 N4 (.head _) (by omega) fun D h5 F5 N5 l11 => ?_
    have hDB := l11 _ (.head _)
    have hDd := l11 _ (.tail _ (.head _))
    have hDl : AllLt D ([(kl, listOf kvs.toArray nk), (pl, listOf pvs.toArray np), (kd, ko)] ++ S) := allLt_of fun p hp => l11 p (.tail _ (.tail _ (.tail _ hp)))
    have hDl' := hDl
    obtain ⟨hDk, hDp, hDkd, hDS⟩ := hDl'
    have hDdd : @Ne Nat d D := Nat.ne_of_lt hDd
    clear l11
    replace N5 : News g1 L1 h5 ((D, tupO vs 0) :: (d, o') :: (gt, tupO [.int x tx, .int y ty] ng) :: (kl, listOf kvs.toArray nk) :: (pl, listOf pvs.toArray np) :: (kd, ko) :: S) := by
      intro p hp
      rcases List.mem_cons.mp hp with rfl | hp
      · exact N5 _ (.head _)
      · exact N5 _ (.tail _ (.tail _ hp))
    clear F4 N4
    have N2' : News h₀ L s.heap ([(kl, listOf kvs.toArray nk), (pl, listOf pvs.toArray np), (kd, ko)] ++ S) := fun p hp => N p (.tail _ hp)
    rcases hcases with ⟨rfl, hA⟩ | ⟨g, rfl, hA⟩ | ⟨h2, hA⟩
    · obtain rfl := ints_nil hvi
      walk_at "go"
      rename_i kF kN _ _
      exact hret _ [(kl, listOf kvs.toArray nk), (pl, listOf pvs.toArray np), (kd, ko)] [] _ _ kF (fun p hp => kN p (.tail _ (.tail _ (.tail _ hp)))) (fun _ h => nomatch h) (keep_end G2 N2' (by assumption) kN (fun p hp => .tail _ (.tail _ (.tail _ (.tail _ (.tail _ (.tail _ hp))))))) ⟨_, kvs, pvs, nk, np, ko, by rw [hA], rfl, by rw [hA]; exact V⟩
    · obtain ⟨t, rfl⟩ := ints_one hvi
      have hv0 : [Value.int g t][Int.toNat 0]? = some (.int g t) := rfl
      walk_at "go"
      rename_i kF kN _ _
      exact hret _ [(kl, listOf kvs.toArray nk), (pl, listOf pvs.toArray np), (kd, ko)] [] _ _ kF (fun p hp => kN p (.tail _ (.tail _ (.tail _ hp)))) (fun _ h => nomatch h) (keep_end G2 N2' (by assumption) kN (fun p hp => .tail _ (.tail _ (.tail _ (.tail _ (.tail _ (.tail _ hp))))))) ⟨_, kvs, pvs, nk, np, ko, by rw [hA], rfl, by rw [hA]; exact V⟩
    · have h2' : 2 ≤ vs.length := by omega
      obtain ⟨DD, hT, hDlen, hlk⟩ := V.known
      cases hix : idxOf C ns with
      | some ix =>
        have hlk2 : Spec.lookup (encTuple PyData.int ns) DD = some (.int ix) := by rw [hlk, hix]; rfl
        have hb : (!(Spec.lookup (encTuple PyData.int ns) DD).isSome) = false := by rw [hlk2]; rfl
        have hA2 : allOf C x y = (C, (ix : Int)) := by rw [hA]; unfold addAnd; rw [hix]
        walk_at "go"
        rename_i kF kN _ _
        exact hret _ [(kl, listOf kvs.toArray nk), (pl, listOf pvs.toArray np), (kd, ko)] [] _ _ kF (fun p hp => kN p (.tail _ (.tail _ (.tail _ hp)))) (fun _ h => nomatch h) (keep_end G2 N2' (by assumption) kN (fun p hp => .tail _ (.tail _ (.tail _ (.tail _ (.tail _ (.tail _ hp))))))) ⟨_, kvs, pvs, nk, np, ko, by rw [hA2], rfl, by rw [hA2]; exact V⟩
      | none =>
        have hb : (!(Spec.lookup (encTuple PyData.int ns) DD).isSome) = true := by rw [hlk, hix]; rfl
        have hA2 : allOf C x y = (C ++ [.and ns], (C.length : Int)) := by rw [hA]; unfold addAnd; rw [hix]
        have hkz : kvs.length ≤ 1000000 := by rw [V.klen]; omega
        have hpz : pvs.length ≤ 1000000 := by rw [V.plen]; omega
        walk_at "go"
        unfold Stop
        rename_i h6 F6 N6
        refine' calls_use (new_gate_spec w ((D, tupO vs 0) :: (d, o') :: (gt, tupO [.int x tx, .int y ty] ng) :: (kd, ko) :: S) c dc kl pl kd D e1 e2 e3 t1 t2 t3 kvs pvs nk np (Str.ofString "and") _ hkz hpz (by k_mem) (by k_mem) hne1 ?hoffs) ?k1 ?k2 ?k3 ?k4 ?k5 ?kK ?kd ?ku ?hs ?_
        case hoffs =>
          have hoff2 : OwnOff S [kl, pl] := ownOff_sub hoff (by simp)
          refine ownOff_cons ?_ (ownOff_cons ?_ (ownOff_cons ?_ (ownOff_cons ?_ hoff2))) <;> (simp only [List.mem_cons, List.not_mem_nil, or_false, forall_eq_or_imp, forall_eq]; omega)
        walk_at "use premises"
        case hs => intro p hp; simp only [List.mem_append, List.mem_cons, List.not_mem_nil, or_false] at hp ⊢; grind
        rintro r muts' new h7 tk7 F7 N7 fr7 K7 ⟨⟨t7, rfl⟩, rfl, rfl⟩
        simp only [List.cons_append, List.nil_append] at N7
        walk_at "go"
        unfold Stop
        rw [V.klen]
        have Nkd : News g1 L1 h7 ((kd, ko) :: (D, tupO vs 0) :: S) := fun p hp => N7 p (by simp only [List.mem_cons] at hp ⊢; grind)
        have hDkd' : @Ne Nat D kd := by omega
        refine setT (f := fun o8 => (kd, o8) :: (D, tupO vs 0) :: S) (by ktr_units) F7 Nkd (fun o8 => by k_upd) (tupTab_mono hT (fun p hp => by simp only [List.mem_cons] at hp ⊢; grind)) (.tail _ (.head _)) hvi (by omega) fun h8 o8 F8 N8 hs8 T8 => ?_
        have N9 := led_set N7 hs8 hne2 hne3 N8
        clear N8 N7 Nkd
        obtain ⟨hk1, hk2⟩ := known_put hix hDlen hlk
        have hlk8 : Spec.lookup (encTuple PyData.int ns) (PyProof.V.putD (encTuple PyData.int ns) (.int (C.length : Int)) DD) = some (.int (C.length : Int)) := by rw [hk2, idxOf_append, hix]; simp [Gate.isAnd]
        clear hT
        dsimp only
        walk_at "go"
        rename_i kF kN _ _
        exact hret _ [(kl, _), (pl, _), (kd, o8)] [(D, tupO vs 0)] _ _ kF kN
          (fresh_end G2 N9 (fun p hp => by rw [List.mem_singleton.mp hp]; exact .tail _ (.tail _ (.tail _ (.head _)))) (off_cons (allLt_notin hDl) off_nil)) (keep_end G2 N2' F8 kN (fun p hp => .tail _ (.tail _ (.tail _ (.tail _ hp)))))
          ⟨_, _, _, _, _, o8, by rw [hA2], rfl, by rw [hA2]; exact V.snoc (fun p hp => .tail _ hp) (.head _) hvi ⟨_, T8, hk1, hk2⟩⟩
section
variable {w : World} {S : List (Addr × Obj)} {c kl pl kd D : Addr} {C : List Gate} {kvs pvs : List Value} {nk np ng : Nat} {ko : Obj} {x y : Int} {tx ty : Tok}
    {dp un : Nat} {gd : Option (List Code)} {cn : Str} {cs : Scope} {a : Addr} {ccd : Value} {cl : List (Str × Addr)} {outer : List Env} {A₀ : Around} {base h₀ : Heap} {L : Addr} {m : Str → Option Value} {s : Shared} {mean : ExcName → Option Value} {mg mb : Str → Option Value}
    {Q E : Value → Shared → Prop}
theorem all_of_use (O : CirO S c kl pl kd) (V : CircV w S kd C kvs pvs ko) (hsz : C.length ≤ 100000)
    (B : Below A₀ base outer h₀) (F : Fr h₀ L s.heap m) (X : (A.heap_1 w.params).In h₀) (N : News h₀ L s.heap ((D, tupO [.int x tx, .int y ty] ng) :: (kl, listOf kvs.toArray nk) :: (pl, listOf pvs.toArray np) :: (kd, ko) :: S)) (T : Top V0 (looseW V0 []) mean mg mb h₀) (hk : cs.kind = .function)
    (hd : dp + 2 < recursionLimit) (hu : un + 8 * 2 < cLine) (l : kl < D ∧ pl < D ∧ kd < D ∧ AllLt D S)
    (ret : ∀ t kvs' pvs' nk' np' ko' new h' tk', Fr h₀ L h' m → News h₀ L h' ((kl, listOf (List.toArray kvs') nk') :: (pl, listOf (List.toArray pvs') np') :: (kd, ko') :: (new ++ S)) → (∀ p ∈ new, p ∈ [(D, tupO [.int x tx, .int y ty] ng)] ∨ s.heap.get? p.1 = none) → Keep [(kl, listOf kvs.toArray nk), (pl, listOf pvs.toArray np), (kd, ko)] s.heap h' →
      CircV w (new ++ S) kd (allOf C x y).1 kvs' pvs' ko' → Q (.int (allOf C x y).2 t) { s with heap := h', toks := tk' }) :
    wpAny (model PySem.Challenge.rw_nz0381_01.prog w) (ktrTop dp un gd cn cs L a ccd cl outer) (call (.ref 84) [.ref c, .ref D]) Q E s := by
  obtain ⟨l1, l2, l3, _⟩ := l
  have O' := O.cons (o := tupO [.int x tx, .int y ty] ng) l1 l2 l3
  obtain ⟨⟨dc, e1, e2, e3, t1, t2, t3, hc, hdc⟩, hne1, hne2, hne3, hoff⟩ := O'
  refine calls_use (all_of_spec w ((D, tupO [.int x tx, .int y ty] ng) :: S) c dc kl pl kd D e1 e2 e3 t1 t2 t3 C kvs pvs nk np _ ko _ _ _ _ (V.mono fun _ h => .tail _ h) hsz hc hdc hne1 hne2 hne3 hoff (.head _)) B F X N T hk hd hu ?_ ?_
  · intro p hp
    simp only [List.cons_append, List.nil_append, List.mem_cons] at hp ⊢
    grind
  · rintro r muts' new h2 tk2 F2 N2 fr2 K2 ⟨t, kvs', pvs', nk', np', ko', rfl, rfl, V'⟩
    rw [app_mid new] at N2 V'
    refine ret t kvs' pvs' nk' np' ko' (new ++ [(D, tupO [.int x tx, .int y ty] ng)]) h2 tk2 F2 N2 (fun p hp => ?_) K2 V'
    rcases List.mem_append.mp hp with hp | hp
    · exact .inr (fr2 p hp)
    · exact .inl hp
theorem op_end {R : List Gate × Int} {v : Value} {g1 h3 : Heap} {L2 : Addr} {m2 : Str → Option Value} {kvs' pvs' : List Value} {nk' np' : Nat} {ko' : Obj} {new : List (Addr × Obj)} {tk : Nat}
    (hret : ∀ r muts' new h' tk', Fr h₀ L h' m → News h₀ L h' (muts' ++ (new ++ S)) → (∀ p ∈ new, s.heap.get? p.1 = none) → Keep [(kl, listOf kvs.toArray nk), (pl, listOf pvs.toArray np), (kd, ko)] s.heap h' → OpPost w S kl pl kd R r muts' new → Q r { s with heap := h', toks := tk' })
    (N : News h₀ L s.heap ((kl, listOf kvs.toArray nk) :: (pl, listOf pvs.toArray np) :: (kd, ko) :: S)) (G : GSub s.heap g1 (((kl, listOf kvs.toArray nk) :: (pl, listOf pvs.toArray np) :: (kd, ko) :: S).map (·.1)))
    (fr : ∀ p ∈ new, s.heap.get? p.1 = none)
    (F2 : Fr g1 L2 h3 m2) (kF : Fr h₀ L h3 m) (kN : News h₀ L h3 ((kl, listOf (List.toArray kvs') nk') :: (pl, listOf (List.toArray pvs') np') :: (kd, ko') :: (new ++ S))) (hv : ∃ t, v = .int R.2 t) (V : CircV w (new ++ S) kd R.1 kvs' pvs' ko') :
    Q v { s with heap := h3, toks := tk } := by
  obtain ⟨t, rfl⟩ := hv
  exact hret _ [(kl, listOf (List.toArray kvs') nk'), (pl, listOf (List.toArray pvs') np'), (kd, ko')] new _ _ kF kN fr (keep_end G N F2 kN (fun p hp => .tail _ (.tail _ (.tail _ (List.mem_append_right _ hp))))) ⟨t, _, _, _, _, _, rfl, rfl, V⟩
theorem op_use {nd f : Nat} {vs : List Value} {R : List Gate × Int} (H : Calls w nd f vs [(kl, listOf kvs.toArray nk), (pl, listOf pvs.toArray np), (kd, ko)] S (OpPost w S kl pl kd R)) (O : CirO S c kl pl kd)
    (B : Below A₀ base outer h₀) (F : Fr h₀ L s.heap m) (X : (A.heap_1 w.params).In h₀) (N : News h₀ L s.heap ((kl, listOf kvs.toArray nk) :: (pl, listOf pvs.toArray np) :: (kd, ko) :: S)) (T : Top V0 (looseW V0 []) mean mg mb h₀) (hk : cs.kind = .function)
    (hd : dp + nd < recursionLimit) (hu : un + 8 * nd < cLine)
    (ret : ∀ t kvs' pvs' nk' np' ko' new h' tk', Fr h₀ L h' m → News h₀ L h' ((kl, listOf (List.toArray kvs') nk') :: (pl, listOf (List.toArray pvs') np') :: (kd, ko') :: (new ++ S)) → (∀ p ∈ new, s.heap.get? p.1 = none) → Keep [(kl, listOf kvs.toArray nk), (pl, listOf pvs.toArray np), (kd, ko)] s.heap h' →
      CircV w (new ++ S) kd R.1 kvs' pvs' ko' → CirO (new ++ S) c kl pl kd → Q (.int R.2 t) { s with heap := h', toks := tk' }) :
    wpAny (model PySem.Challenge.rw_nz0381_01.prog w) (ktrTop dp un gd cn cs L a ccd cl outer) (call (.ref f) vs) Q E s := by
  refine H _ _ _ _ _ _ _ _ _ _ _ _ _ _ _ _ _ _ _ _ B F X N T hk hd hu ?_
  rintro r muts' new h2 tk2 F2 N2 fr2 K2 ⟨t, kvs', pvs', nk', np', ko', rfl, rfl, V'⟩
  exact ret t kvs' pvs' nk' np' ko' new h2 tk2 F2 N2 fr2 K2 V' (O.grow N fr2 (.head _) (.tail _ (.head _)) (.tail _ (.tail _ (.head _))))
theorem op_useF {nd f : Nat} {vs : List Value} {R : List Gate × Int} (Fx : List (Addr × Obj)) (H : Calls w nd f vs [(kl, listOf kvs.toArray nk), (pl, listOf pvs.toArray np), (kd, ko)] S (OpPost w S kl pl kd R)) (O : CirO S c kl pl kd) (hx : OwnOff Fx [kl, pl, kd])
    (B : Below A₀ base outer h₀) (F : Fr h₀ L s.heap m) (X : (A.heap_1 w.params).In h₀) (N : News h₀ L s.heap (Fx ++ (kl, listOf kvs.toArray nk) :: (pl, listOf pvs.toArray np) :: (kd, ko) :: S)) (T : Top V0 (looseW V0 []) mean mg mb h₀) (hk : cs.kind = .function)
    (hd : dp + nd < recursionLimit) (hu : un + 8 * nd < cLine)
    (ret : ∀ t kvs' pvs' nk' np' ko' new h' tk', Fr h₀ L h' m → News h₀ L h' (Fx ++ (kl, listOf (List.toArray kvs') nk') :: (pl, listOf (List.toArray pvs') np') :: (kd, ko') :: (new ++ S)) → (∀ p ∈ new, s.heap.get? p.1 = none) → (∀ p ∈ new, ∀ q ∈ Fx, p.1 ≠ q.1) →
      CircV w (new ++ S) kd R.1 kvs' pvs' ko' → CirO (new ++ S) c kl pl kd → Q (.int R.2 t) { s with heap := h', toks := tk' }) :
    wpAny (model PySem.Challenge.rw_nz0381_01.prog w) (ktrTop dp un gd cn cs L a ccd cl outer) (call (.ref f) vs) Q E s := by
  refine op_use H O B F X (fun p hp => N p (List.mem_append_right _ hp)) T hk hd hu fun t kvs' pvs' nk' np' ko' new h2 tk2 F2 N2 fr2 K2 V' O' => ?_
  refine ret t kvs' pvs' nk' np' ko' new h2 tk2 F2 (news_app (fun p hp => ?_) N2) fr2 (fun p hp q hq e => by
    have z := (N q (List.mem_append_left _ hq)).1
    rw [← e, fr2 p hp] at z
    cases z) V' O'
  have z := N p (List.mem_append_left _ hp)
  exact ⟨K2 _ _ z.1 (by
    intro hm
    obtain ⟨q, hq, e⟩ := List.mem_map.mp hm
    refine hx p hp q.1 ?_ e.symm
    simp only [List.mem_cons, List.not_mem_nil, or_false] at hq ⊢
    rcases hq with rfl | rfl | rfl <;> simp), z.2⟩
/-- what is new behind the call is new ahead of it -/
theorem fresh_back {H g1 h1 : Heap} {L1 : Addr} {m1 : Str → Option Value} {led led' : List (Addr × Obj)} {b : Addr} (G : GSub H g1 (led.map (·.1))) (F1 : Fr g1 L1 h1 m1) (N1 : News g1 L1 h1 led') (sub : ∀ b ∈ led.map (·.1), b ∈ led'.map (·.1)) (fr : h1.get? b = none) : H.get? b = none := by
  cases e : H.get? b with
  | none => rfl
  | some o =>
    by_cases hm : b ∈ led.map (·.1)
    · obtain ⟨q, hq, e⟩ := List.mem_map.mp (sub _ hm)
      have z := (N1 q hq).1
      rw [e, fr] at z
      cases z
    · have z := F1.keep _ _ (G _ o e hm)
      rw [fr] at z
      cases z
theorem sub_refl {led : List (Addr × Obj)} : ∀ b ∈ led.map (·.1), b ∈ led.map (·.1) := fun _ h => h
theorem sub_cir {o1 o2 o3 o4 o5 o6 : Obj} {S' : List (Addr × Obj)} (h : ∀ p ∈ S, p ∈ S') : ∀ b ∈ ((kl, o1) :: (pl, o2) :: (kd, o3) :: S).map (·.1), b ∈ ((kl, o4) :: (pl, o5) :: (kd, o6) :: S').map (·.1) := by
  intro b hb
  simp only [List.map_cons, List.mem_cons, List.mem_map] at hb ⊢
  rcases hb with h | h | h | ⟨p, hp, e⟩
  · exact .inl h
  · exact .inr (.inl h)
  · exact .inr (.inr (.inl h))
  · exact .inr (.inr (.inr ⟨p, h p hp, e⟩))
theorem fresh_at {H g1 h1 : Heap} {L1 : Addr} {m1 : Str → Option Value} {led led' new : List (Addr × Obj)} {o : Obj} (G : GSub H g1 (led.map (·.1))) (F1 : Fr g1 L1 h1 m1) (N1 : News g1 L1 h1 ((D, o) :: led')) (off : AllLt D led') (sub : ∀ b ∈ led.map (·.1), b ∈ led'.map (·.1)) (fr : ∀ p ∈ new, p ∈ [(D, o)] ∨ h1.get? p.1 = none) : ∀ p ∈ new, H.get? p.1 = none := by
  intro p hp
  rcases fr p hp with h | h
  · rw [List.mem_singleton.mp h]
    exact fresh_end G N1 (new := [(D, o)]) (fun p hp => by rw [List.mem_singleton.mp hp]; exact .head _) (off_cons (fun hm => allLt_notin off (sub _ hm)) off_nil) _ (.head _)
  · exact fresh_back G F1 N1 (fun b hb => List.mem_cons_of_mem _ (sub b hb)) h
end
theorem both_spec (w : World) (S : List (Addr × Obj)) (c kl pl kd : Addr) (C : List Gate) (kvs pvs : List Value) (nk np : Nat) (ko : Obj) (x y : Int) (tx ty : Tok)
    (O : CirO S c kl pl kd) (V : CircV w S kd C kvs pvs ko) (hsz : C.length ≤ 100000) :
    Calls w 3 98 [.ref c, .int x tx, .int y ty] [(kl, listOf kvs.toArray nk), (pl, listOf pvs.toArray np), (kd, ko)] S (OpPost w S kl pl kd (allOf C x y)) := by
  have O' := O
  obtain ⟨⟨dc, e1, e2, e3, t1, t2, t3, hc, hdc⟩, _, _, _, hoff⟩ := O'
  unfold Calls
  k_fill
  intro dp un gd cn cs a ccd cl outer A₀ base h₀ L m s mean mg mb Q E B F X N T hk hd hu hret
  simp only [List.cons_append, List.nil_append] at N
  refine wpAny_call ?_
  k_dflt (walk_at "enterG")
  rename_i g1 L1 _ FG _ _ B1 X1 T1 G1
  walk_at "go"
  unfold Stop
  rename_i D h1 F1 N1 l1
  refine all_of_use O V hsz (by k_asm) F1 (by k_asm) N1 (by k_asm) (by first | exact rfl | assumption) (by ktr_room) (by ktr_units) l1 fun t kvs' pvs' nk' np' ko' new h2 tk2 F2 N2 fr2 K2 V' => ?_
  walk_at "go"
  rename_i kF kN _ _
  exact op_end hret N G1 (fresh_at G1 F1 N1 l1 sub_refl fr2) F2 kF kN ⟨_, rfl⟩ V'
theorem either_spec (w : World) (S : List (Addr × Obj)) (c kl pl kd : Addr) (C : List Gate) (kvs pvs : List Value) (nk np : Nat) (ko : Obj) (x y : Int) (tx ty : Tok)
    (O : CirO S c kl pl kd) (V : CircV w S kd C kvs pvs ko) (hsz : C.length ≤ 100000) :
    Calls w 3 105 [.ref c, .int x tx, .int y ty] [(kl, listOf kvs.toArray nk), (pl, listOf pvs.toArray np), (kd, ko)] S (OpPost w S kl pl kd (eitherG C x y)) := by
  have O' := O
  obtain ⟨⟨dc, e1, e2, e3, t1, t2, t3, hc, hdc⟩, _, _, _, hoff⟩ := O'
  unfold Calls
  k_fill
  intro dp un gd cn cs a ccd cl outer A₀ base h₀ L m s mean mg mb Q E B F X N T hk hd hu hret
  simp only [List.cons_append, List.nil_append] at N
  refine wpAny_call ?_
  k_dflt (walk_at "enterG")
  rename_i g1 L1 _ FG _ _ B1 X1 T1 G1
  walk_at "go"
  unfold Stop
  rename_i D h1 F1 N1 l1
  refine all_of_use O V hsz (by k_asm) F1 (by k_asm) N1 (by k_asm) (by first | exact rfl | assumption) (by ktr_room) (by ktr_units) l1 fun t kvs' pvs' nk' np' ko' new h2 tk2 F2 N2 fr2 K2 V' => ?_
  walk_at "go"
  rename_i kF kN _ _
  exact op_end hret N G1 (fresh_at G1 F1 N1 l1 sub_refl fr2) F2 kF kN ⟨_, rfl⟩ V'
theorem implies_spec (w : World) (S : List (Addr × Obj)) (c kl pl kd : Addr) (C : List Gate) (kvs pvs : List Value) (nk np : Nat) (ko : Obj) (x y : Int) (tx ty : Tok)
    (O : CirO S c kl pl kd) (V : CircV w S kd C kvs pvs ko) (hsz : C.length ≤ 100000) :
    Calls w 3 112 [.ref c, .int x tx, .int y ty] [(kl, listOf kvs.toArray nk), (pl, listOf pvs.toArray np), (kd, ko)] S (OpPost w S kl pl kd (impliesG C x y)) := by
  have O' := O
  obtain ⟨⟨dc, e1, e2, e3, t1, t2, t3, hc, hdc⟩, _, _, _, hoff⟩ := O'
  unfold Calls
  k_fill
  intro dp un gd cn cs a ccd cl outer A₀ base h₀ L m s mean mg mb Q E B F X N T hk hd hu hret
  simp only [List.cons_append, List.nil_append] at N
  refine wpAny_call ?_
  k_dflt (walk_at "enterG")
  rename_i g1 L1 _ FG _ _ B1 X1 T1 G1
  walk_at "go"
  unfold Stop
  rename_i D h1 F1 N1 l1
  refine all_of_use O V hsz (by k_asm) F1 (by k_asm) N1 (by k_asm) (by first | exact rfl | assumption) (by ktr_room) (by ktr_units) l1 fun t kvs' pvs' nk' np' ko' new h2 tk2 F2 N2 fr2 K2 V' => ?_
  walk_at "go"
  rename_i kF kN _ _
  exact op_end hret N G1 (fresh_at G1 F1 N1 l1 sub_refl fr2) F2 kF kN ⟨_, rfl⟩ V'
theorem iff_spec (w : World) (S : List (Addr × Obj)) (c kl pl kd : Addr) (C : List Gate) (kvs pvs : List Value) (nk np : Nat) (ko : Obj) (x y : Int) (tx ty : Tok)
    (O : CirO S c kl pl kd) (V : CircV w S kd C kvs pvs ko) (hsz : C.length ≤ 99000) :
    Calls w 4 119 [.ref c, .int x tx, .int y ty] [(kl, listOf kvs.toArray nk), (pl, listOf pvs.toArray np), (kd, ko)] S (OpPost w S kl pl kd (iffG C x y)) := by
  have O' := O
  obtain ⟨⟨dc, e1, e2, e3, t1, t2, t3, hc, hdc⟩, _, _, _, hoff⟩ := O'
  have hA := (allOf_len C x (-y)).2
  have hB := (allOf_len (allOf C x (-y)).1 y (-x)).2
  unfold Calls
  k_fill
  intro dp un gd cn cs a ccd cl outer A₀ base h₀ L m s mean mg mb Q E B F X N T hk hd hu hret
  simp only [List.cons_append, List.nil_append] at N
  refine wpAny_call ?_
  k_dflt (walk_at "enterG")
  rename_i g1 L1 _ FG F1 N1 B1 X1 T1 G1
  walk_at "go"
  unfold Stop
  refine op_use (implies_spec w S c kl pl kd C kvs pvs nk np ko _ _ _ _ O V (by omega)) O (by k_asm) F1 (by k_asm) N1 (by k_asm) (by first | exact rfl | assumption) (by ktr_room) (by ktr_units) fun t kvs' pvs' nk' np' ko' new h2 tk2 F2 N2 fr2 K2 V' O2 => ?_
  have q2 : ∀ p ∈ new, s.heap.get? p.1 = none := fun p hp => fresh_back G1 F1 N1 sub_refl (fr2 p hp)
  clear fr2
  replace hc := List.mem_append_right new hc
  replace hdc := List.mem_append_right new hdc
  walk_at "go"
  unfold Stop
  refine op_use (implies_spec w (new ++ S) c kl pl kd (impliesG C x y).1 kvs' pvs' nk' np' ko' _ _ _ _ O2 V' (by simp only [impliesG]; omega)) O2 (by k_asm) F2 (by k_asm) N2 (by k_asm) (by first | exact rfl | assumption) (by ktr_room) (by ktr_units) fun t' kvs'' pvs'' nk'' np'' ko'' new' h3 tk3 F4 N4 fr4 K4 V'' O4 => ?_
  have q4 : ∀ p ∈ new', s.heap.get? p.1 = none := fun p hp => fresh_back G1 F2 N2 (sub_cir fun p hp => List.mem_append_right _ hp) (fr4 p hp)
  clear fr4
  replace hc := List.mem_append_right new' hc
  replace hdc := List.mem_append_right new' hdc
  walk_at "go"
  unfold Stop
  rename_i D h5 F5 N5 l5
  refine all_of_use O4 V'' (by simp only [impliesG]; omega) (by k_asm) F5 (by k_asm) N5 (by k_asm) (by first | exact rfl | assumption) (by ktr_room) (by ktr_units) l5 fun t6 kvs6 pvs6 nk6 np6 ko6 new6 h6 tk6 F6 N6 fr6 K6 V6 => ?_
  have q6 : ∀ p ∈ new6, s.heap.get? p.1 = none := fresh_at G1 F5 N5 l5 (sub_cir fun p hp => List.mem_append_right _ (List.mem_append_right _ hp)) fr6
  clear fr6
  rw [← List.append_assoc, ← List.append_assoc] at N6 V6
  walk_at "go"
  rename_i kF kN _ _
  exact op_end hret N G1 (fresh_app (fresh_app q6 q4) q2) F6 kF kN ⟨_, rfl⟩ V6
theorem choose_spec (w : World) (S : List (Addr × Obj)) (c kl pl kd : Addr) (C : List Gate) (kvs pvs : List Value) (nk np : Nat) (ko : Obj) (z x y : Int) (tz tx ty : Tok)
    (O : CirO S c kl pl kd) (V : CircV w S kd C kvs pvs ko) (hsz : C.length ≤ 99000) :
    Calls w 4 133 [.ref c, .int z tz, .int x tx, .int y ty] [(kl, listOf kvs.toArray nk), (pl, listOf pvs.toArray np), (kd, ko)] S (OpPost w S kl pl kd (chooseG C z x y)) := by
  have O' := O
  obtain ⟨⟨dc, e1, e2, e3, t1, t2, t3, hc, hdc⟩, _, _, _, hoff⟩ := O'
  have hA := (allOf_len C z (-x)).2
  have hB := (allOf_len (allOf C z (-x)).1 (-z) (-y)).2
  unfold Calls
  k_fill
  intro dp un gd cn cs a ccd cl outer A₀ base h₀ L m s mean mg mb Q E B F X N T hk hd hu hret
  simp only [List.cons_append, List.nil_append] at N
  refine wpAny_call ?_
  k_dflt (walk_at "enterG")
  rename_i g1 L1 _ FG F1 N1 B1 X1 T1 G1
  walk_at "go"
  unfold Stop
  refine op_use (implies_spec w S c kl pl kd C kvs pvs nk np ko _ _ _ _ O V (by omega)) O (by k_asm) F1 (by k_asm) N1 (by k_asm) (by first | exact rfl | assumption) (by ktr_room) (by ktr_units) fun t kvs' pvs' nk' np' ko' new h2 tk2 F2 N2 fr2 K2 V' O2 => ?_
  have q2 : ∀ p ∈ new, s.heap.get? p.1 = none := fun p hp => fresh_back G1 F1 N1 sub_refl (fr2 p hp)
  clear fr2
  replace hc := List.mem_append_right new hc
  replace hdc := List.mem_append_right new hdc
  walk_at "go"
  unfold Stop
  refine op_use (implies_spec w (new ++ S) c kl pl kd (impliesG C z x).1 kvs' pvs' nk' np' ko' _ _ _ _ O2 V' (by simp only [impliesG]; omega)) O2 (by k_asm) F2 (by k_asm) N2 (by k_asm) (by first | exact rfl | assumption) (by ktr_room) (by ktr_units) fun t' kvs'' pvs'' nk'' np'' ko'' new' h3 tk3 F4 N4 fr4 K4 V'' O4 => ?_
  have q4 : ∀ p ∈ new', s.heap.get? p.1 = none := fun p hp => fresh_back G1 F2 N2 (sub_cir fun p hp => List.mem_append_right _ hp) (fr4 p hp)
  clear fr4
  replace hc := List.mem_append_right new' hc
  replace hdc := List.mem_append_right new' hdc
  walk_at "go"
  unfold Stop
  rename_i D h5 F5 N5 l5
  refine all_of_use O4 V'' (by simp only [impliesG]; omega) (by k_asm) F5 (by k_asm) N5 (by k_asm) (by first | exact rfl | assumption) (by ktr_room) (by ktr_units) l5 fun t6 kvs6 pvs6 nk6 np6 ko6 new6 h6 tk6 F6 N6 fr6 K6 V6 => ?_
  have q6 : ∀ p ∈ new6, s.heap.get? p.1 = none := fresh_at G1 F5 N5 l5 (sub_cir fun p hp => List.mem_append_right _ (List.mem_append_right _ hp)) fr6
  clear fr6
  rw [← List.append_assoc, ← List.append_assoc] at N6 V6
  walk_at "go"
  rename_i kF kN _ _
  exact op_end hret N G1 (fresh_app (fresh_app q6 q4) q2) F6 kF kN ⟨_, rfl⟩ V6
def stepNA (C : List Gate) (a b f : Int) : List Gate × Int :=
  let r1 := eitherG C (-a) b
  let r2 := allOf r1.1 (-a) b
  let r3 := eitherG r2.1 r2.2 f
  allOf r3.1 r1.2 r3.2
def foldNA : List Gate × Int → List (Int × Int) → List Gate × Int
  | z, [] => z
  | z, p :: r => foldNA (stepNA z.1 p.1 p.2 z.2) r
def notAboveG (C : List Gate) (ps : List (Int × Int)) : List Gate × Int := foldNA (C, 1) ps.reverse
theorem foldNA_snoc (z : List Gate × Int) (l : List (Int × Int)) (p : Int × Int) : foldNA z (l ++ [p]) = stepNA (foldNA z l).1 p.1 p.2 (foldNA z l).2 := by
  induction l generalizing z with
  | nil => rfl
  | cons q r ih => exact ih _
theorem foldNA_take (z : List Gate × Int) (l : List (Int × Int)) (i : Nat) (p : Int × Int) (h : l[i]? = some p) : foldNA z (l.take (i + 1)) = stepNA (foldNA z (l.take i)).1 p.1 p.2 (foldNA z (l.take i)).2 := by
  obtain ⟨hi, rfl⟩ := List.getElem?_eq_some_iff.mp h
  rw [List.take_succ_eq_append_getElem hi, foldNA_snoc]
theorem either_len (C : List Gate) (a b : Int) : C.length ≤ (eitherG C a b).1.length ∧ (eitherG C a b).1.length ≤ C.length + 1 := allOf_len C (-a) (-b)
theorem stepNA_len (C : List Gate) (a b f : Int) : C.length ≤ (stepNA C a b f).1.length ∧ (stepNA C a b f).1.length ≤ C.length + 4 := by
  have h1 := either_len C (-a) b
  have h2 := allOf_len (eitherG C (-a) b).1 (-a) b
  have h3 := either_len (allOf (eitherG C (-a) b).1 (-a) b).1 (allOf (eitherG C (-a) b).1 (-a) b).2 f
  have h4 := allOf_len (eitherG (allOf (eitherG C (-a) b).1 (-a) b).1 (allOf (eitherG C (-a) b).1 (-a) b).2 f).1 (eitherG C (-a) b).2 (eitherG (allOf (eitherG C (-a) b).1 (-a) b).1 (allOf (eitherG C (-a) b).1 (-a) b).2 f).2
  unfold stepNA
  dsimp only
  omega
theorem foldNA_len (l : List (Int × Int)) : ∀ z : List Gate × Int, z.1.length ≤ (foldNA z l).1.length ∧ (foldNA z l).1.length ≤ z.1.length + 4 * l.length := by
  induction l with
  | nil => intro z; simp [foldNA]
  | cons p r ih =>
    intro z
    have h1 := ih (stepNA z.1 p.1 p.2 z.2)
    have h2 := stepNA_len z.1 p.1 p.2 z.2
    simp only [foldNA, List.length_cons]
    omega
/-- a list of pairs of literals -/
inductive PairAt (S : List (Addr × Obj)) : Value → Int × Int → Prop
  | mk (t : Addr) (n : Nat) (a b : Int) (ta tb : Tok) (h : (t, tupO [.int a ta, .int b tb] n) ∈ S) : PairAt S (.ref t) (a, b)
def PairsAre (S : List (Addr × Obj)) (vs : List Value) (ps : List (Int × Int)) : Prop := vs.length = ps.length ∧ ∀ (i : Nat) v, vs[i]? = some v → ∃ p, ps[i]? = some p ∧ PairAt S v p
theorem PairAt.mono {S S' : List (Addr × Obj)} {v : Value} {p : Int × Int} (h : PairAt S v p) (x : ∀ q ∈ S, q ∈ S') : PairAt S' v p := by
  obtain ⟨t, n, a, b, ta, tb, h⟩ := h
  exact ⟨t, n, a, b, ta, tb, x _ h⟩
theorem PairsAre.mono {S S' : List (Addr × Obj)} {vs : List Value} {ps : List (Int × Int)} (h : PairsAre S vs ps) (x : ∀ q ∈ S, q ∈ S') : PairsAre S' vs ps := ⟨h.1, fun i v e => let ⟨p, a, b⟩ := h.2 i v e; ⟨p, a, b.mono x⟩⟩
theorem PairsAre.rev {S : List (Addr × Obj)} {vs : List Value} {ps : List (Int × Int)} (h : PairsAre S vs ps) : PairsAre S vs.reverse ps.reverse := by
  refine ⟨by simp [h.1], fun i v e => ?_⟩
  have hi := (List.getElem?_eq_some_iff.mp e).1
  simp at hi
  rw [List.getElem?_reverse hi] at e
  obtain ⟨p, a, b⟩ := h.2 _ v e
  exact ⟨p, by rw [List.getElem?_reverse (by rw [← h.1]; exact hi), ← h.1]; exact a, b⟩
/-- one step of not_above, all that its walk wants -/
inductive NAt (S new : List (Addr × Obj)) (C : List Gate) (ps : List (Int × Int)) (i : Nat) : Value → Prop
  | mk (t : Addr) (n : Nat) (a b : Int) (ta tb : Tok) (h : (t, tupO [.int a ta, .int b tb] n) ∈ new ++ S) (hst : foldNA (C, 1) (ps.reverse.take (i + 1)) = stepNA (foldNA (C, 1) (ps.reverse.take i)).1 a b (foldNA (C, 1) (ps.reverse.take i)).2)
      (hz : (foldNA (C, 1) (ps.reverse.take i)).1.length ≤ C.length + 4 * ps.length) : NAt S new C ps i (.ref t)
theorem NAt.of {S new : List (Addr × Obj)} {vs : List Value} {C : List Gate} {ps : List (Int × Int)} {i : Nat} {v : Value} (h : PairsAre S vs ps) (hv : vs.reverse[i]? = some v) : NAt S new C ps i v := by
  obtain ⟨p, hp, t, n, a, b, ta, tb, m⟩ := h.rev.2 i v hv
  have hz := (foldNA_len (ps.reverse.take i) (C, 1)).2
  have hi := List.length_take_le' i ps.reverse
  rw [List.length_reverse] at hi
  dsimp only at hz
  exact ⟨t, n, a, b, ta, tb, List.mem_append_right _ m, foldNA_take (C, 1) ps.reverse i _ hp, by omega⟩
inductive JNA (w : World) (S : List (Addr × Obj)) (c kl pl kd : Addr) (H : Heap) (z : List Gate × Int) : (Str → Option Value) → List (Addr × Obj) → Prop
  | mk (kvs pvs : List Value) (nk np : Nat) (ko : Obj) (new : List (Addr × Obj)) (t : Tok) (mm : Str → Option Value) (V : CircV w (new ++ S) kd z.1 kvs pvs ko) (O : CirO (new ++ S) c kl pl kd) (fr : ∀ p ∈ new, H.get? p.1 = none)
    (h1 : mm (Str.ofString "found") = some (.int z.2 t)) (h2 : mm (Str.ofString "circuit") = some (.ref c)) : JNA w S c kl pl kd H z mm ((kl, listOf kvs.toArray nk) :: (pl, listOf pvs.toArray np) :: (kd, ko) :: (new ++ S))
theorem rev_news {prog : Program} {w : World} {A : Around} {E : Value → Shared → Prop} {s : Shared} {h₀ : Heap} {L ax : Addr} {m : Str → Option Value} {news : List (Addr × Obj)} {vs : List Value} {n : Nat} {Q : Value → Shared → Prop}
    (F : Fr h₀ L s.heap m) (N : News h₀ L s.heap news) (hl : (ax, listOf vs.toArray n) ∈ news)
    (h : ∀ D h', Fr h₀ L h' m → News h₀ L h' ((D, revObj ax ((vs.length : Int) - 1)) :: news) → (∀ p ∈ news, p.1 < D) → Q (.ref D) { s with heap := h' }) : wpAny (model prog w) A (call (.type "reversed") [.ref ax]) Q E s := by
  refine call_reversed_list (News.isList N hl) ?_
  refine h _ _ (F.push _) (fun p hp => ?_) fun p hp => Heap.lt_size (N p hp).1
  rcases List.mem_cons.mp hp with rfl | hp
  · exact ⟨by simpa using Heap.get?_push_size _ rfl, Nat.ne_of_gt F.ns.lt, next_is_new F⟩
  · exact ⟨Heap.get?_push_of_some _ (N p hp).1, (N p hp).2⟩
theorem off_x {I kl pl kd : Addr} {oI o1 o2 o3 : Obj} {S0 : List (Addr × Obj)} (hoff : ∀ p ∈ (kl, o1) :: (pl, o2) :: (kd, o3) :: S0, p.1 ≠ I) : OwnOff [(I, oI)] [kl, pl, kd] := by
  intro p hp b hb e
  rw [List.mem_singleton.mp hp] at e
  simp only [List.mem_cons, List.not_mem_nil, or_false] at hb
  rcases hb with rfl | rfl | rfl
  · exact hoff _ (.head _) e.symm
  · exact hoff _ (.tail _ (.head _)) e.symm
  · exact hoff _ (.tail _ (.tail _ (.head _))) e.symm
theorem off_it {I kl pl kd : Addr} {oI o1 o2 o3 o4 o5 o6 : Obj} {S0 S1 : List (Addr × Obj)} (hoff : ∀ p ∈ (kl, o1) :: (pl, o2) :: (kd, o3) :: S0, p.1 ≠ I) (h : ∀ p ∈ S1, p ∈ S0 ∨ ∀ q ∈ [(I, oI)], p.1 ≠ q.1) :
    ∀ p ∈ (kl, o4) :: (pl, o5) :: (kd, o6) :: S1, ∀ q ∈ [(I, oI)], p.1 ≠ q.1 := by
  intro p hp q hq
  rw [List.mem_singleton.mp hq]
  rcases List.mem_cons.mp hp with rfl | hp
  · exact hoff (kl, o1) (.head _)
  rcases List.mem_cons.mp hp with rfl | hp
  · exact hoff (pl, o2) (.tail _ (.head _))
  rcases List.mem_cons.mp hp with rfl | hp
  · exact hoff (kd, o3) (.tail _ (.tail _ (.head _)))
  · rcases h p hp with h | h
    · exact hoff _ (.tail _ (.tail _ (.tail _ h)))
    · exact h _ (.head _)
theorem not_above_spec (w : World) (S : List (Addr × Obj)) (c kl pl kd ax : Addr) (C : List Gate) (kvs pvs vs : List Value) (nk np nx : Nat) (ko : Obj) (ps : List (Int × Int))
    (O : CirO S c kl pl kd) (V : CircV w S kd C kvs pvs ko) (hax : (ax, listOf vs.toArray nx) ∈ S) (hps : PairsAre S vs ps) (hsz : C.length + 4 * ps.length ≤ 90000) :
    Calls w 4 28 [.ref c, .ref ax] [(kl, listOf kvs.toArray nk), (pl, listOf pvs.toArray np), (kd, ko)] S (OpPost w S kl pl kd (notAboveG C ps)) := by
  unfold Calls
  k_fill
  intro dp un gd cn cs a ccd cl outer A₀ base h₀ L m s mean mg mb Q E B F X N T hk hd hu hret
  simp only [List.cons_append, List.nil_append] at N
  refine wpAny_call ?_
  k_dflt (walk_at "enterG")
  rename_i g1 L1 _ FG F1 N1 B1 X1 T1 G1
  walk_at "go"
  unfold Stop
  k_fold
  rename_i h1 F2 N2
  refine for_rev (ax := ax) (lo := listOf vs.toArray nx) (vs := vs) (n := nx) (fun i => JNA w S c kl pl kd s.heap (foldNA (C, 1) (ps.reverse.take i))) rfl rfl rfl F2 ?heval ?hJ ?turn ?done
  case hJ => rintro i mm nx' ⟨⟩; exact .tail _ (.tail _ (.tail _ (List.mem_append_right _ hax)))
  case heval =>
    walk_at "go"
    refine rev_news F2 N2 (.tail _ (.tail _ (.tail _ hax))) fun D h4 F4 N4 l4 => ?_
    exact ⟨D, h4, _, _, _, rfl, rfl, F4, N4, l4, .mk kvs pvs nk np ko [] _ _ V O (fun _ h => nomatch h) rfl ((hM _).trans rfl)⟩
  case turn => 
    rintro i v _ _ I oI h3 tk3 hv ⟨kvs', pvs', nk', np', ko', new, t, mm, V', O', fr', hm1, hm2⟩ hoI hoff F3 N3 Qt hQt
    obtain ⟨tt, nt, pa, pb, ta, tb, htt, hst, hz⟩ := NAt.of (new := new) (C := C) hps hv
    clear hv
    obtain ⟨dc, e1, e2, e3, t1, t2, t3, hc, hdc⟩ := O'.inst
    have hx : OwnOff [(I, oI)] [kl, pl, kd] := off_x hoff
    generalize foldNA (C, 1) (ps.reverse.take i) = z at V' hm1 hz hst
    have a1 := (either_len z.1 (-pa) pb).2
    have a2 := (allOf_len (eitherG z.1 (-pa) pb).1 (-pa) pb).2
    have a3 := (either_len (allOf (eitherG z.1 (-pa) pb).1 (-pa) pb).1 (allOf (eitherG z.1 (-pa) pb).1 (-pa) pb).2 z.2).2
    walk_at "go"
    unfold Stop
    rename_i F5 N5
    refine op_useF [(I, oI)] (either_spec w (new ++ S) c kl pl kd _ kvs' pvs' nk' np' ko' _ _ _ _ O' V' (by omega)) O' hx (by k_asm) F5 (by k_asm) N5 (by k_asm) (by first | exact rfl | assumption) (by ktr_room) (by ktr_units) fun t1 kvs1 pvs1 nk1 np1 ko1 new5 h5r tk5r F5r N5r fr5 i5 V5 O5 => ?_
    have q5 : ∀ p ∈ new5, s.heap.get? p.1 = none := fun p hp => fresh_back G1 F5 N5 (fun b hb => List.mem_cons_of_mem _ (sub_cir (fun p hp => by simp [hp]) b hb)) (fr5 p hp)
    clear fr5
    simp only [List.cons_append, List.nil_append] at N5r
    replace hc := List.mem_append_right new5 hc
    replace hdc := List.mem_append_right new5 hdc
    walk_at "go"
    unfold Stop
    refine op_useF [(I, oI)] (both_spec w (new5 ++ (new ++ S)) c kl pl kd _ kvs1 pvs1 nk1 np1 ko1 _ _ _ _ O5 V5 (by omega)) O5 hx (by k_asm) F5r (by k_asm) N5r (by k_asm) (by first | exact rfl | assumption) (by ktr_room) (by ktr_units) fun t2 kvs2 pvs2 nk2 np2 ko2 new6 h6r tk6r F6r N6r fr6 i6 V6 O6 => ?_
    have q6 : ∀ p ∈ new6, s.heap.get? p.1 = none := fun p hp => fresh_back G1 F5r N5r (fun b hb => List.mem_cons_of_mem _ (sub_cir (fun p hp => by simp [hp]) b hb)) (fr6 p hp)
    clear fr6
    simp only [List.cons_append, List.nil_append] at N6r
    replace hc := List.mem_append_right new6 hc
    replace hdc := List.mem_append_right new6 hdc
    walk_at "go"
    unfold Stop
    refine op_useF [(I, oI)] (either_spec w (new6 ++ (new5 ++ (new ++ S))) c kl pl kd _ kvs2 pvs2 nk2 np2 ko2 _ _ _ _ O6 V6 (by omega)) O6 hx (by k_asm) F6r (by k_asm) N6r (by k_asm) (by first | exact rfl | assumption) (by ktr_room) (by ktr_units) fun t3 kvs3 pvs3 nk3 np3 ko3 new7 h7r tk7r F7r N7r fr7 i7 V7 O7 => ?_
    have q7 : ∀ p ∈ new7, s.heap.get? p.1 = none := fun p hp => fresh_back G1 F6r N6r (fun b hb => List.mem_cons_of_mem _ (sub_cir (fun p hp => by simp [hp]) b hb)) (fr7 p hp)
    clear fr7
    simp only [List.cons_append, List.nil_append] at N7r
    replace hc := List.mem_append_right new7 hc
    replace hdc := List.mem_append_right new7 hdc
    walk_at "go"
    unfold Stop
    refine op_useF [(I, oI)] (both_spec w (new7 ++ (new6 ++ (new5 ++ (new ++ S)))) c kl pl kd _ kvs3 pvs3 nk3 np3 ko3 _ _ _ _ O7 V7 (by omega)) O7 hx (by k_asm) F7r (by k_asm) N7r (by k_asm) (by first | exact rfl | assumption) (by ktr_room) (by ktr_units) fun t4 kvs4 pvs4 nk4 np4 ko4 new8 h8r tk8r F8r N8r fr8 i8 V8 O8 => ?_
    have q8 : ∀ p ∈ new8, s.heap.get? p.1 = none := fun p hp => fresh_back G1 F7r N7r (fun b hb => List.mem_cons_of_mem _ (sub_cir (fun p hp => by simp [hp]) b hb)) (fr8 p hp)
    clear fr8
    simp only [List.cons_append, List.nil_append] at N8r
    replace hc := List.mem_append_right new8 hc
    replace hdc := List.mem_append_right new8 hdc
    walk_at "go"
    rename_i h9 F9 N9
    simp only [← List.append_assoc] at N9 V8 O8
    refine hQt _ _ (TPost.next (TEnd.intro (its := [(I, oI)]) F9 N9 (off_it hoff fun p hp => ?_) (.mk _ _ _ _ _ _ _ _ (by rw [hst]; exact V8) O8 (fresh_app (fresh_app (fresh_app (fresh_app q8 q7) q6) q5) fr') (by rw [hst]; rfl) hm2)))
    simp only [List.mem_append] at hp ⊢
    rcases hp with ((((h | h) | h) | h) | h) | h
    · exact .inr (i8 _ h)
    · exact .inr (i7 _ h)
    · exact .inr (i6 _ h)
    · exact .inr (i5 _ h)
    · exact .inl (.inl h)
    · exact .inl (.inr h)
  case done =>
    rintro _ _ h3 tk3 ⟨kvs', pvs', nk', np', ko', new, t, mm, V', O', fr', hm1, hm2⟩ F3 N3
    rw [List.take_of_length_le (by simp [hps.1])] at V' hm1
    walk_at "go"
    rename_i kF kN _ _
    exact op_end hret N G1 fr' F3 kF kN ⟨_, rfl⟩ V'
/-- what a call of a def of the text does that changes nothing and hands new objects back -/
def Makes (w : World) (nd : Nat) (f : Nat) (vs : List Value) (news : List (Addr × Obj)) (Pre : Heap → Prop) (Post : Value → List (Addr × Obj) → Prop) : Prop :=
  ∀ (dp un : Nat) (gd : Option (List Code)) (cn : Str) (cs : Scope) (a : Addr) (ccd : Value) (cl : List (Str × Addr)) (outer : List Env) (A₀ : Around) (base h₀ : Heap) (L : Addr) (m : Str → Option Value) (s : Shared) (mean : ExcName → Option Value) (mg mb : Str → Option Value)
    (Q E : Value → Shared → Prop),
    Below A₀ base outer h₀ → Pre base → Fr h₀ L s.heap m → (A.heap_1 w.params).In h₀ → News h₀ L s.heap news → Top V0 (looseW V0 []) mean mg mb h₀ → cs.kind = .function →
    dp + nd < recursionLimit → un + 8 * nd < cLine →
    (∀ r new h' tk', Fr h₀ L h' m → News h₀ L h' (new ++ news) → (∀ p ∈ new, ∀ q ∈ news, p.1 ≠ q.1) → Post r new → Q r { s with heap := h', toks := tk' }) →
    wpAny (model PySem.Challenge.rw_nz0381_01.prog w) (ktrTop dp un gd cn cs L a ccd cl outer) (call (.ref f) vs) Q E s
/-- the dict of a tape, its list of cells in `S` -/
inductive TapeAt (w : World) (S : List (Addr × Obj)) (spot : Nat) (o : Obj) : Prop
  | mk (cl : Addr) (cvs : List Value) (n : Nat) (cs : List Int) (t : Tok) (ho : o.IsDictOf (strKind PySem.Challenge.rw_nz0381_01.prog w) [(Str.ofString "cells", .ref cl), (Str.ofString "spot", .int spot t)]) (hm : (cl, listOf cvs.toArray n) ∈ S) (hI : IntsAre cvs cs) (hl : cvs.length ≤ 63) : TapeAt w S spot o
theorem TapeAt.mono {w : World} {S S' : List (Addr × Obj)} {spot : Nat} {o : Obj} (h : TapeAt w S spot o) (x : ∀ p ∈ S, p ∈ S') : TapeAt w S' spot o := by
  obtain ⟨cl, cvs, n, cs, t, ho, hm, hI, hl⟩ := h
  exact ⟨cl, cvs, n, cs, t, ho, x _ hm, hI, hl⟩
theorem ints_get : ∀ {us : List Value} {ps : List Int} {i : Nat}, IntsAre us ps → i < us.length → ∃ c t, us[i]? = some (.int c t) ∧ ps[i]? = some c
  | _, _, 0, .cons c t _, _ => ⟨c, t, rfl, rfl⟩
  | _, _, i + 1, .cons _ _ r, h => by
    obtain ⟨c, t, e⟩ := ints_get (i := i) r (by simpa using h)
    exact ⟨c, t, by simpa using e⟩
inductive DrawPost (w : World) (td : Addr) (S : List (Addr × Obj)) (spot : Nat) (many : Int) : Value → List (Addr × Obj) → List (Addr × Obj) → Prop
  | mk (x : Int) (t : Tok) (o' : Obj) (h0 : 0 ≤ x) (h1 : x < many) (ho : TapeAt w S (spot + 1) o') : DrawPost w td S spot many (.int x t) [(td, o')] []
/-- x is a literal of the pool -/
def LitOf (ps : List Int) (x : Int) : Prop := ∃ g ∈ ps, x = g ∨ x = -g
theorem LitOf.get {ps : List Int} {i : Int} {x : Int} (h0 : 0 ≤ i) (h1 : i < ps.length) (h : x = ps.getD i.toNat 0 ∨ x = -ps.getD i.toNat 0) : LitOf ps x := by
  have hi : i.toNat < ps.length := by omega
  rw [List.getD_eq_getElem?_getD, List.getElem?_eq_getElem hi] at h
  exact ⟨ps[i.toNat], List.getElem_mem hi, h⟩
inductive LitPost (w : World) (td : Addr) (S : List (Addr × Obj)) (spot : Nat) (ps : List Int) : Value → List (Addr × Obj) → List (Addr × Obj) → Prop
  | mk (x : Int) (t : Tok) (o' : Obj) (h : LitOf ps x) (ho : TapeAt w S spot o') : LitPost w td S spot ps (.int x t) [(td, o')] []
theorem keep_refl {m : List (Addr × Obj)} {H : Heap} : Keep m H H := fun _ _ e _ => e
theorem keep_trans {m m' : List (Addr × Obj)} {H H' H'' : Heap} (x : Keep m H H') (y : Keep m' H' H'') (e : m'.map (·.1) = m.map (·.1)) : Keep m H H'' := fun b o h n => y b o (x b o h n) (by rw [e]; exact n)
/-- one gate that _law_more draws -/
inductive MoreRes (C : List Gate) (ps : List Int) : List Gate × Int → Prop
  | both (x y : Int) (hx : LitOf ps x) (hy : LitOf ps y) : MoreRes C ps (allOf C x y)
  | either (x y : Int) (hx : LitOf ps x) (hy : LitOf ps y) : MoreRes C ps (eitherG C x y)
  | iff (x y : Int) (hx : LitOf ps x) (hy : LitOf ps y) : MoreRes C ps (iffG C x y)
  | choose (x y z : Int) (hx : LitOf ps x) (hy : LitOf ps y) (hz : LitOf ps z) : MoreRes C ps (chooseG C x y z)
inductive MorePost (w : World) (S : List (Addr × Obj)) (td kl pl kd : Addr) (C : List Gate) (ps : List Int) (top : Nat) (r : Value) (muts' new : List (Addr × Obj)) : Prop
  | mk (R : List Gate × Int) (t : Tok) (o' : Obj) (spot : Nat) (kvs' pvs' : List Value) (nk' np' : Nat) (ko' : Obj) (hr : r = .int R.2 t) (hm : muts' = [(td, o'), (kl, listOf (List.toArray kvs') nk'), (pl, listOf (List.toArray pvs') np'), (kd, ko')])
      (hs : spot ≤ top) (hT : TapeAt w (new ++ S) spot o') (V : CircV w (new ++ S) kd R.1 kvs' pvs' ko') (hR : MoreRes C ps R) : MorePost w S td kl pl kd C ps top r muts' new
/-- a call whose contract speaks of `muts` and `S` alone; `Fx` stays as it is -/
theorem calls_useF {w : World} {nd f : Nat} {vs : List Value} {muts S : List (Addr × Obj)} {Post : Value → List (Addr × Obj) → List (Addr × Obj) → Prop} (Fx : List (Addr × Obj)) (C : Calls w nd f vs muts S Post)
    {dp un : Nat} {gd : Option (List Code)} {cn : Str} {cs : Scope} {a : Addr} {ccd : Value} {cl : List (Str × Addr)} {outer : List Env} {A₀ : Around} {base h₀ : Heap} {L : Addr} {m : Str → Option Value} {s : Shared} {mean : ExcName → Option Value} {mg mb : Str → Option Value}
    {Q E : Value → Shared → Prop} {news : List (Addr × Obj)}
    (B : Below A₀ base outer h₀) (F : Fr h₀ L s.heap m) (X : (A.heap_1 w.params).In h₀) (N : News h₀ L s.heap news) (T : Top V0 (looseW V0 []) mean mg mb h₀) (hk : cs.kind = .function)
    (hd : dp + nd < recursionLimit) (hu : un + 8 * nd < cLine) (hs : ∀ p ∈ muts ++ (Fx ++ S), p ∈ news) (off : ∀ p ∈ Fx, p.1 ∉ muts.map (·.1))
    (ret : ∀ r muts' new h' tk', Fr h₀ L h' m → News h₀ L h' (muts' ++ (Fx ++ (new ++ S))) → (∀ p ∈ new, s.heap.get? p.1 = none) → Keep muts s.heap h' → Post r muts' new → Q r { s with heap := h', toks := tk' }) :
    wpAny (model PySem.Challenge.rw_nz0381_01.prog w) (ktrTop dp un gd cn cs L a ccd cl outer) (call (.ref f) vs) Q E s := by
  refine calls_use C B F X N T hk hd hu (fun p hp => hs p ?_) fun r muts' new h' tk' F' N' fr K P => ret r muts' new h' tk' F' ?_ fr K P
  · rcases List.mem_append.mp hp with h | h
    · exact List.mem_append_left _ h
    · exact List.mem_append_right _ (List.mem_append_right _ h)
  · intro p hp
    rcases List.mem_append.mp hp with h | h
    · exact N' p (List.mem_append_left _ h)
    · rcases List.mem_append.mp h with h | h
      · have z := N p (hs p (List.mem_append_right _ (List.mem_append_left _ h)))
        exact ⟨K _ _ z.1 (off p h), z.2⟩
      · exact N' p (List.mem_append_right _ h)
inductive TapePost (w : World) (r : Value) (new : List (Addr × Obj)) : Prop
  | mk (td : Addr) (o : Obj) (S : List (Addr × Obj)) (hr : r = .ref td) (hn : new = (td, o) :: S) (hd : OwnOff S [td]) (hT : TapeAt w S 0 o) : TapePost w r new
/-- x is a literal of the gates below n -/
def LitIn (n : Nat) (x : Int) : Prop := 1 ≤ x.natAbs ∧ x.natAbs < n
theorem LitIn.mono {n m : Nat} {x : Int} (h : LitIn n x) (l : n ≤ m) : LitIn m x := ⟨h.1, Nat.lt_of_lt_of_le h.2 l⟩
theorem LitIn.neg {n : Nat} {x : Int} (h : LitIn n x) : LitIn n (-x) := by unfold LitIn at *; omega
def GateOk (i : Nat) : Gate → Prop
  | .and ps => ps.length ≤ 2 ∧ ∀ p ∈ ps, LitIn i p
  | _ => True
/-- a circuit of n inputs -/
structure WFC (n : Nat) (C : List Gate) : Prop where
  c0 : C[0]? = some .dummy
  c1 : C[1]? = some .tru
  ci : ∀ i, 2 ≤ i → i < n + 2 → C[i]? = some .inp
  ca : ∀ i g, n + 2 ≤ i → C[i]? = some g → ∃ ps, g = .and ps
  ok : ∀ i g, C[i]? = some g → GateOk i g
  len : n + 2 ≤ C.length
/-- the truth of a literal -/
def lv (acc : List Bool) (x : Int) : Bool := if 0 < x then acc.getD x.natAbs false else !acc.getD x.natAbs false
def gv (ρ : Nat → Bool) (acc : List Bool) : Gate → Bool
  | .dummy => false
  | .tru => true
  | .inp => ρ (acc.length - 2)
  | .and ps => ps.all (lv acc)
def tvs (ρ : Nat → Bool) (C : List Gate) : List Bool := C.foldl (fun acc g => acc ++ [gv ρ acc g]) []
theorem tvs_snoc (ρ : Nat → Bool) (C : List Gate) (g : Gate) : tvs ρ (C ++ [g]) = tvs ρ C ++ [gv ρ (tvs ρ C) g] := by
  unfold tvs
  rw [List.foldl_append]
  rfl
theorem snocRec {α : Type} {P : List α → Prop} (h0 : P []) (h1 : ∀ l a, P l → P (l ++ [a])) (l : List α) : P l := by
  rw [← List.reverse_reverse l]
  induction l.reverse with
  | nil => exact h0
  | cons a r ih => rw [List.reverse_cons]; exact h1 _ _ ih
theorem tvs_len (ρ : Nat → Bool) (C : List Gate) : (tvs ρ C).length = C.length := by
  refine snocRec (P := fun C => (tvs ρ C).length = C.length) rfl (fun C g ih => ?_) C
  rw [tvs_snoc]; simp [ih]
theorem tvs_append (ρ : Nat → Bool) (C D : List Gate) : ∃ E, tvs ρ (C ++ D) = tvs ρ C ++ E := by
  refine snocRec (P := fun D => ∃ E, tvs ρ (C ++ D) = tvs ρ C ++ E) ⟨[], by simp⟩ (fun D g ih => ?_) D
  obtain ⟨E, h⟩ := ih
  rw [← List.append_assoc, tvs_snoc, h]
  exact ⟨E ++ [gv ρ (tvs ρ C ++ E) g], by simp⟩
theorem tvs_get (ρ : Nat → Bool) {C : List Gate} {i : Nat} {g : Gate} (h : C[i]? = some g) : (tvs ρ C)[i]? = some (gv ρ (tvs ρ (C.take i)) g) := by
  obtain ⟨hi, rfl⟩ := List.getElem?_eq_some_iff.mp h
  have e : C = (C.take i ++ [C[i]]) ++ C.drop (i + 1) := by
    rw [← List.take_succ_eq_append_getElem hi, List.take_append_drop]
  obtain ⟨E, h2⟩ := tvs_append ρ (C.take i ++ [C[i]]) (C.drop (i + 1))
  have h3 := h2
  rw [← e, tvs_snoc] at h3
  rw [h3, List.append_assoc, List.getElem?_append_right (by rw [tvs_len]; simp [Nat.min_le_left])]
  have e2 : i - (tvs ρ (C.take i)).length = 0 := by rw [tvs_len]; simp; omega
  rw [e2]
  rfl
theorem lv_append {acc E : List Bool} {x : Int} (h : LitIn acc.length x) : lv (acc ++ E) x = lv acc x := by
  unfold lv
  rw [List.getD_eq_getElem?_getD, List.getD_eq_getElem?_getD, List.getElem?_append_left h.2]
theorem lv_grow (ρ : Nat → Bool) {C D : List Gate} {x : Int} (h : LitIn C.length x) : lv (tvs ρ (C ++ D)) x = lv (tvs ρ C) x := by
  obtain ⟨E, e⟩ := tvs_append ρ C D
  rw [e, lv_append (by rw [tvs_len]; exact h)]
theorem lv_take (ρ : Nat → Bool) {C : List Gate} {i : Nat} {x : Int} (hi : i ≤ C.length) (h : LitIn i x) : lv (tvs ρ (C.take i)) x = lv (tvs ρ C) x := by
  have e : C = C.take i ++ C.drop i := (List.take_append_drop i C).symm
  have : lv (tvs ρ (C.take i ++ C.drop i)) x = lv (tvs ρ (C.take i)) x := lv_grow ρ (by simp [Nat.min_eq_left hi]; exact h)
  rw [← e] at this
  exact this.symm
theorem lv_neg {acc : List Bool} {x : Int} (h : 1 ≤ x.natAbs) : lv acc (-x) = !lv acc x := by
  unfold lv
  rw [Int.natAbs_neg]
  by_cases h0 : 0 < x
  · rw [if_pos h0, if_neg (by omega)]
  · rw [if_neg h0, if_pos (by omega)]; simp
theorem lv_one (ρ : Nat → Bool) {n : Nat} {C : List Gate} (W : WFC n C) : lv (tvs ρ C) 1 = true := by
  have h := tvs_get ρ W.c1
  unfold lv
  rw [if_pos (by omega), List.getD_eq_getElem?_getD]
  show (tvs ρ C)[1]?.getD false = true
  rw [h]; rfl
theorem lv_nat (ρ : Nat → Bool) {C : List Gate} {i : Nat} {g : Gate} (h0 : 1 ≤ i) (h : C[i]? = some g) : lv (tvs ρ C) (i : Int) = gv ρ (tvs ρ (C.take i)) g := by
  unfold lv
  rw [if_pos (by omega), List.getD_eq_getElem?_getD, Int.natAbs_natCast, tvs_get ρ h]; rfl
/-- C' goes on from C -/
def Ext (C C' : List Gate) : Prop := ∃ D, C' = C ++ D
theorem Ext.refl (C : List Gate) : Ext C C := ⟨[], by simp⟩
theorem Ext.trans {A B C : List Gate} (x : Ext A B) (y : Ext B C) : Ext A C := by
  obtain ⟨D, rfl⟩ := x
  obtain ⟨E, rfl⟩ := y
  exact ⟨D ++ E, by simp⟩
theorem Ext.len {A B : List Gate} (x : Ext A B) : A.length ≤ B.length := by obtain ⟨D, rfl⟩ := x; simp
theorem Ext.lv {A B : List Gate} (x : Ext A B) (ρ : Nat → Bool) {l : Int} (h : LitIn A.length l) : lv (tvs ρ B) l = lv (tvs ρ A) l := by
  obtain ⟨D, rfl⟩ := x
  exact lv_grow ρ h
/-- the answer R of an operation at C: the circuit grows, well formed; the literal; its truth; asked again the same -/
structure OpOk (n : Nat) (C : List Gate) (R : List Gate × Int) (val : (Nat → Bool) → Bool) (again : List Gate → List Gate × Int) : Prop where
  ext : Ext C R.1
  wf : WFC n R.1
  lit : LitIn R.1.length R.2
  val : ∀ ρ, lv (tvs ρ R.1) R.2 = val ρ
  again : ∀ C', Ext R.1 C' → again C' = (C', R.2)
theorem idxOf_some {C : List Gate} {ps : List Int} {i : Nat} (h : idxOf C ps = some i) : C[i]? = some (.and ps) := by
  unfold idxOf at h
  rw [List.findIdx?_eq_some_iff_getElem] at h
  obtain ⟨hi, h1, _⟩ := h
  rw [List.getElem?_eq_getElem hi]
  rw [Gate.isAnd_iff.mp h1]
theorem idxOf_ext {C C' : List Gate} {ps : List Int} {i : Nat} (h : idxOf C ps = some i) (x : Ext C C') : idxOf C' ps = some i := by
  obtain ⟨D, rfl⟩ := x
  unfold idxOf at *
  rw [List.findIdx?_append, h]
  rfl
theorem WFC.snoc {n : Nat} {C : List Gate} (W : WFC n C) {ps : List Int} (h2 : ps.length ≤ 2) (h : ∀ p ∈ ps, LitIn C.length p) : WFC n (C ++ [.and ps]) where
  c0 := by rw [List.getElem?_append_left (by have := W.len; omega)]; exact W.c0
  c1 := by rw [List.getElem?_append_left (by have := W.len; omega)]; exact W.c1
  ci := fun i a b => by rw [List.getElem?_append_left (by have := W.len; omega)]; exact W.ci i a b
  ca := fun i g a e => by
    by_cases hi : i < C.length
    · rw [List.getElem?_append_left hi] at e; exact W.ca i g a e
    · rw [List.getElem?_append_right (by omega)] at e
      have e1 : i - C.length = 0 := by
        have := (List.getElem?_eq_some_iff.mp e).1
        simp at this; omega
      rw [e1] at e
      exact ⟨ps, by simpa using e.symm⟩
  ok := fun i g e => by
    by_cases hi : i < C.length
    · rw [List.getElem?_append_left hi] at e; exact W.ok i g e
    · rw [List.getElem?_append_right (by omega)] at e
      have e1 : i - C.length = 0 := by
        have := (List.getElem?_eq_some_iff.mp e).1
        simp at this; omega
      rw [e1] at e
      have e2 : g = .and ps := by simpa using e.symm
      subst e2
      have : i = C.length := by omega
      rw [this]; exact ⟨h2, h⟩
  len := by have := W.len; simp; omega
theorem all_cong {l : List Int} {f g : Int → Bool} (h : ∀ x ∈ l, f x = g x) : l.all f = l.all g := by
  induction l with
  | nil => rfl
  | cons x r ih => rw [List.all_cons, List.all_cons, h x (.head _), ih fun y hy => h y (.tail _ hy)]
theorem addAnd_ok {n : Nat} {C : List Gate} (W : WFC n C) {ps : List Int} (h2 : ps.length ≤ 2) (h : ∀ p ∈ ps, LitIn C.length p) :
    OpOk n C (addAnd C ps) (fun ρ => ps.all (lv (tvs ρ C))) (fun C' => addAnd C' ps) := by
  unfold addAnd
  cases e : idxOf C ps with
  | some i =>
    have hi := idxOf_some e
    have hl := (List.getElem?_eq_some_iff.mp hi).1
    have hi2 : 2 ≤ i := by
      rcases Nat.lt_or_ge i 2 with h | h
      · have : i = 0 ∨ i = 1 := by omega
        rcases this with rfl | rfl
        · rw [W.c0] at hi; cases hi
        · rw [W.c1] at hi; cases hi
      · exact h
    refine ⟨.refl C, W, ⟨by simp; omega, by simpa using hl⟩, fun ρ => ?_, fun C' x => ?_⟩
    · show lv (tvs ρ C) (i : Int) = _
      rw [lv_nat ρ (by omega) hi]
      show ps.all _ = ps.all _
      have hok := (W.ok i _ hi).2
      exact all_cong fun p hp => lv_take ρ (by omega) (hok p hp)
    · rw [idxOf_ext e x]
  | none =>
    refine ⟨⟨_, rfl⟩, W.snoc h2 h, ⟨by have := W.len; simp; omega, by simp⟩, fun ρ => ?_, fun C' x => ?_⟩
    · show lv (tvs ρ (C ++ [.and ps])) (C.length : Int) = _
      rw [lv_nat ρ (g := .and ps) (by have := W.len; omega) (by simp)]
      simp [gv]
    · have e2 : idxOf (C ++ [.and ps]) ps = some C.length := by rw [idxOf_append, e]; simp [Gate.isAnd]
      rw [idxOf_ext e2 x]
theorem allOf_ok {n : Nat} {C : List Gate} (W : WFC n C) {a b : Int} (ha : LitIn C.length a) (hb : LitIn C.length b) :
    OpOk n C (allOf C a b) (fun ρ => lv (tvs ρ C) a && lv (tvs ρ C) b) (fun C' => allOf C' a b) := by
  have h1 := W.len
  have stay : ∀ {x : Int} {f : List Gate → List Gate × Int}, LitIn C.length x → (∀ C', f C' = (C', x)) → (∀ ρ, lv (tvs ρ C) x = (lv (tvs ρ C) a && lv (tvs ρ C) b)) → OpOk n C (C, x) (fun ρ => lv (tvs ρ C) a && lv (tvs ρ C) b) f :=
    fun hx hf hv => ⟨.refl C, W, hx, hv, fun C' _ => hf C'⟩
  have n1 : ∀ ρ, lv (tvs ρ C) (-1) = false := fun ρ => by rw [lv_neg (by decide), lv_one ρ W]; rfl
  unfold allOf
  by_cases c1 : a = -1 ∨ b = -1
  · simp only [if_pos c1]
    refine stay (by unfold LitIn; simp; omega) (fun _ => rfl) fun ρ => ?_
    rcases c1 with rfl | rfl
    · rw [n1]; rfl
    · rw [n1]; simp
  simp only [if_neg c1]
  by_cases c2 : a = 1
  · simp only [if_pos c2]
    refine stay hb (fun _ => rfl) fun ρ => ?_
    rw [c2, lv_one ρ W]; simp
  simp only [if_neg c2]
  by_cases c3 : -b = a
  · simp only [if_pos c3]
    refine stay (by unfold LitIn; simp; omega) (fun _ => rfl) fun ρ => ?_
    rw [n1, ← c3, lv_neg hb.1]; simp
  simp only [if_neg c3]
  by_cases c4 : b = 1 ∨ b = a
  · simp only [if_pos c4]
    refine stay ha (fun _ => rfl) fun ρ => ?_
    rcases c4 with rfl | rfl
    · rw [lv_one ρ W]; simp
    · simp
  simp only [if_neg c4]
  by_cases c5 : a ≤ b
  · simp only [if_pos c5]
    have := addAnd_ok W (ps := [a, b]) (by simp) (by simp; exact ⟨ha, hb⟩)
    simpa using this
  · simp only [if_neg c5]
    have := addAnd_ok W (ps := [b, a]) (by simp) (by simp; exact ⟨hb, ha⟩)
    simpa [Bool.and_comm] using this
theorem OpOk.congr {n : Nat} {C : List Gate} {R : List Gate × Int} {v v' : (Nat → Bool) → Bool} {f : List Gate → List Gate × Int} (h : OpOk n C R v f) (e : ∀ ρ, v ρ = v' ρ) : OpOk n C R v' f :=
  ⟨h.ext, h.wf, h.lit, fun ρ => (h.val ρ).trans (e ρ), h.again⟩
theorem OpOk.neg {n : Nat} {C : List Gate} {R : List Gate × Int} {v : (Nat → Bool) → Bool} {f : List Gate → List Gate × Int} (h : OpOk n C R v f) : OpOk n C (R.1, -R.2) (fun ρ => !v ρ) (fun C' => ((f C').1, -(f C').2)) :=
  ⟨h.ext, h.wf, h.lit.neg, fun ρ => by rw [← h.val ρ]; exact lv_neg h.lit.1, fun C' x => by rw [h.again C' x]⟩
theorem either_ok {n : Nat} {C : List Gate} (W : WFC n C) {a b : Int} (ha : LitIn C.length a) (hb : LitIn C.length b) :
    OpOk n C (eitherG C a b) (fun ρ => lv (tvs ρ C) a || lv (tvs ρ C) b) (fun C' => eitherG C' a b) :=
  (allOf_ok W ha.neg hb.neg).neg.congr fun ρ => by
    simp only [lv_neg ha.1, lv_neg hb.1]
    cases lv (tvs ρ C) a <;> cases lv (tvs ρ C) b <;> rfl
theorem implies_ok {n : Nat} {C : List Gate} (W : WFC n C) {a b : Int} (ha : LitIn C.length a) (hb : LitIn C.length b) :
    OpOk n C (impliesG C a b) (fun ρ => !lv (tvs ρ C) a || lv (tvs ρ C) b) (fun C' => impliesG C' a b) :=
  (allOf_ok W ha hb.neg).neg.congr fun ρ => by
    simp only [lv_neg hb.1]
    cases lv (tvs ρ C) a <;> cases lv (tvs ρ C) b <;> rfl
/-- a gate that grows the circuit, a literal of it -/
structure GrowOk (n : Nat) (C : List Gate) (R : List Gate × Int) : Prop where
  ext : Ext C R.1
  wf : WFC n R.1
  lit : LitIn R.1.length R.2
theorem OpOk.grow {n : Nat} {C : List Gate} {R : List Gate × Int} {v : (Nat → Bool) → Bool} {f : List Gate → List Gate × Int} (h : OpOk n C R v f) : GrowOk n C R := ⟨h.ext, h.wf, h.lit⟩
theorem iff_grow {n : Nat} {C : List Gate} (W : WFC n C) {a b : Int} (ha : LitIn C.length a) (hb : LitIn C.length b) : GrowOk n C (iffG C a b) := by
  have h1 := implies_ok W ha hb
  have h2 := implies_ok h1.wf (hb.mono h1.ext.len) (ha.mono h1.ext.len)
  have h3 := allOf_ok h2.wf (h1.lit.mono h2.ext.len) h2.lit
  exact ⟨(h1.ext.trans h2.ext).trans h3.ext, h3.wf, h3.lit⟩
theorem choose_grow {n : Nat} {C : List Gate} (W : WFC n C) {c a b : Int} (hc : LitIn C.length c) (ha : LitIn C.length a) (hb : LitIn C.length b) : GrowOk n C (chooseG C c a b) := by
  have h1 := implies_ok W hc ha
  have h2 := implies_ok h1.wf (hc.neg.mono h1.ext.len) (hb.mono h1.ext.len)
  have h3 := allOf_ok h2.wf (h1.lit.mono h2.ext.len) h2.lit
  exact ⟨(h1.ext.trans h2.ext).trans h3.ext, h3.wf, h3.lit⟩
theorem LitOf.lit {ps : List Int} {x : Int} {n : Nat} (h : LitOf ps x) (hp : ∀ p ∈ ps, LitIn n p) : LitIn n x := by
  obtain ⟨g, hg, e | e⟩ := h
  · rw [e]; exact hp g hg
  · rw [e]; exact (hp g hg).neg
theorem MoreRes.grow {n : Nat} {C : List Gate} {ps : List Int} {R : List Gate × Int} (h : MoreRes C ps R) (W : WFC n C) (hp : ∀ p ∈ ps, LitIn C.length p) : GrowOk n C R := by
  cases h with
  | both x y hx hy => exact (allOf_ok W (hx.lit hp) (hy.lit hp)).grow
  | either x y hx hy => exact (either_ok W (hx.lit hp) (hy.lit hp)).grow
  | iff x y hx hy => exact iff_grow W (hx.lit hp) (hy.lit hp)
  | choose x y z hx hy hz => exact choose_grow W (hx.lit hp) (hy.lit hp) (hz.lit hp)
/-- the order of dictionaries, false below true -/
def lexB : List (Bool × Bool) → Bool
  | [] => true
  | (a, b) :: r => (!a && b) || ((a == b) && lexB r)
theorem step_ok {n : Nat} {C : List Gate} (W : WFC n C) {a b f : Int} (ha : LitIn C.length a) (hb : LitIn C.length b) (hf : LitIn C.length f) :
    OpOk n C (stepNA C a b f) (fun ρ => (!lv (tvs ρ C) a && lv (tvs ρ C) b) || ((lv (tvs ρ C) a == lv (tvs ρ C) b) && lv (tvs ρ C) f)) (fun C' => stepNA C' a b f) := by
  have h1 := either_ok W ha.neg hb
  have h2 := allOf_ok h1.wf (ha.neg.mono h1.ext.len) (hb.mono h1.ext.len)
  have h3 := either_ok h2.wf h2.lit (hf.mono (h1.ext.trans h2.ext).len)
  have h4 := allOf_ok h3.wf (h1.lit.mono (h2.ext.trans h3.ext).len) h3.lit
  refine ⟨((h1.ext.trans h2.ext).trans h3.ext).trans h4.ext, h4.wf, h4.lit, fun ρ => ?_, fun C' x => ?_⟩
  · have e4 := h4.val ρ
    have e3 := h3.val ρ
    have e2 := h2.val ρ
    have e1 := h1.val ρ
    rw [(h2.ext.trans h3.ext).lv ρ h1.lit, e3, e2, e1] at e4
    rw [(h1.ext.trans h2.ext).lv ρ hf, h1.ext.lv ρ ha.neg, h1.ext.lv ρ hb, lv_neg ha.1] at e4
    refine Eq.trans e4 ?_
    cases lv (tvs ρ C) a <;> cases lv (tvs ρ C) b <;> cases lv (tvs ρ C) f <;> rfl
  · have x4 : Ext (stepNA C a b f).1 C' := x
    have x3 := h4.ext.trans x4
    have x2 := h3.ext.trans x3
    have x1 := h2.ext.trans x2
    unfold stepNA
    dsimp only
    rw [h1.again C' x1]
    dsimp only
    rw [h2.again C' x2]
    dsimp only
    rw [h3.again C' x3]
    dsimp only
    exact h4.again C' x4
def truths (acc : List Bool) (ps : List (Int × Int)) : List (Bool × Bool) := ps.map fun p => (lv acc p.1, lv acc p.2)
theorem fold_ok {n : Nat} (l : List (Int × Int)) : ∀ {C : List Gate} {f : Int} (_ : WFC n C) (_ : ∀ p ∈ l, LitIn C.length p.1 ∧ LitIn C.length p.2) (_ : LitIn C.length f),
    OpOk n C (foldNA (C, f) l) (fun ρ => (l.foldl (fun (v : Bool) p => (!lv (tvs ρ C) p.1 && lv (tvs ρ C) p.2) || ((lv (tvs ρ C) p.1 == lv (tvs ρ C) p.2) && v)) (lv (tvs ρ C) f))) (fun C' => foldNA (C', f) l) := by
  induction l with
  | nil => intro C f W _ hf; exact ⟨.refl C, W, hf, fun _ => rfl, fun _ _ => rfl⟩
  | cons p r ih =>
    intro C f W hl hf
    have hp := hl p (.head _)
    have h1 := step_ok W hp.1 hp.2 hf
    have h2 := ih h1.wf (fun q hq => ⟨(hl q (.tail _ hq)).1.mono h1.ext.len, (hl q (.tail _ hq)).2.mono h1.ext.len⟩) h1.lit
    refine ⟨h1.ext.trans h2.ext, h2.wf, h2.lit, fun ρ => ?_, fun C' x => ?_⟩
    · refine Eq.trans (h2.val ρ) ?_
      rw [h1.val ρ, List.foldl_cons]
      have e2 : ∀ (r : List (Int × Int)) (v : Bool), (∀ q ∈ r, LitIn C.length q.1 ∧ LitIn C.length q.2) → r.foldl (fun (v : Bool) q => (!lv (tvs ρ (stepNA C p.1 p.2 f).1) q.1 && lv (tvs ρ (stepNA C p.1 p.2 f).1) q.2) || ((lv (tvs ρ (stepNA C p.1 p.2 f).1) q.1 == lv (tvs ρ (stepNA C p.1 p.2 f).1) q.2) && v)) v = r.foldl (fun (v : Bool) q => (!lv (tvs ρ C) q.1 && lv (tvs ρ C) q.2) || ((lv (tvs ρ C) q.1 == lv (tvs ρ C) q.2) && v)) v := by
        intro r
        induction r with
        | nil => intro v _; rfl
        | cons q r ihr =>
          intro v hr
          have hq := hr q (.head _)
          rw [List.foldl_cons, List.foldl_cons, ihr _ fun y hy => hr y (.tail _ hy), h1.ext.lv ρ hq.1, h1.ext.lv ρ hq.2]
      exact e2 r _ fun q hq => hl q (.tail _ hq)
    · have x1 : Ext (stepNA C p.1 p.2 f).1 C' := h2.ext.trans x
      show foldNA (stepNA C' p.1 p.2 f) r = _
      rw [h1.again C' x1]
      exact h2.again C' x
theorem lex_fold (acc : List Bool) (ps : List (Int × Int)) : ps.reverse.foldl (fun (v : Bool) p => (!lv acc p.1 && lv acc p.2) || ((lv acc p.1 == lv acc p.2) && v)) true = lexB (truths acc ps) := by
  induction ps with
  | nil => rfl
  | cons p r ih =>
    rw [List.reverse_cons, List.foldl_append, ih]
    rfl
/-- what not_above does -/
theorem na_ok {n : Nat} {C : List Gate} (W : WFC n C) {ps : List (Int × Int)} (hp : ∀ p ∈ ps, LitIn C.length p.1 ∧ LitIn C.length p.2) :
    OpOk n C (notAboveG C ps) (fun ρ => lexB (truths (tvs ρ C) ps)) (fun C' => notAboveG C' ps) := by
  have h := fold_ok ps.reverse W (f := 1) (fun p hp' => hp p (List.mem_reverse.mp hp')) ⟨by decide, by have := W.len; simp; omega⟩
  refine h.congr fun ρ => ?_
  rw [lv_one ρ W]
  exact lex_fold _ ps
theorem draw_spec (w : World) (S : List (Addr × Obj)) (td : Addr) (o : Obj) (spot : Nat) (many : Int) (tm : Tok) (hT : TapeAt w S spot o) (hs : spot ≤ 1000) (h0 : 0 < many) (h1 : many ≤ 1000) (hoff : OwnOff S [td]) :
    Calls w 1 178 [.ref td, .int many tm] [(td, o)] S (DrawPost w td S spot many) := by
  obtain ⟨ca, cvs, n, cis, t, ho, hm, hI, hl⟩ := hT
  have hsq : (spot : Int) * spot ≤ 1000000 := by
    have h : spot * spot ≤ 1000 * 1000 := Nat.mul_le_mul hs hs
    have e : ((spot * spot : Nat) : Int) = (spot : Int) * spot := Int.natCast_mul ..
    omega
  have hsq0 : 0 ≤ (spot : Int) * spot := Int.mul_nonneg (by omega) (by omega)
  unfold Calls
  k_fill
  intro dp un gd cn cs a ccd cl outer A₀ base h₀ L m s mean mg mb Q E B F X N T hk hd hu hret
  simp only [List.cons_append, List.nil_append] at N
  refine wpAny_call ?_
  k_dflt (walk_at "enterG")
  rename_i g1 L1 _ FG F1 N1 B1 X1 T1 G1
  walk_at "go"
  · rename_i o2 F2 N2 ho2 _ _ _ kF kN _ _
    exact hret _ [(td, o2)] [] _ _ kF (fun p hp => kN p (.tail _ hp)) (fun _ h => nomatch h) (keep_end G1 N F2 kN (fun p hp => .tail _ (.tail _ hp))) (.mk _ _ _ (Int.fmod_nonneg_of_pos _ h0) (Int.fmod_lt_of_pos _ h0) ⟨ca, cvs, n, cis, _, ho2, hm, hI, hl⟩)
  · rename_i o2 F2 N2 ho2 _ _ kF kN _ _
    exact hret _ [(td, o2)] [] _ _ kF (fun p hp => kN p (.tail _ hp)) (fun _ h => nomatch h) (keep_end G1 N F2 kN (fun p hp => .tail _ (.tail _ hp))) (.mk _ _ _ (Int.fmod_nonneg_of_pos _ h0) (Int.fmod_lt_of_pos _ h0) ⟨ca, cvs, n, cis, _, ho2, hm, hI, hl⟩)
theorem lit_spec (w : World) (S : List (Addr × Obj)) (td pa : Addr) (o : Obj) (spot : Nat) (pvs : List Value) (ps : List Int) (n : Nat) (hT : TapeAt w S spot o) (hs : spot ≤ 900) (hp : (pa, listOf pvs.toArray n) ∈ S) (hI : IntsAre pvs ps) (h0 : 0 < pvs.length) (h1 : pvs.length ≤ 63) (hoff : OwnOff S [td]) :
    Calls w 2 185 [.ref td, .ref pa] [(td, o)] S (LitPost w td S (spot + 2) ps) := by
  have hlen := hI.length
  unfold Calls
  k_fill
  intro dp un gd cn cs a ccd cl outer A₀ base h₀ L m s mean mg mb Q E B F X N T hk hd hu hret
  simp only [List.cons_append, List.nil_append] at N
  refine wpAny_call ?_
  k_dflt (walk_at "enterG")
  rename_i g1 L1 _ FG F1 N1 B1 X1 T1 G1
  walk_at "go"
  unfold Stop
  refine' calls_use (draw_spec w S td o spot pvs.length _ hT (by omega) (by omega) (by omega) hoff) ?k1 ?k2 ?k3 ?k4 ?k5 ?kK ?kd ?ku (fun p hp => hp) ?_
  walk_at "use premises"
  rintro r muts' new h2 tk2 F2 N2 fr2 K2 ⟨x, t, o2, x0, x1, ho2⟩
  simp only [List.cons_append, List.nil_append] at N2
  walk_at "go"
  unfold Stop
  refine' calls_use (draw_spec w S td o2 (spot + 1) 2 _ ho2 (by omega) (by omega) (by omega) hoff) ?k1 ?k2 ?k3 ?k4 ?k5 ?kK ?kd ?ku (fun p hp => hp) ?_
  walk_at "use premises"
  rintro r muts' new h4 tk4 F4 N4 fr4 K4 ⟨y, t4, o4, y0, y1, ho4⟩
  simp only [List.cons_append, List.nil_append] at N4
  walk_at "go"
  · rename_i kF kN _ _
    exact hret _ [(td, o4)] [] _ _ kF kN (fun _ h => nomatch h) (keep_end G1 N F4 kN (fun p hp => .tail _ hp)) (.mk _ _ _ (LitOf.get x0 (by omega) (.inl rfl)) ho4)
  · rename_i kF kN _ _
    exact hret _ [(td, o4)] [] _ _ kF kN (fun _ h => nomatch h) (keep_end G1 N F4 kN (fun p hp => .tail _ hp)) (.mk _ _ _ (LitOf.get x0 (by omega) (.inr rfl)) ho4)
theorem more_end {w : World} {S : List (Addr × Obj)} {td kl pl kd : Addr} {C : List Gate} {kvs pvs : List Value} {nk np : Nat} {ko o : Obj} {ps : List Int} {top : Nat} {h₀ : Heap} {L : Addr} {m : Str → Option Value} {s : Shared} {Q : Value → Shared → Prop}
    {v : Value} {g1 h3 : Heap} {L2 : Addr} {m2 : Str → Option Value} {kvs' pvs' : List Value} {nk' np' spot : Nat} {ko' o' : Obj} {new : List (Addr × Obj)} {tk : Nat}
    (hret : ∀ r muts' new h' tk', Fr h₀ L h' m → News h₀ L h' (muts' ++ (new ++ S)) → (∀ p ∈ new, s.heap.get? p.1 = none) → Keep [(td, o), (kl, listOf kvs.toArray nk), (pl, listOf pvs.toArray np), (kd, ko)] s.heap h' → MorePost w S td kl pl kd C ps top r muts' new → Q r { s with heap := h', toks := tk' })
    (N : News h₀ L s.heap ((td, o) :: (kl, listOf kvs.toArray nk) :: (pl, listOf pvs.toArray np) :: (kd, ko) :: S)) (G : GSub s.heap g1 (((td, o) :: (kl, listOf kvs.toArray nk) :: (pl, listOf pvs.toArray np) :: (kd, ko) :: S).map (·.1)))
    (fr : ∀ p ∈ new, s.heap.get? p.1 = none) (F2 : Fr g1 L2 h3 m2) (kF : Fr h₀ L h3 m) (kN : News h₀ L h3 ((td, o') :: (kl, listOf (List.toArray kvs') nk') :: (pl, listOf (List.toArray pvs') np') :: (kd, ko') :: (new ++ S)))
    (R : List Gate × Int) (hR : MoreRes C ps R) (hv : ∃ t, v = .int R.2 t) (hs : spot ≤ top) (hT : TapeAt w S spot o') (V : CircV w (new ++ S) kd R.1 kvs' pvs' ko') : Q v { s with heap := h3, toks := tk } := by
  obtain ⟨t, rfl⟩ := hv
  exact hret _ [(td, o'), (kl, listOf (List.toArray kvs') nk'), (pl, listOf (List.toArray pvs') np'), (kd, ko')] new _ _ kF kN fr (keep_end G N F2 kN (fun p hp => .tail _ (.tail _ (.tail _ (.tail _ (List.mem_append_right _ hp)))))) (.mk R t o' spot kvs' pvs' nk' np' ko' rfl rfl hs (hT.mono fun p hp => List.mem_append_right _ hp) V hR)
theorem td_off {td kl pl kd : Addr} {o : Obj} (d1 : @Ne Nat td kl) (d2 : @Ne Nat td pl) (d3 : @Ne Nat td kd) : OwnOff [(td, o)] [kl, pl, kd] := ownOff_cons (by simp; omega) fun _ h => nomatch h
theorem sub_tail {p q : Addr × Obj} {a b : List (Addr × Obj)} (e : p.1 = q.1) (h : ∀ x ∈ a.map (·.1), x ∈ b.map (·.1)) : ∀ x ∈ (p :: a).map (·.1), x ∈ (q :: b).map (·.1) := by
  intro x hx
  rcases List.mem_cons.mp hx with h1 | h1
  · exact List.mem_cons.mpr (.inl (h1.trans e))
  · exact List.mem_cons.mpr (.inr (h x h1))
theorem td_fx {td kl pl kd : Addr} {o1 o2 o3 : Obj} (d1 : @Ne Nat td kl) (d2 : @Ne Nat td pl) (d3 : @Ne Nat td kd) : ∀ p ∈ [(kl, o1), (pl, o2), (kd, o3)], p.1 ∉ ([td] : List Addr) := by
  intro p hp hm
  have e := List.mem_singleton.mp hm
  simp only [List.mem_cons, List.not_mem_nil, or_false] at hp
  rcases hp with rfl | rfl | rfl
  · exact d1 e.symm
  · exact d2 e.symm
  · exact d3 e.symm
theorem more_spec (w : World) (S : List (Addr × Obj)) (c kl pl kd td pa : Addr) (C : List Gate) (kvs pvs vs : List Value) (nk np n : Nat) (ko o : Obj) (spot : Nat) (ps : List Int)
    (O : CirO S c kl pl kd) (V : CircV w S kd C kvs pvs ko) (hsz : C.length ≤ 90000) (hT : TapeAt w S spot o) (hs : spot ≤ 800) (hp : (pa, listOf vs.toArray n) ∈ S) (hI : IntsAre vs ps) (h0 : 0 < vs.length) (h1 : vs.length ≤ 63)
    (hoff : OwnOff S [td]) (d1 : @Ne Nat td kl) (d2 : @Ne Nat td pl) (d3 : @Ne Nat td kd) :
    Calls w 5 192 [.ref td, .ref c, .ref pa] [(td, o), (kl, listOf kvs.toArray nk), (pl, listOf pvs.toArray np), (kd, ko)] S (MorePost w S td kl pl kd C ps (spot + 7)) := by
  have O' := O
  obtain ⟨⟨dc, e1, e2, e3, t1, t2, t3, hc, hdc⟩, hne1, hne2, hne3, hoff3⟩ := O'
  have hx : ∀ p ∈ [(kl, listOf kvs.toArray nk), (pl, listOf pvs.toArray np), (kd, ko)], p.1 ∉ ([td] : List Addr) := td_fx d1 d2 d3
  unfold Calls
  k_fill
  intro dp un gd cn cs a ccd cl outer A₀ base h₀ L m s mean mg mb Q E B F X N T hk hd hu hret
  simp only [List.cons_append, List.nil_append] at N
  refine wpAny_call ?_
  k_dflt (walk_at "enterG")
  rename_i g1 L1 _ FG F1 N1 B1 X1 T1 G1
  walk_at "go"
  unfold Stop
  refine' calls_useF [(kl, listOf kvs.toArray nk), (pl, listOf pvs.toArray np), (kd, ko)] (draw_spec w S td o spot 4 _ hT (by omega) (by omega) (by omega) hoff) ?k1 ?k2 ?k3 ?k4 ?k5 ?kK ?kd ?ku (fun p hp => hp) hx ?_
  walk_at "use premises"
  rintro r muts' new h2 tk2 F2 N2 fr2 K2 ⟨x, t, o2, x0, x1, ho2⟩
  simp only [List.cons_append, List.nil_append] at N2
  walk_at "go"
  unfold Stop
  refine' calls_useF [(kl, listOf kvs.toArray nk), (pl, listOf pvs.toArray np), (kd, ko)] (lit_spec w S td pa o2 (spot + 1) vs ps n ho2 (by omega) hp hI h0 h1 hoff) ?k1 ?k2 ?k3 ?k4 ?k5 ?kK ?kd ?ku (fun p hp => hp) hx ?_
  walk_at "use premises"
  rintro r muts' new h4 tk4 F4 N4 fr4 K4 ⟨y, t4, o4, hy, ho4⟩
  simp only [List.cons_append, List.nil_append] at N4
  walk_at "go"
  unfold Stop
  refine' calls_useF [(kl, listOf kvs.toArray nk), (pl, listOf pvs.toArray np), (kd, ko)] (lit_spec w S td pa o4 (spot + 1 + 2) vs ps n ho4 (by omega) hp hI h0 h1 hoff) ?k1 ?k2 ?k3 ?k4 ?k5 ?kK ?kd ?ku (fun p hp => hp) hx ?_
  walk_at "use premises"
  rintro r muts' new h6 tk6 F6 N6 fr6 K6 ⟨z, t6, o6, hz, ho6⟩
  simp only [List.cons_append, List.nil_append] at N6
  walk_at "go"
  all_goals unfold Stop
  · rename Fr g1 L1 _ _ => F7
    rename News g1 L1 _ _ => N7
    replace N7 := fun p hp => N7 p (List.Mem.tail _ hp)
    refine op_useF [(td, o6)] (both_spec w S c kl pl kd C kvs pvs nk np ko _ _ _ _ O V (by omega)) O (td_off d1 d2 d3) (by k_asm) F7 (by k_asm) N7 (by k_asm) (by first | exact rfl | assumption) (by ktr_room) (by ktr_units) fun t kvs' pvs' nk' np' ko' new h8 tk8 F8 N8 fr8 i8 V8 O8 => ?_
    have q8 : ∀ p ∈ new, s.heap.get? p.1 = none := fun p hp => fresh_back G1 F7 N7 (sub_tail rfl (sub_cir fun _ h => h)) (fr8 p hp)
    clear fr8 i8
    simp only [List.cons_append, List.nil_append] at N8
    walk_at "go"
    rename_i kF kN _ _
    exact more_end hret N G1 q8 F8 kF kN _ (.both _ _ hy hz) ⟨_, rfl⟩ (by omega) ho6 V8
  · rename Fr g1 L1 _ _ => F7
    rename News g1 L1 _ _ => N7
    replace N7 := fun p hp => N7 p (List.Mem.tail _ hp)
    refine op_useF [(td, o6)] (either_spec w S c kl pl kd C kvs pvs nk np ko _ _ _ _ O V (by omega)) O (td_off d1 d2 d3) (by k_asm) F7 (by k_asm) N7 (by k_asm) (by first | exact rfl | assumption) (by ktr_room) (by ktr_units) fun t kvs' pvs' nk' np' ko' new h8 tk8 F8 N8 fr8 i8 V8 O8 => ?_
    have q8 : ∀ p ∈ new, s.heap.get? p.1 = none := fun p hp => fresh_back G1 F7 N7 (sub_tail rfl (sub_cir fun _ h => h)) (fr8 p hp)
    clear fr8 i8
    simp only [List.cons_append, List.nil_append] at N8
    walk_at "go"
    rename_i kF kN _ _
    exact more_end hret N G1 q8 F8 kF kN _ (.either _ _ hy hz) ⟨_, rfl⟩ (by omega) ho6 V8
  · rename Fr g1 L1 _ _ => F7
    rename News g1 L1 _ _ => N7
    replace N7 := fun p hp => N7 p (List.Mem.tail _ hp)
    refine op_useF [(td, o6)] (iff_spec w S c kl pl kd C kvs pvs nk np ko _ _ _ _ O V (by omega)) O (td_off d1 d2 d3) (by k_asm) F7 (by k_asm) N7 (by k_asm) (by first | exact rfl | assumption) (by ktr_room) (by ktr_units) fun t kvs' pvs' nk' np' ko' new h8 tk8 F8 N8 fr8 i8 V8 O8 => ?_
    have q8 : ∀ p ∈ new, s.heap.get? p.1 = none := fun p hp => fresh_back G1 F7 N7 (sub_tail rfl (sub_cir fun _ h => h)) (fr8 p hp)
    clear fr8 i8
    simp only [List.cons_append, List.nil_append] at N8
    walk_at "go"
    rename_i kF kN _ _
    exact more_end hret N G1 q8 F8 kF kN _ (.iff _ _ hy hz) ⟨_, rfl⟩ (by omega) ho6 V8
  · rename Fr g1 L1 _ _ => F7
    rename News g1 L1 _ _ => N7
    replace N7 := fun p hp => N7 p (List.Mem.tail _ hp)
    refine' calls_useF [(kl, listOf kvs.toArray nk), (pl, listOf pvs.toArray np), (kd, ko)] (lit_spec w S td pa o6 (spot + 1 + 2 + 2) vs ps n ho6 (by omega) hp hI h0 h1 hoff) ?k1 ?k2 ?k3 ?k4 ?k5 ?kK ?kd ?ku (fun p hp => hp) hx ?_
    walk_at "use premises"
    rintro r muts' new h9 tk9 F9 N9 fr9 K9 ⟨u, t9, o9, hu9, ho9⟩
    simp only [List.cons_append, List.nil_append] at N9
    walk_at "go"
    unfold Stop
    refine op_useF [(td, o9)] (choose_spec w S c kl pl kd C kvs pvs nk np ko _ _ _ _ _ _ O V (by omega)) O (td_off d1 d2 d3) (by k_asm) F9 (by k_asm) N9 (by k_asm) (by first | exact rfl | assumption) (by ktr_room) (by ktr_units) fun t kvs' pvs' nk' np' ko' new h8 tk8 F8 N8 fr8 i8 V8 O8 => ?_
    have q8 : ∀ p ∈ new, s.heap.get? p.1 = none := fun p hp => fresh_back G1 F9 N9 (sub_tail rfl (sub_cir fun _ h => h)) (fr8 p hp)
    clear fr8 i8
    simp only [List.cons_append, List.nil_append] at N8
    walk_at "go"
    rename_i kF kN _ _
    exact more_end hret N G1 q8 F8 kF kN _ (.choose _ _ _ hy hz hu9) ⟨_, rfl⟩ (Nat.le_refl _) ho9 V8
section
open LCg
variable {prog : Program} {w : World} {A : Around} {E : Value → Shared → Prop} {s : Shared} {h₀ : Heap} {L : Addr} {m : Str → Option Value} {env : Env} {ct elt : Expr} {x : Str} {scope : Scope} {cl : List (Str × Addr)}
/-- one turn of a comprehension: the element's tree, its end by `J` -/
def ETurn (prog : Program) (w : World) (A : Around) (h₀ : Heap) (L : Addr) (m : Str → Option Value) (e : Expr) (cenv : Env) (s : Shared) (its : List (Addr × Obj)) (ok : List (Addr × Obj) → Prop) (J : Value → List (Addr × Obj) → Prop) (h : Heap) (tk : Nat) (E' : Value → Shared → Prop) : Prop :=
  ∀ Qt : Value → Shared → Prop, (∀ y h' tk' nx', Fr h₀ L h' m → News h₀ L h' (its ++ nx') → ok nx' → J y nx' → Qt y { s with heap := h', toks := tk' }) → wpAny (model prog w) A (eval e cenv) Qt E' { s with heap := h, toks := tk }
theorem ETurn.use {e : Expr} {cenv : Env} {I C D : Addr} {oI oC oD : Obj} {J : Value → List (Addr × Obj) → Prop} {S : List (Addr × Obj) → Prop} {rest : Value → List (Addr × Obj) → Prop} {h : Heap} {tk : Nat} {E' : Value → Shared → Prop}
    (t : ETurn prog w A h₀ L m e cenv s [(I, oI), (C, oC), (D, oD)] (Off3 I C D) J h tk E') (hS : ∀ y nx, J y nx → S nx) (hr : ∀ y nx, J y nx → rest y nx) :
    wpAny (model prog w) A (eval e cenv) (CompEnd h₀ L m { s with heap := h, toks := tk } I oI C oC D oD S rest) E' { s with heap := h, toks := tk } :=
  t _ fun y h' tk' nx' F N off hj => ⟨h', tk', nx', rfl, F, N, off, hS y nx' hj, hr y nx' hj⟩
abbrev Apart3 (I C D : Addr) : Prop := (@Ne Nat I C) ∧ (@Ne Nat I D) ∧ (@Ne Nat C D)
theorem crest_inv {n : Nat} {S : List (Addr × Obj) → Prop} {P : Nat → Value → Prop} {Fin : List Value → List (Addr × Obj) → Prop} (J : Nat → List Value → List (Addr × Obj) → Prop) (hS : ∀ i ys nx, J i ys nx → S nx)
    (turn : ∀ i v ys nx I oI C oC D m₂ h tk E', i < n → P i v → J i ys nx → NsObj oC m₂ → m₂ x = some v → Fr h₀ L h m → News h₀ L h ((I, oI) :: (C, oC) :: (D, lst ys) :: nx) → Off3 I C D nx → Apart3 I C D →
      ETurn prog w A h₀ L m elt (compEnvC scope cl C env) s [(I, oI), (C, oC), (D, lst ys)] (Off3 I C D) (fun y nx' => J (i + 1) (ys ++ [y]) nx') h tk E')
    (done : ∀ ys nx, J n ys nx → Fin ys nx) : ∀ k i ys nx, i + k = n → J i ys nx → CompRest prog w A h₀ L m env elt x scope cl s S P Fin k i ys nx := by
  intro k
  induction k with
  | zero => intro i ys nx e hj; exact done ys nx (by rw [← e]; exact hj)
  | succ k ih =>
    intro i ys nx e hj v I oI C oC D m₂ h tk E' hP hC hx F N off ap
    exact (turn i v ys nx I oI C oC D m₂ h tk E' (by omega) hP hj hC hx F N off ap).use (fun y nx h => hS _ _ _ h) fun y nx h => ih (i + 1) _ nx (by omega) h
variable {Q : Value → Shared → Prop}
theorem srcU_list {ax : Addr} {vs : List Value} {k : Nat} {nx : List (Addr × Obj)} (J : Nat → List Value → List (Addr × Obj) → Prop) (hh : A.handled = none) (F : Fr h₀ L s.heap m) (N : News h₀ L s.heap nx) (hz : vs.length ≤ 1000000) (h0 : J 0 [] nx)
    (hJ : ∀ i ys nx, J i ys nx → (ax, listOf vs.toArray k) ∈ nx)
    (turn : ∀ i v ys nx I oI C oC D m₂ h tk E', vs[i]? = some v → J i ys nx → NsObj oC m₂ → m₂ x = some v → Fr h₀ L h m → News h₀ L h ((I, oI) :: (C, oC) :: (D, lst ys) :: nx) → Off3 I C D nx → Apart3 I C D →
      ETurn prog w A h₀ L m elt (compEnvC scope cl C env) s [(I, oI), (C, oC), (D, lst ys)] (Off3 I C D) (fun y nx' => J (i + 1) (ys ++ [y]) nx') h tk E')
    (done : ∀ ys nx D h tk, J vs.length ys nx → Fr h₀ L h m → News h₀ L h ((D, lst ys) :: nx) → Off1 D nx → Q (.ref D) { s with heap := h, toks := tk }) :
    CompSrc prog w A h₀ L m env elt x scope cl (fun s₂ => FinE h₀ L m s₂ Q) (.ref ax) s := by
  refine CompSrc.ledger hh F N (hJ _ _ _ h0) (by unfold sizeLine; simp; omega) fun g => ?_
  exact crest_inv (s := { s with heap := g }) (n := vs.toArray.size) (S := SrcAt h₀ ax vs.toArray) (P := fun i v => vs.toArray[i]? = some v) J (fun i ys nx h => .inr ⟨_, hJ _ _ _ h, rfl, _, rfl⟩) (fun i v ys nx I oI C oC D m₂ h tk E' _ hP => turn i v ys nx I oI C oC D m₂ h tk E' (by simpa using hP)) (fun ys nx hj D h tk F N o => done ys nx D h tk (by simpa using hj) F N o) vs.toArray.size 0 [] nx (by simp) h0
theorem srcU_range {r : Addr} {a b : Int} {t u v : Tok} {n : Nat} {nx : List (Addr × Obj)} (J : Nat → List Value → List (Addr × Obj) → Prop) (hh : A.handled = none) (F : Fr h₀ L s.heap m) (N : News h₀ L s.heap nx) (hr : IsRange s.heap r a b 1 t u v)
    (hsm : Builtin.Range.small a b 1 = true) (hn : Builtin.Range.rangeSize a b 1 = ((n : Nat) : Int)) (hz : n ≤ 1000000) (h0 : J 0 [] nx)
    (turn : ∀ (i : Nat) t ys nx I oI C oC D m₂ h tk E', i < n → J i ys nx → NsObj oC m₂ → m₂ x = some (.int (a + i) t) → Fr h₀ L h m → News h₀ L h ((I, oI) :: (C, oC) :: (D, lst ys) :: nx) → Off3 I C D nx → Apart3 I C D →
      ETurn prog w A h₀ L m elt (compEnvC scope cl C env) s [(I, oI), (C, oC), (D, lst ys)] (Off3 I C D) (fun y nx' => J (i + 1) (ys ++ [y]) nx') h tk E')
    (done : ∀ ys nx D h tk, J n ys nx → Fr h₀ L h m → News h₀ L h ((D, lst ys) :: nx) → Off1 D nx → Q (.ref D) { s with heap := h, toks := tk }) :
    CompSrc prog w A h₀ L m env elt x scope cl (fun s₂ => FinE h₀ L m s₂ Q) (.ref r) s := by
  refine CompSrc.range hh F N hr hsm hn (by unfold sizeLine; omega) fun g => ?_
  refine crest_inv (s := { s with heap := g }) J (fun i ys nx h => trivial) (fun i v ys nx I oI C oC D m₂ h tk E' hi hP hj hC hm => ?_) (fun ys nx hj D h tk F N o => done ys nx D h tk hj F N o) n 0 [] nx (by simp) h0
  obtain ⟨t, rfl⟩ := hP
  exact turn i t ys nx I oI C oC D m₂ h tk E' hi hj hC hm
end
inductive JTape (a base : List (Addr × Obj)) (i : Nat) (ys : List Value) (nx : List (Addr × Obj)) : Prop
  | mk (cs : List Int) (hn : nx = a ++ base) (hI : IntsAre ys cs) (hl : ys.length = i) : JTape a base i ys nx
theorem ints_snoc : ∀ {us : List Value} {ps : List Int} {c : Int} {t : Tok}, IntsAre us ps → IntsAre (us ++ [.int c t]) (ps ++ [c])
  | _, _, c, t, .nil => .cons c t .nil
  | _, _, _, _, .cons c' t' r => .cons c' t' (ints_snoc r)
theorem ints_at {us : List Value} {ps : List Int} {i : Nat} {v : Value} (h : IntsAre us ps) (e : us[i]? = some v) : ∃ c t, v = .int c t ∧ ps[i]? = some c := by
  obtain ⟨c, t, e1, e2⟩ := ints_get h (List.getElem?_eq_some_iff.mp e).1
  rw [e] at e1
  exact ⟨c, t, Option.some.inj e1, e2⟩
theorem off1_mem {D : Addr} {l : List (Addr × Obj)} (h : LCg.Off1 D l) : ∀ p ∈ l, p.1 ≠ D := by
  induction l with
  | nil => intro p hp; cases hp
  | cons q r ih =>
    intro p hp
    rcases List.mem_cons.mp hp with rfl | hp
    · exact h.1
    · exact ih h.2 p hp
theorem tape_end {w : World} {news : List (Addr × Obj)} {d D2 : Addr} {o6 : Obj} {ys : List Value} {cs : List Int} {n : Nat} {t : Tok} {h' h₀ : Heap} {L : Addr} (l1 : ∀ p ∈ news, p.1 < d) (o1 : @Ne Nat d D2) (o2 : LCg.Off1 D2 news) (kN : News h₀ L h' ((D2, listOf ys.toArray n) :: (d, o6) :: news))
    (hd : o6.IsDictOf (strKind PySem.Challenge.rw_nz0381_01.prog w) [(Str.ofString "cells", .ref D2), (Str.ofString "spot", .int (0 : Nat) t)]) (hI : IntsAre ys cs) (hl : ys.length ≤ 63) :
    News h₀ L h' ([(d, o6), (D2, listOf ys.toArray n)] ++ news) ∧ (∀ p ∈ [(d, o6), (D2, listOf ys.toArray n)], ∀ q ∈ news, p.1 ≠ q.1) ∧ TapePost w (.ref d) [(d, o6), (D2, listOf ys.toArray n)] := by
  refine ⟨fun p hp => kN p ?_, fun p hp q hq => ?_, ⟨d, o6, [(D2, listOf ys.toArray n)], rfl, rfl, ownOff_cons (by simp; omega) (fun _ h => nomatch h), D2, ys, n, cs, t, hd, .head _, hI, hl⟩⟩
  · rcases List.mem_append.mp hp with h | h
    · rcases List.mem_cons.mp h with rfl | h
      · exact .tail _ (.head _)
      · rw [List.mem_singleton.mp h]; exact .head _
    · exact .tail _ (.tail _ h)
  · rcases List.mem_cons.mp hp with rfl | hp
    · exact fun e => Nat.ne_of_lt (l1 q hq) e.symm
    · rw [List.mem_singleton.mp hp]
      exact fun e => off1_mem o2 q hq e.symm
theorem tape_spec (w : World) (news : List (Addr × Obj)) (sa : Addr) (vs : List Value) (ns : List Int) (hI : IntsAre vs ns) (hl : vs.length ≤ 63) :
    Makes w 2 171 [.ref sa] news (fun base => base.IsList sa vs.toArray) (TapePost w) := by
  unfold Makes
  k_fill
  intro dp un gd cn cs a ccd cl outer A₀ base h₀ L m s mean mg mb Q E B hL F X N T hk hd hu hret
  refine wpAny_call ?_
  k_dflt (walk_at "enterG")
  rename_i g1 L1 _ FG F1 N1 B1 X1 T1 G1
  clear G1
  have hL1 := stays_list B1.stays hL
  walk_at "go"
  rename_i d h2 oD l1 lo hd0 D ws h3 F3 N3 hI3 hC3 hL3 l3
  refine srcU_list (vs := ws) (JTape [(D, listOf ws.toArray 0), (d, oD)] news) rfl F3 N3 (by have := hI3.length; omega) ⟨[], rfl, .nil, rfl⟩ (by rintro _ _ _ ⟨_, rfl, _, _⟩; exact .head _) ?turn ?done
  case turn =>
    rintro i v ys nx I oI C oC D2 m2 h4 tk4 E' hv ⟨cs4, rfl, hI4, hl4⟩ hC hx F4 N4 off ap Qt hQt
    obtain ⟨c4, t4, rfl, _⟩ := ints_at hI3 hv
    simp only [List.cons_append, List.nil_append] at N4 off
    walk_at "go"
    rename Fr g1 L1 _ _ => F5
    rename News g1 L1 _ _ => N5
    exact hQt _ _ _ _ F5 N5 off ⟨cs4 ++ [c4], rfl, ints_snoc hI4, by simp [hl4]⟩
  case done =>
    rintro ys nx D2 h4 tk4 ⟨cs4, rfl, hI4, hl4⟩ F4 N4 off
    simp only [List.cons_append, List.nil_append] at N4 off
    simp only [LCg.Off1] at off
    obtain ⟨_, o1, o2⟩ := off
    replace N4 : News g1 L1 h4 ((D2, LCg.lst ys) :: (d, oD) :: news) := fun p hp => N4 p (by simp only [List.mem_cons] at hp ⊢; grind)
    walk_at "go"
    rename_i h6 o6 F6 N6 hd6 kF kN _ _
    obtain ⟨x1, x2, x3⟩ := tape_end l1 o1 o2 kN hd6 hI4 (by have := hI3.length; omega)
    exact hret _ _ _ _ kF x1 x2 x3
section
variable {prog : Program} {w : World} {A₀ A : Around} {s : Shared} {base h₀ : Heap} {outer : List Env} {L : Addr} {m : Str → Option Value} {env : Env} {news : List (Addr × Obj)}
theorem enter_cells {K : Frag} {p : Program} {loose : List Str} {mean : ExcName → Option Value} {mg mb : Str → Option Value} {R : Result → Shared → Prop} {name qual : Str} {params : Arguments} {body : List Stmt} {scope : Scope} {dV kV doc pm cdv ct oc : Value} {an od : Option Addr} {osl : Array (Option Value)} {f : Addr} {args : Args} {binds : List (Str × Value)}
    (B : Below A₀ base outer h₀) (F : Fr h₀ L s.heap m) (X₀ : K.In h₀) (N : News h₀ L s.heap news) (T : Top p loose mean mg mb h₀) (hA : A.frames = some (env :: outer)) (hf : env.frame = some L) (hke : env.scope.kind = .function)
    (ho : K.lookup f = some ⟨oc, od, .func (fnOf name qual params body scope dV kV doc pm an cdv ct), osl⟩) (hcd : codeIn K cdv qual = true) (hroom : A.depth < recursionLimit)
    (hbind : BindsTo s (fnOf name qual params body scope dV kV doc pm an cdv ct) args binds) (hkind : (binds.all fun y => scope.names.lookup y.1 == some .local || scope.names.lookup y.1 == some .cell) = true)
    (hnd : ((cellsFrom 0 scope.names []).map (·.1)).Nodup)
    (h : ∀ (tk : Nat) (m' mc : Str → Option Value), (∀ y, m' y = bindL (envOfC qual scope 0 f cdv).kindOf binds (fun _ => none) y) → (∀ y, mc y = bindC (envOfC qual scope 0 f cdv).kindOf binds (fun _ => none) y) → ∀ g L' h₁ cells, Fr h₀ L g m → Fr g L' h₁ m' → News g L' h₁ (cells ++ news) →
      CellsAre mc (cellsFrom (L' + 1) scope.names []) cells → Below A base (env :: outer) g → K.In g → Top p loose mean mg mb g → (∀ p ∈ news, p.1 < L') →
      wpAny (model prog w) (A.deeper (envOfC qual scope L' f cdv)) (execs body (envOfC qual scope L' f cdv))
        (fun fl s' => LeaveK h₀ L m g R (match fl with | .ret v => v | _ => .none) s')
        (fun e s' => wpAny (model prog w) (A.deeper (envOfC qual scope L' f cdv)) (leaving (envOfC qual scope L' f cdv) e) (fun _ s'' => R (.error e) s'') (fun e' s'' => R (.error e') s'') s')
        { s with heap := h₁, toks := tk })
    (hco : scope.isCoroutine = false) (hgen : scope.isGenerator = false) (hk : scope.kind = .function) : codeAny (model prog w) A (.call (.ref f) args) R s :=
  code_defC B F X₀ N T hA hf hke ho hcd hroom hbind hkind hnd (fun g L' h₁ tk cells a b c d e f' k l => h tk _ _ (fun _ => rfl) (fun _ => rfl) g L' h₁ cells a b c d e f' k l) hco hgen hk
end
theorem cell_eq {o : Obj} {v v' : Option Value} (h : o.data = .cell v) (e : v = v') : o.data = .cell v' := e ▸ h
theorem off_of_lt {news : List (Addr × Obj)} {d : Nat} {adr : List Addr} (h : ∀ p ∈ news, p.1 < d) (k : ∀ b ∈ adr, @LE.le Nat _ d b) : OwnOff news adr := fun p hp b hb => Nat.ne_of_lt (Nat.lt_of_lt_of_le (h p hp) (k b hb))
section
variable {M : Model} {A : Around} {E : Value → Shared → Prop} {s : Shared} {h₀ : Heap} {L a : Addr} {m : Str → Option Value} {name x : Str} {scope : Scope} {cd v : Value} {pos : Pos} {Q : Value → Shared → Prop}
theorem ldC (F : Fr h₀ L s.heap m) (hv : m x = some v) (h : Q v s) (hk : scope.kind = .function := by rfl) (hx : (envOfC name scope L a cd).kindOf x = some .local := by rfl) (hd : (x == ("__debug__" : Str)) = false := by decide) :
    wpAny M A (eval (.Name x pos) (envOfC name scope L a cd)) Q E s := wpAny_Name (wpAny_loadName_local hk hx F.ns hv h) hd
end
/-- where it stands in the context the library's own lines walk the loops -/
structure NoStop : Prop where
  mk ::
/-- where it stands in the context the walk stops at a conditional expression -/
structure IfStop : Prop where
  mk ::
/-- where it stands in the context the comprehensions run over tuples -/
structure TupComp : Prop where
  mk ::
/-- the order of two lists of ints -/
def lexI : List Int → List Int → Bool
  | [], _ => true
  | _ :: _, [] => false
  | a :: r, b :: q => decide (a < b) || (a == b && lexI r q)
theorem ints_len {us : List Value} {ps : List Int} (h : IntsAre us ps) : us.length = ps.length := h.length
section
open PySem.AutoSeq1 (wpAny_loadPart')
theorem le_loop (l b : Addr) (vs us : List Value) (xs ys : List Int) (n n2 : Nat) (hx : IntsAre vs xs) (hy : IntsAre us ys) (hl : vs.length = us.length) (k : Nat) :
    ∀ i : Nat, vs.length - i = k → Meets (Builtin.«list.__eq__.loop» ⟨[.ref l, .ref b, rawInt i, rawInt 1], []⟩)
      (fun _ R s => s.heap.get? l = some { cls := .type "list", dict := none, data := .seq vs.toArray n, slots := #[] } ∧ s.heap.get? b = some { cls := .type "list", dict := none, data := .seq us.toArray n2, slots := #[] } ∧
        R (.ok (.ret (.bool (lexI (xs.drop i) (ys.drop i))))) s) := by
  have lx := hx.length
  have ly := hy.length
  induction k with
  | zero =>
    intro i hk prog w A R s h
    obtain ⟨hp, g, d, tk, os⟩ := s; obtain ⟨hl1, hb1, h⟩ := h
    wp_walk using wpAny_loadPart' hl1, wpAny_loadPart' hb1
    have hi1 : vs.toArray[((i : Nat) : Int).toNat]? = none := by simp; omega
    have hi2 : us.toArray[((i : Nat) : Int).toNat]? = none := by simp; omega
    have hd : xs.drop i = [] := by simp; omega
    rw [hd] at h
    rw [hi1, hi2]
    wp_walk using wpAny_loadPart' hl1, wpAny_loadPart' hb1
    show R (.ok (.ret (.bool (decide (vs.toArray.size ≤ us.toArray.size))))) _
    rw [show decide (vs.toArray.size ≤ us.toArray.size) = true by simp; omega]
    exact h
  | succ k ih =>
    intro i hk prog w A R s h
    obtain ⟨hp, g, d, tk, os⟩ := s; obtain ⟨hl1, hb1, h⟩ := h
    wp_walk using wpAny_loadPart' hl1, wpAny_loadPart' hb1
    have hlt : i < vs.length := by omega
    have hlt2 : i < us.length := by omega
    obtain ⟨x, tx, e1, e2⟩ := ints_get hx hlt
    obtain ⟨y, ty, e3, e4⟩ := ints_get hy hlt2
    have hi1 : vs.toArray[((i : Nat) : Int).toNat]? = some (.int x tx) := by simpa using e1
    have hi2 : us.toArray[((i : Nat) : Int).toNat]? = some (.int y ty) := by simpa using e3
    have hdx : xs.drop i = x :: xs.drop (i + 1) := by
      obtain ⟨h1, h2⟩ := List.getElem?_eq_some_iff.mp e2
      rw [List.drop_eq_getElem_cons h1, h2]
    have hdy : ys.drop i = y :: ys.drop (i + 1) := by
      obtain ⟨h1, h2⟩ := List.getElem?_eq_some_iff.mp e4
      rw [List.drop_eq_getElem_cons h1, h2]
    have hc : ((i : Int) + 1) = ((i + 1 : Nat) : Int) := by push_cast; rfl
    rw [hdx, hdy] at h
    rw [hi1, hi2]
    refine wpAny_bind (MeetsSeq.EqGives.int x y tx ty prog w _ _ _ _ ?_)
    by_cases hb' : x = y
    · have hb2 : (x == y) = true := by simpa using hb'
      rw [hb2]
      have h3 : lexI (x :: xs.drop (i + 1)) (y :: ys.drop (i + 1)) = lexI (xs.drop (i + 1)) (ys.drop (i + 1)) := by simp [lexI, hb']
      rw [h3] at h
      wp_walk
      rw [hc]
      exact ⟨plainId_quiet MeetsSeq3.plain_eq_loop _, codeAny_builtin MeetsSeq3.entry_eq_loop (by
        rw [Around.under_plainId MeetsSeq3.plain_eq_loop _]
        exact ih (i + 1) (by omega) prog w A R _ ⟨hl1, hb1, h⟩)⟩
    · have hb2 : (x == y) = false := by simpa using hb'
      rw [hb2]
      have h3 : lexI (x :: xs.drop (i + 1)) (y :: ys.drop (i + 1)) = decide (x ≤ y) := by
        simp only [lexI, hb2, Bool.false_and, Bool.or_false]
        rw [decide_eq_decide]; omega
      rw [h3] at h
      wp_walk using wpAny_loadPart' hl1, wpAny_loadPart' hb1
      rw [hi1, hi2]
      refine wpAny_bind (PyProof.Rows.le_int ?_)
      wp_walk
      exact h
theorem list_le (l b : Addr) (vs us : List Value) (xs ys : List Int) (n n2 : Nat) (hx : IntsAre vs xs) (hy : IntsAre us ys) (hl : vs.length = us.length) :
    Meets (Builtin.«list.__le__» ⟨[.ref l, .ref b], []⟩)
      (fun _ R s => s.heap.get? l = some { cls := .type "list", dict := none, data := .seq vs.toArray n, slots := #[] } ∧ s.heap.get? b = some { cls := .type "list", dict := none, data := .seq us.toArray n2, slots := #[] } ∧
        R (.ok (.ret (.bool (lexI xs ys)))) s) := by
  intro prog w A R s h
  obtain ⟨hp, g, d, tk, os⟩ := s; obtain ⟨hl1, hb1, h⟩ := h
  have f3 := AutoSeq1.sub_list_list
  wp_walk using wpAny_loadPart' hl1, wpAny_loadPart' hb1
  exact ⟨plainId_quiet MeetsSeq3.plain_eq_loop _, codeAny_builtin MeetsSeq3.entry_eq_loop (by
    rw [Around.under_plainId MeetsSeq3.plain_eq_loop _]
    exact le_loop l b vs us xs ys n n2 hx hy hl _ 0 rfl prog w A R _ ⟨hl1, hb1, by simpa using h⟩)⟩
theorem le_lists {prog : Program} {w : World} {A : Around} {E : Value → Shared → Prop} {s : Shared} {h₀ : Heap} {L l b : Addr} {news : List (Addr × Obj)} {vs us : List Value} {xs ys : List Int} {n n2 : Nat} {Q : Value → Shared → Prop} (N : News h₀ L s.heap news)
    (hl : (l, listOf vs.toArray n) ∈ news) (hb : (b, listOf us.toArray n2) ∈ news) (hx : IntsAre vs xs) (hy : IntsAre us ys) (he : vs.length = us.length) (hu : A.units < cLine) (h : Q (.bool (lexI xs ys)) s) :
    wpAny (model prog w) A (compareOp .LtE (.ref l) (.ref b)) Q E s :=
  richCompare_meets_room (op := .LtE) ⟨_, (N _ hl).1, rfl⟩ ⟨_, (N _ hb).1, rfl⟩ F.slot_list_le F.entry_list_le (F.args_list_le_2 _ _) (list_le l b vs us xs ys n n2 hx hy he)
    ⟨(N _ hl).1, (N _ hb).1, show Value.bool (lexI xs ys) ≠ Value.notImplemented ∧ Q (.bool (lexI xs ys)) s from ⟨(fun x => nomatch x), h⟩⟩ hu
end
def b2i (b : Bool) : Int := if b then 1 else 0
/-- the table of a circuit: one mask a gate -/
structure TabV (n : Nat) (C : List Gate) (vs : List Value) : Prop where
  len : vs.length = C.length
  at' : ∀ i, i < C.length → ∃ (M : Nat) (t : Tok), vs[i]? = some (.int M t) ∧ M < 2 ^ (2 ^ n) ∧ ∀ row, row < 2 ^ n → M.testBit row = (tvs row.testBit C).getD i false
theorem shr_and_one (M row : Nat) : Builtin.bitAnd ((M : Int).fdiv (2 ^ ((row : Nat) : Int).toNat)) 1 = b2i (M.testBit row) := by
  rw [PyProof.Rows.bitAnd_m1]
  have e : (M : Int).fdiv (2 ^ ((row : Nat) : Int).toNat) = ((M / 2 ^ row : Nat) : Int) := by
    have e2 : (2 ^ ((row : Nat) : Int).toNat : Int) = ((2 ^ row : Nat) : Int) := by simp
    rw [e2, Int.fdiv_eq_ediv_of_nonneg _ (Int.natCast_nonneg _)]
    rfl
  rw [e, Nat.testBit_eq_decide_div_mod_eq]
  unfold b2i
  by_cases h : M / 2 ^ row % 2 = 1
  · rw [show decide (M / 2 ^ row % 2 = 1) = true from decide_eq_true h, if_pos rfl]; exact congrArg Int.ofNat h
  · have h0 : M / 2 ^ row % 2 = 0 := by omega
    rw [show decide (M / 2 ^ row % 2 = 1) = false from decide_eq_false h, if_neg (by decide)]
    have e3 : ((M / 2 ^ row : Nat) : Int) % 2 = ((M / 2 ^ row % 2 : Nat) : Int) := rfl
    rw [e3, h0]; rfl
theorem bit_val {M row : Nat} {g : Int} {acc : List Bool} (h : M.testBit row = acc.getD g.natAbs false) (h1 : 1 ≤ g.natAbs) :
    Builtin.bitXor (Builtin.bitAnd ((M : Int).fdiv (2 ^ ((row : Nat) : Int).toNat)) 1) (if decide (g < 0) = true then 1 else 0) = b2i (lv acc g) := by
  rw [shr_and_one, h]
  unfold lv
  by_cases h0 : 0 < g
  · rw [if_pos h0, if_neg (by simp; omega)]
    cases acc.getD g.natAbs false <;> decide
  · rw [if_neg h0, if_pos (by simp; omega)]
    cases acc.getD g.natAbs false <;> decide
theorem b2i_one {b : Bool} : b2i b = 1 ↔ b = true := by cases b <;> decide
section
open LCg LCp
variable {prog : Program} {w : World} {A : Around} {E : Value → Shared → Prop} {s : Shared} {h₀ : Heap} {L : Addr} {m : Str → Option Value} {env : Env} {ct elt : Expr} {x x₂ : Str} {scope : Scope} {cl : List (Str × Addr)}
theorem crestP_inv {n : Nat} {S : List (Addr × Obj) → Prop} {P : Nat → Value → Prop} {Fin : List Value → List (Addr × Obj) → Prop} (J : Nat → List Value → List (Addr × Obj) → Prop) (hS : ∀ i ys nx, J i ys nx → S nx)
    (turn : ∀ i v ys nx, i < n → P i v → J i ys nx → ∃ (t : Addr) (ot : Obj) (v₁ v₂ : Value) (nt : Nat), v = .ref t ∧ (t, ot) ∈ nx ∧ ot.cls = .type "tuple" ∧ ot.data = .seq #[v₁, v₂] nt ∧
      ∀ I oI C oC D m₂ h tk E', NsObj oC m₂ → m₂ x = some v₁ → m₂ x₂ = some v₂ → Fr h₀ L h m → News h₀ L h ((I, oI) :: (C, oC) :: (D, lst ys) :: nx) → Off3 I C D nx → Apart3 I C D →
      ETurn prog w A h₀ L m elt (compEnvC scope cl C env) s [(I, oI), (C, oC), (D, lst ys)] (Off3 I C D) (fun y nx' => J (i + 1) (ys ++ [y]) nx') h tk E')
    (done : ∀ ys nx, J n ys nx → Fin ys nx) : ∀ k i ys nx, i + k = n → J i ys nx → CompRestP prog w A h₀ L m env elt x x₂ scope cl s S P Fin k i ys nx := by
  intro k
  induction k with
  | zero => intro i ys nx e hj; exact done ys nx (by rw [← e]; exact hj)
  | succ k ih =>
    intro i ys nx e hj v hP
    obtain ⟨t, ot, v₁, v₂, nt, a, b, c, d, T⟩ := turn i v ys nx (by omega) hP hj
    exact ⟨t, ot, v₁, v₂, nt, a, b, c, d, fun I oI C oC D m₂ h tk E' hC hx hx₂ F N off ap => (T I oI C oC D m₂ h tk E' hC hx hx₂ F N off ap).use (fun y nx h => hS _ _ _ h) fun y nx h => ih (i + 1) _ nx (by omega) h⟩
variable {Q : Value → Shared → Prop}
theorem srcP_list {ax : Addr} {vs : List Value} {ps : List (Int × Int)} {k : Nat} {nx : List (Addr × Obj)} (J : Nat → List Value → List (Addr × Obj) → Prop) (hh : A.handled = none) (F : Fr h₀ L s.heap m) (N : News h₀ L s.heap nx) (hz : vs.length ≤ 1000000) (h0 : J 0 [] nx)
    (hJ : ∀ i ys nx, J i ys nx → (ax, listOf vs.toArray k) ∈ nx) (hP : ∀ i ys nx, J i ys nx → PairsAre nx vs ps)
    (turn : ∀ i (a b : Int) ta tb ys nx I oI C oC D m₂ h tk E', ps[i]? = some (a, b) → J i ys nx → NsObj oC m₂ → m₂ x = some (.int a ta) → m₂ x₂ = some (.int b tb) → Fr h₀ L h m → News h₀ L h ((I, oI) :: (C, oC) :: (D, lst ys) :: nx) → Off3 I C D nx → Apart3 I C D →
      ETurn prog w A h₀ L m elt (compEnvC scope cl C env) s [(I, oI), (C, oC), (D, lst ys)] (Off3 I C D) (fun y nx' => J (i + 1) (ys ++ [y]) nx') h tk E')
    (done : ∀ ys nx D h tk, J vs.length ys nx → Fr h₀ L h m → News h₀ L h ((D, lst ys) :: nx) → Off1 D nx → Q (.ref D) { s with heap := h, toks := tk }) :
    SrcLP prog w A h₀ L m env elt x x₂ scope cl (fun s₂ => FinE h₀ L m s₂ Q) (.ref ax) s := by
  refine SrcLP.ledger hh F N (hJ _ _ _ h0) (by unfold sizeLine; simp; omega) fun g => ?_
  refine crestP_inv (s := { s with heap := g }) (n := vs.toArray.size) (S := SrcAt h₀ ax vs.toArray) (P := fun i v => vs.toArray[i]? = some v) J (fun i ys nx h => .inr ⟨_, hJ _ _ _ h, rfl, _, rfl⟩) (fun i v ys nx hi hv hj => ?_) (fun ys nx hj D h tk F N o => done ys nx D h tk (by simpa using hj) F N o) vs.toArray.size 0 [] nx (by simp) h0
  obtain ⟨p, hp, t, n, a, b, ta, tb, hm⟩ := (hP _ _ _ hj).2 i v (by simpa using hv)
  exact ⟨t, _, .int a ta, .int b tb, n, rfl, hm, rfl, rfl, fun I oI C oC D m₂ h tk E' => turn i a b ta tb ys nx I oI C oC D m₂ h tk E' hp hj⟩
variable {Qf : Flow → Shared → Prop} {y : Str}
theorem srcP_listA {ax : Addr} {vs : List Value} {ps : List (Int × Int)} {k : Nat} {nx : List (Addr × Obj)} (J : Nat → List Value → List (Addr × Obj) → Prop) (hh : A.handled = none) (F : Fr h₀ L s.heap m) (N : News h₀ L s.heap nx) (hz : vs.length ≤ 1000000) (h0 : J 0 [] nx)
    (hJ : ∀ i ys nx, J i ys nx → (ax, listOf vs.toArray k) ∈ nx) (hP : ∀ i ys nx, J i ys nx → PairsAre nx vs ps)
    (turn : ∀ i (a b : Int) ta tb ys nx I oI C oC D m₂ h tk E', ps[i]? = some (a, b) → J i ys nx → NsObj oC m₂ → m₂ x = some (.int a ta) → m₂ x₂ = some (.int b tb) → Fr h₀ L h m → News h₀ L h ((I, oI) :: (C, oC) :: (D, lst ys) :: nx) → Off3 I C D nx → Apart3 I C D →
      ETurn prog w A h₀ L m elt (compEnvC scope cl C env) s [(I, oI), (C, oC), (D, lst ys)] (Off3 I C D) (fun y nx' => J (i + 1) (ys ++ [y]) nx') h tk E')
    (done : ∀ ys nx D h tk, J vs.length ys nx → Fr h₀ L h (fun z => if z = y then some (.ref D) else m z) → News h₀ L h ((D, lst ys) :: nx) → Off1 D nx → Qf .next { s with heap := h, toks := tk }) :
    SrcLP prog w A h₀ L m env elt x x₂ scope cl (fun s₂ => FinA h₀ L m s₂ y Qf) (.ref ax) s := by
  refine SrcLP.ledger hh F N (hJ _ _ _ h0) (by unfold sizeLine; simp; omega) fun g => ?_
  refine crestP_inv (s := { s with heap := g }) (n := vs.toArray.size) (S := SrcAt h₀ ax vs.toArray) (P := fun i v => vs.toArray[i]? = some v) J (fun i ys nx h => .inr ⟨_, hJ _ _ _ h, rfl, _, rfl⟩) (fun i v ys nx hi hv hj => ?_) (fun ys nx hj D h tk F N o => done ys nx D h tk (by simpa using hj) F N o) vs.toArray.size 0 [] nx (by simp) h0
  obtain ⟨p, hp, t, n, a, b, ta, tb, hm⟩ := (hP _ _ _ hj).2 i v (by simpa using hv)
  exact ⟨t, _, .int a ta, .int b tb, n, rfl, hm, rfl, rfl, fun I oI C oC D m₂ h tk E' => turn i a b ta tb ys nx I oI C oC D m₂ h tk E' hp hj⟩
theorem srcU_listA {ax : Addr} {vs : List Value} {k : Nat} {nx : List (Addr × Obj)} (J : Nat → List Value → List (Addr × Obj) → Prop) (hh : A.handled = none) (F : Fr h₀ L s.heap m) (N : News h₀ L s.heap nx) (hz : vs.length ≤ 1000000) (h0 : J 0 [] nx)
    (hJ : ∀ i ys nx, J i ys nx → (ax, listOf vs.toArray k) ∈ nx)
    (turn : ∀ i v ys nx I oI C oC D m₂ h tk E', vs[i]? = some v → J i ys nx → NsObj oC m₂ → m₂ x = some v → Fr h₀ L h m → News h₀ L h ((I, oI) :: (C, oC) :: (D, lst ys) :: nx) → Off3 I C D nx → Apart3 I C D →
      ETurn prog w A h₀ L m elt (compEnvC scope cl C env) s [(I, oI), (C, oC), (D, lst ys)] (Off3 I C D) (fun y nx' => J (i + 1) (ys ++ [y]) nx') h tk E')
    (done : ∀ ys nx D h tk, J vs.length ys nx → Fr h₀ L h (fun z => if z = y then some (.ref D) else m z) → News h₀ L h ((D, lst ys) :: nx) → Off1 D nx → Qf .next { s with heap := h, toks := tk }) :
    CompSrc prog w A h₀ L m env elt x scope cl (fun s₂ => FinA h₀ L m s₂ y Qf) (.ref ax) s := by
  refine CompSrc.ledger hh F N (hJ _ _ _ h0) (by unfold sizeLine; simp; omega) fun g => ?_
  exact crest_inv (s := { s with heap := g }) (n := vs.toArray.size) (S := SrcAt h₀ ax vs.toArray) (P := fun i v => vs.toArray[i]? = some v) J (fun i ys nx h => .inr ⟨_, hJ _ _ _ h, rfl, _, rfl⟩) (fun i v ys nx I oI C oC D m₂ h tk E' _ hP => turn i v ys nx I oI C oC D m₂ h tk E' (by simpa using hP)) (fun ys nx hj D h tk F N o => done ys nx D h tk (by simpa using hj) F N o) vs.toArray.size 0 [] nx (by simp) h0
end
/-- the mask of f over the first rows -/
def maskI (f : Nat → Bool) : Nat → Int
  | 0 => 0
  | r + 1 => maskI f r + (if f r then 2 ^ r else 0)
/-- bits of a list of literals at a row -/
def bitsAt (C : List Gate) (row : Nat) (ls : List Int) : List Int := ls.map fun x => b2i (lv (tvs row.testBit C) x)
theorem bitsAt_take {C : List Gate} {row : Nat} {ls : List Int} {i : Nat} {x : Int} (h : ls[i]? = some x) : bitsAt C row (ls.take (i + 1)) = bitsAt C row (ls.take i) ++ [b2i (lv (tvs row.testBit C) x)] := by
  obtain ⟨hi, rfl⟩ := List.getElem?_eq_some_iff.mp h
  unfold bitsAt
  rw [List.take_succ_eq_append_getElem hi, List.map_append]
  rfl
/-- one row of due -/
def dueAt (C : List Gate) (ps : List (Int × Int)) (row : Nat) : Bool := lexI (bitsAt C row (ps.map (·.1))) (bitsAt C row (ps.map (·.2)))
inductive JBits (C : List Gate) (row : Nat) (ls : List Int) (base : List (Addr × Obj)) (i : Nat) (ys : List Value) (nx : List (Addr × Obj)) : Prop
  | mk (hn : nx = base) (hI : IntsAre ys (bitsAt C row (ls.take i))) : JBits C row ls base i ys nx
theorem bit_spec (w : World) (news : List (Addr × Obj)) (ta : Addr) (vs : List Value) (m n row : Nat) (C : List Gate) (g : Int) (tg tr : Tok) (hn : n ≤ 3) (hT : TabV n C vs) (hm : (ta, listOf vs.toArray m) ∈ news) (hg : LitIn C.length g) (hz : C.length ≤ 100000) (hr : row < 2 ^ n) :
    Reads w 1 204 [.ref ta, .int g tg, .int row tr] news (fun r => ∃ t, r = .int (b2i (lv (tvs row.testBit C) g)) t) := by
  obtain ⟨M, tM, hM, hM2, hM3⟩ := hT.at' g.natAbs hg.2
  have hv' : vs[(if g < 0 then -g else g).toNat]? = some (.int M tM) := by rw [abs_toNat]; exact hM
  have h0 : 0 ≤ (if g < 0 then -g else g) := by split <;> omega
  have h1 : (if g < 0 then -g else g) < 2 ^ 63 := by
    have := hg.2
    split <;> omega
  have hrow : row < 8 := Nat.lt_of_lt_of_le hr (Nat.pow_le_pow_right (by decide) hn)
  unfold Reads
  k_fill
  intro dp un gd cn cs a ccd cl outer A₀ base h₀ L mm s mean mg mb Q E B F X N T hk hd hu hret
  refine wpAny_call ?_
  k_dflt (walk_at "enterG")
  walk_at "go"
  rename_i kF kN _ _
  rw [bit_val (hM3 row hr) hg.1]
  exact hret _ _ _ kF kN ⟨_, rfl⟩
theorem it_off {I c : Addr} {o o' : Obj} {r : List (Addr × Obj)} (h : ∀ p ∈ (c, o) :: r, p.1 ≠ I) : ∀ p ∈ (c, o') :: r, p.1 ≠ I := fun p hp => by
  rcases List.mem_cons.mp hp with rfl | hp
  · exact h (c, o) (.head _)
  · exact h p (.tail _ hp)
theorem int_eq {a b : Int} {t : Tok} (h : a = b) : some (Value.int a t) = some (Value.int b t) := by rw [h]
inductive JDue (C : List Gate) (ps : List (Int × Int)) (ta sa : Addr) (L1 : Nat) (o1 : Obj) (base : List (Addr × Obj)) (i : Nat) (mm : Str → Option Value) (nx : List (Addr × Obj)) : Prop
  | mk (t : Tok) (o2 : Obj) (v : Option Value) (hn : nx = (L1 + 1 + 1, o2) :: (L1 + 1, o1) :: base) (hd : o2.data = .cell v) (h1 : mm (Str.ofString "found") = some (.int (maskI (dueAt C ps) i) t)) (h3 : mm (Str.ofString "some") = some (.ref sa)) : JDue C ps ta sa L1 o1 base i mm nx
theorem due_spec (w : World) (news : List (Addr × Obj)) (ta sa : Addr) (tv vs : List Value) (mt ms n : Nat) (ps : List (Int × Int)) (C : List Gate) (tr : Tok) (hn : n ≤ 3)
    (hT : TabV n C tv) (hta : (ta, listOf tv.toArray mt) ∈ news) (hsa : (sa, listOf vs.toArray ms) ∈ news) (hps : PairsAre news vs ps) (hl : ∀ p ∈ ps, LitIn C.length p.1 ∧ LitIn C.length p.2) (hz : C.length ≤ 100000) (hz2 : vs.length ≤ 1000) :
    Reads w 2 209 [.ref ta, .int ((2 ^ n : Nat) : Int) tr, .ref sa] news (fun r => ∃ t, r = .int (maskI (dueAt C ps) (2 ^ n)) t) := by
  have hrows : 2 ^ n ≤ 8 := Nat.pow_le_pow_right (n := 2) (by decide) hn
  obtain ⟨hsm, hsz⟩ := range_size (n := 2 ^ n) (by omega)
  unfold Reads
  k_fill
  intro dp un gd cn cs a ccd cl outer A₀ base h₀ L m s mean mg mb Q E B F X N T hk hd hu hret
  refine wpAny_call ?_
  k_dflt (walk_at "enterC")
  rename_i mm0 mc o2 o1 d2 d1
  replace d1 := cell_eq d1 (v' := some (.ref ta)) ((hMC _).trans (by with_unfolding_all rfl))
  replace d2 := cell_eq d2 (v' := none) ((hMC _).trans (by with_unfolding_all rfl))
  have r1 : mm0 (Str.ofString "rows") = some (.int ((2 ^ n : Nat) : Int) tr) := (hM _).trans (by with_unfolding_all rfl)
  have r2 : mm0 (Str.ofString "some") = some (.ref sa) := (hM _).trans (by with_unfolding_all rfl)
  clear hM hMC
  have hofc : OwnOff news [L' + 1 + 1, L' + 1] := off_of_lt l1 (by simp; omega)
  walk_at "go"
  unfold Stop
  k_fold
  rename_i F2 N2
  refine for_range (fun i => JDue C ps ta sa L' o1 news i) rfl F2 hsm hsz ?heval ?turn ?done
  case heval =>
    walk_at "go"
    unfold Stop
    exact range_1 F2 N2 fun r t₀ u₀ v₀ h' tk hr F4 N4 => ⟨r, t₀, u₀, v₀, h', tk, _, _, rfl, rfl, hr, F4, N4, ⟨_, _, _, rfl, d2, rfl, r2⟩⟩
  case turn =>
    rintro i t mm _ I oI h3 tk3 hi ⟨tf, o2, v2, rfl, hd2, hm1, hm3⟩ hoI hoff F3 N3 Qt hQt
    simp only [Int.zero_add]
    have hI1 : @Ne Nat (L' + 1 + 1) I := hoff _ (.head _)
    have hI2 : @Ne Nat (L' + 1) I := hoff _ (.tail _ (.head _))
    clear d2 r1 r2 F2 N2
    walk_at "go"
    rename_i h4 o5 F4 N4 d5
    have hlen := hps.1
    refine srcP_listA (vs := vs) (ps := ps) (JBits C i (ps.map (·.1)) ((I, oI) :: (L' + 1 + 1, o5) :: (L' + 1, o1) :: news)) rfl F4 N4 (by omega) ⟨rfl, by simpa [bitsAt] using IntsAre.nil⟩ (by rintro _ _ _ ⟨rfl, _⟩; exact .tail _ (.tail _ (.tail _ hsa))) (by rintro _ _ _ ⟨rfl, _⟩; exact hps.mono fun q hq => .tail _ (.tail _ (.tail _ hq))) ?t1 ?d1
    case t1 =>
      rintro j x y tx ty ys nx I2 oI2 C2 oC2 D2 m2 h5 tk5 E5 hj ⟨rfl, hI⟩ hC hx hx2 F5 N5 off ap Qt2 hQt2
      have hp := hl _ (List.mem_of_getElem? hj)
      walk_at "go"
      unfold Stop
      refine' reads_use (bit_spec w _ ta tv mt n i C x _ _ hn hT ?hm hp.1 hz hi) ?k1 ?k2 ?k3 ?k4 ?k5 ?kK ?kd ?ku ?_
      walk_at "use premises"
      case hm => exact .tail _ (.tail _ (.tail _ (.tail _ (.tail _ (.tail _ hta)))))
      rintro r h6 tk6 F6 N6 ⟨t6, rfl⟩
      refine hQt2 _ _ _ _ F6 N6 off ⟨rfl, ?_⟩
      rw [bitsAt_take (x := x) (by rw [List.getElem?_map, hj]; rfl)]
      exact ints_snoc hI
    case d1 =>
      rintro ys nx D2 h5 tk5 ⟨rfl, hI⟩ F5 N5 off
      rw [List.take_of_length_le (by simp [hps.1])] at hI
      simp only [LCg.Off1] at off
      obtain ⟨q1, q2, q3, q4⟩ := off
      walk_at "go"
      refine srcP_list (vs := vs) (ps := ps) (JBits C i (ps.map (·.2)) ((D2, LCg.lst ys) :: (I, oI) :: (L' + 1 + 1, o5) :: (L' + 1, o1) :: news)) rfl F5 N5 (by omega) ⟨rfl, by simpa [bitsAt] using IntsAre.nil⟩ (by rintro _ _ _ ⟨rfl, _⟩; exact .tail _ (.tail _ (.tail _ (.tail _ hsa)))) (by rintro _ _ _ ⟨rfl, _⟩; exact hps.mono fun q hq => .tail _ (.tail _ (.tail _ (.tail _ hq)))) ?t2 ?d2
      case t2 =>
        rintro j x y tx ty ys2 nx I2 oI2 C2 oC2 D3 m2 h6 tk6 E6 hj ⟨rfl, hI2⟩ hC hx hx2 F6 N6 off ap Qt2 hQt2
        have hp := hl _ (List.mem_of_getElem? hj)
        walk_at "go"
        unfold Stop
        refine' reads_use (bit_spec w _ ta tv mt n i C y _ _ hn hT ?hm hp.2 hz hi) ?k1 ?k2 ?k3 ?k4 ?k5 ?kK ?kd ?ku ?_
        walk_at "use premises"
        case hm => exact .tail _ (.tail _ (.tail _ (.tail _ (.tail _ (.tail _ (.tail _ hta))))))
        rintro r h7 tk7 F7 N7 ⟨t7, rfl⟩
        refine hQt2 _ _ _ _ F7 N7 off ⟨rfl, ?_⟩
        rw [bitsAt_take (x := y) (by rw [List.getElem?_map, hj]; rfl)]
        exact ints_snoc hI2
      case d2 =>
        rintro ys2 nx D3 h6 tk6 ⟨rfl, hI2⟩ F6 N6 off
        rw [List.take_of_length_le (by simp [hps.1])] at hI2
        clear F5 N5 N4 F4
        walk_at "go"
        unfold Stop
        refine le_lists N6 (.tail _ (.head _)) (.head _) hI hI2 (by rw [hI.length, hI2.length]; simp [bitsAt]) (by ktr_units) ?_
        have hdue : lexI (bitsAt C i (ps.map (·.1))) (bitsAt C i (ps.map (·.2))) = dueAt C ps i := rfl
        rw [hdue]
        walk_at "go"
        · rename_i hdf h7 F7 N7
          replace N7 : News g' L' h7 ((I, oI) :: (L' + 1 + 1, o5) :: (L' + 1, o1) :: news) := fun p hp => N7 p (.tail _ (.tail _ hp))
          refine hQt _ _ (TPost.next (TEnd.intro (its := [(I, oI)]) F7 N7 (fun p hp q hq => ?_) ⟨_, o5, _, rfl, d5, int_eq ?_, hm3⟩))
          · rw [List.mem_singleton.mp hq]
            exact it_off hoff p hp
          · simp [maskI, hdf]
        · rename_i hdf
          have N7 : News g' L' h6 ((I, oI) :: (L' + 1 + 1, o5) :: (L' + 1, o1) :: news) := fun p hp => N6 p (.tail _ (.tail _ hp))
          refine hQt _ _ (TPost.next (TEnd.intro (its := [(I, oI)]) F6 N7 (fun p hp q hq => ?_) ⟨tf, o5, _, rfl, d5, ?_, hm3⟩))
          · rw [List.mem_singleton.mp hq]
            exact it_off hoff p hp
          · show mm (Str.ofString "found") = _
            rw [hm1]
            simp [maskI, hdf]
  case done =>
    rintro mm _ h3 tk3 ⟨tf, o2, v2, rfl, hd2, hm1, hm3⟩ F3 N3
    walk_at "go"
    rename_i kF kN _ _
    exact hret _ _ _ kF (fun p hp => kN p (.tail _ (.tail _ hp))) ⟨_, rfl⟩
section
variable {prog : Program} {w : World} {A : Around} {E : Value → Shared → Prop} {s : Shared}
theorem pow_two {k : Nat} {t u : Tok} {Q : Value → Shared → Prop} (hk : k ≤ 1000) (h : Q (.int ((2 ^ k : Nat) : Int) s.toks) { s with toks := s.toks + 1 }) : wpAny (model prog w) A (binaryOp .Pow (.int 2 t) (.int (k : Int) u)) Q E s :=
  pow_int_small (by omega) (by omega) (by decide) (by simpa using h)
end
theorem newList_U {prog : Program} {w : World} {A : Around} {E : Value → Shared → Prop} {s : Shared} {h₀ : Heap} {L : Addr} {m : Str → Option Value} {news : List (Addr × Obj)} {vs : List Value} {Q : Value → Shared → Prop} (F : Fr h₀ L s.heap m) (N : News h₀ L s.heap news) (hz : vs.length ≤ 1000)
    (h : ∀ D h', Fr h₀ L h' m → News h₀ L h' ((D, listOf vs.toArray 0) :: news) → (∀ p ∈ news, p.1 < D) → Q (.ref D) { s with heap := h' }) : wpAny (model prog w) A (newList vs) Q E s :=
  newList_K F N h (Nat.le_trans hz (by unfold sizeLine; omega))
theorem valueAt_stored (kvs : List (Int × Value)) (k j : Int) (v : Value) : valueAt (stored kvs k v) j = if j = k then some v else valueAt kvs j := by
  unfold valueAt stored
  by_cases ha : (kvs.any fun kv => kv.1 = k) = true
  · rw [if_pos ha]
    induction kvs with
    | nil => simp at ha
    | cons p r ih =>
      by_cases hp : p.1 = k
      · by_cases hj : j = k
        · simp [hp, hj]
        · have : p.1 ≠ j := fun e => hj (e ▸ hp)
          simp only [List.map_cons, hp, if_true, List.find?_cons, hj, if_false]
          have e1 : decide (k = j) = false := by simpa using fun e => hj e.symm
          simp only [e1]
          by_cases hr : (r.any fun kv => kv.1 = k) = true
          · have := ih hr
            rw [if_neg hj] at this
            exact this
          · have hn : r.map (fun kv => if kv.1 = k then (kv.1, v) else kv) = r := by
              refine (List.map_congr_left fun x hx => ?_).trans (List.map_id r)
              have : ¬ x.1 = k := fun e => hr (List.any_eq_true.mpr ⟨x, hx, by simpa using e⟩)
              rw [if_neg this]; rfl
            rw [hn]
      · have hr : (r.any fun kv => kv.1 = k) = true := by simpa [hp] using ha
        have := ih hr
        by_cases hj : j = k
        · rw [if_pos hj] at this ⊢
          have hpj : ¬ p.1 = j := fun e => hp (e.trans hj)
          simp only [List.map_cons, if_neg hp, List.find?_cons]
          rw [show decide (p.1 = j) = false from decide_eq_false hpj]
          exact this
        · rw [if_neg hj] at this ⊢
          simp only [List.map_cons, if_neg hp, List.find?_cons]
          by_cases hpj : p.1 = j
          · rw [show decide (p.1 = j) = true from decide_eq_true hpj]
          · rw [show decide (p.1 = j) = false from decide_eq_false hpj]
            exact this
  · rw [if_neg ha]
    rw [List.find?_append]
    by_cases hj : j = k
    · rw [if_pos hj]
      have : (kvs.find? fun kv => kv.1 = j) = none := by
        rw [List.find?_eq_none]
        intro x hx e
        exact ha (List.any_eq_true.mpr ⟨x, hx, by simpa [hj] using e⟩)
      rw [this, hj]
      simp
    · rw [if_neg hj]
      have : ([(k, v)].find? fun kv : Int × Value => kv.1 = j) = none := by simp; exact fun e => hj e.symm
      rw [this, Option.or_none]
section
open LCg LCt
variable {prog : Program} {w : World} {A : Around} {E : Value → Shared → Prop} {s : Shared} {h₀ : Heap} {L : Addr} {m : Str → Option Value} {env : Env} {ct elt : Expr} {x : Str} {scope : Scope} {cl : List (Str × Addr)}
/-- one turn of a comprehension with a test -/
def TTurn (prog : Program) (w : World) (A : Around) (h₀ : Heap) (L : Addr) (m : Str → Option Value) (ct e : Expr) (cenv : Env) (s : Shared) (its : List (Addr × Obj)) (ok : List (Addr × Obj) → Prop) (J0 : List (Addr × Obj) → Prop) (J : Value → List (Addr × Obj) → Prop) (h : Heap) (tk : Nat) (E' : Value → Shared → Prop) : Prop :=
  ∀ (Qn : Value → Shared → Prop) (Qt : Value → Shared → Prop), (∀ y h' tk' nx', Fr h₀ L h' m → News h₀ L h' (its ++ nx') → ok nx' → J y nx' → Qt y { s with heap := h', toks := tk' }) → (∀ h' tk' nx', Fr h₀ L h' m → News h₀ L h' (its ++ nx') → ok nx' → J0 nx' → Qn .none { s with heap := h', toks := tk' }) →
    wpAny (model prog w) A (isTrue ct cenv (eval ct cenv)) (fun b s' => if b = true then wpAny (model prog w) A (eval e cenv) Qt E' s' else Qn .none s') E' { s with heap := h, toks := tk }
theorem crestT_inv {n : Nat} {S : List (Addr × Obj) → Prop} {P : Nat → Value → Prop} {Fin : List Value → List (Addr × Obj) → Prop} (J : Nat → List Value → List (Addr × Obj) → Prop) (hS : ∀ i ys nx, J i ys nx → S nx)
    (turn : ∀ i v ys nx I oI C oC D m₂ h tk E', i < n → P i v → J i ys nx → NsObj oC m₂ → m₂ x = some v → Fr h₀ L h m → News h₀ L h ((I, oI) :: (C, oC) :: (D, lst ys) :: nx) → Off3 I C D nx → Apart3 I C D →
      TTurn prog w A h₀ L m ct elt (compEnvC scope cl C env) s [(I, oI), (C, oC), (D, lst ys)] (Off3 I C D) (fun nx' => J (i + 1) ys nx') (fun y nx' => J (i + 1) (ys ++ [y]) nx') h tk E')
    (done : ∀ ys nx, J n ys nx → Fin ys nx) : ∀ k i ys nx, i + k = n → J i ys nx → CompRestT prog w A h₀ L m env ct elt x scope cl s S P Fin k i ys nx := by
  intro k
  induction k with
  | zero => intro i ys nx e hj; exact done ys nx (by rw [← e]; exact hj)
  | succ k ih =>
    intro i ys nx e hj v I oI C oC D m₂ h tk E' hP hC hx F N off ap
    exact turn i v ys nx I oI C oC D m₂ h tk E' (by omega) hP hj hC hx F N off ap (CompEnd h₀ L m { s with heap := h, toks := tk } I oI C oC D (lst ys) S (fun _ news' => CompRestT prog w A h₀ L m env ct elt x scope cl s S P Fin k (i + 1) ys news')) _
      (fun y h' tk' nx' F N off hj => ⟨h', tk', nx', rfl, F, N, off, hS _ _ nx' hj, ih (i + 1) _ nx' (by omega) hj⟩)
      (fun h' tk' nx' F N off hj => ⟨h', tk', nx', rfl, F, N, off, hS _ _ nx' hj, ih (i + 1) _ nx' (by omega) hj⟩)
variable {Q : Value → Shared → Prop} {Qf : Flow → Shared → Prop} {y : Str}
theorem srcT_list {ax : Addr} {vs : List Value} {k : Nat} {nx : List (Addr × Obj)} (J : Nat → List Value → List (Addr × Obj) → Prop) (hh : A.handled = none) (F : Fr h₀ L s.heap m) (N : News h₀ L s.heap nx) (hz : vs.length ≤ 1000000) (h0 : J 0 [] nx)
    (hJ : ∀ i ys nx, J i ys nx → (ax, listOf vs.toArray k) ∈ nx)
    (turn : ∀ i v ys nx I oI C oC D m₂ h tk E', vs[i]? = some v → J i ys nx → NsObj oC m₂ → m₂ x = some v → Fr h₀ L h m → News h₀ L h ((I, oI) :: (C, oC) :: (D, lst ys) :: nx) → Off3 I C D nx → Apart3 I C D →
      TTurn prog w A h₀ L m ct elt (compEnvC scope cl C env) s [(I, oI), (C, oC), (D, lst ys)] (Off3 I C D) (fun nx' => J (i + 1) ys nx') (fun y nx' => J (i + 1) (ys ++ [y]) nx') h tk E')
    (done : ∀ ys nx D h tk, J vs.length ys nx → Fr h₀ L h (fun z => if z = y then some (.ref D) else m z) → News h₀ L h ((D, lst ys) :: nx) → Off1 D nx → Qf .next { s with heap := h, toks := tk }) :
    CompSrcT prog w A h₀ L m env ct elt x scope cl (fun s₂ => FinA h₀ L m s₂ y Qf) (.ref ax) s := by
  refine CompSrcT.ledger hh F N (hJ _ _ _ h0) (by unfold sizeLine; simp; omega) fun g => ?_
  exact crestT_inv (s := { s with heap := g }) (n := vs.toArray.size) (S := SrcAt h₀ ax vs.toArray) (P := fun i v => vs.toArray[i]? = some v) J (fun i ys nx h => .inr ⟨_, hJ _ _ _ h, rfl, _, rfl⟩) (fun i v ys nx I oI C oC D m₂ h tk E' _ hP => turn i v ys nx I oI C oC D m₂ h tk E' (by simpa using hP)) (fun ys nx hj D h tk F N o => done ys nx D h tk (by simpa using hj) F N o) vs.toArray.size 0 [] nx (by simp) h0
theorem srcT_range {r : Addr} {a b : Int} {t u v : Tok} {n : Nat} {nx : List (Addr × Obj)} (J : Nat → List Value → List (Addr × Obj) → Prop) (hh : A.handled = none) (F : Fr h₀ L s.heap m) (N : News h₀ L s.heap nx) (hr : IsRange s.heap r a b 1 t u v)
    (hsm : Builtin.Range.small a b 1 = true) (hn : Builtin.Range.rangeSize a b 1 = ((n : Nat) : Int)) (hz : n ≤ 1000000) (h0 : J 0 [] nx)
    (turn : ∀ (i : Nat) t ys nx I oI C oC D m₂ h tk E', i < n → J i ys nx → NsObj oC m₂ → m₂ x = some (.int (a + i) t) → Fr h₀ L h m → News h₀ L h ((I, oI) :: (C, oC) :: (D, lst ys) :: nx) → Off3 I C D nx → Apart3 I C D →
      TTurn prog w A h₀ L m ct elt (compEnvC scope cl C env) s [(I, oI), (C, oC), (D, lst ys)] (Off3 I C D) (fun nx' => J (i + 1) ys nx') (fun y nx' => J (i + 1) (ys ++ [y]) nx') h tk E')
    (done : ∀ ys nx D h tk, J n ys nx → Fr h₀ L h m → News h₀ L h ((D, lst ys) :: nx) → Off1 D nx → Q (.ref D) { s with heap := h, toks := tk }) :
    CompSrcT prog w A h₀ L m env ct elt x scope cl (fun s₂ => FinE h₀ L m s₂ Q) (.ref r) s := by
  refine CompSrcT.range hh F N hr hsm hn (by unfold sizeLine; omega) fun g => ?_
  refine crestT_inv (s := { s with heap := g }) J (fun i ys nx h => trivial) (fun i v ys nx I oI C oC D m₂ h tk E' hi hP hj hC hm => ?_) (fun ys nx hj D h tk F N o => done ys nx D h tk hj F N o) n 0 [] nx (by simp) h0
  obtain ⟨t, rfl⟩ := hP
  exact turn i t ys nx I oI C oC D m₂ h tk E' hi hj hC hm
end
/-- M is the mask of f -/
def MaskOf (n : Nat) (f : Nat → Bool) (M : Nat) : Prop := M < 2 ^ (2 ^ n) ∧ ∀ row, row < 2 ^ n → M.testBit row = f row
theorem maskI_nat (f : Nat → Bool) : ∀ r, ∃ M : Nat, maskI f r = (M : Int) ∧ M < 2 ^ r ∧ ∀ i, i < r → M.testBit i = f i
  | 0 => ⟨0, rfl, by simp, fun i h => absurd h (Nat.not_lt_zero _)⟩
  | r + 1 => by
    obtain ⟨M, e, h1, h2⟩ := maskI_nat f r
    have h3 : 2 ^ (r + 1) = 2 ^ r + 2 ^ r := by rw [Nat.pow_succ]; omega
    cases hf : f r with
    | false =>
      refine ⟨M, by simp [maskI, hf, e], by omega, fun i hi => ?_⟩
      by_cases h : i < r
      · exact h2 i h
      · have : i = r := by omega
        rw [this, hf, Nat.testBit_lt_two_pow h1]
    | true =>
      refine ⟨2 ^ r + M, by simp [maskI, hf, e, Int.add_comm], by omega, fun i hi => ?_⟩
      by_cases h : i < r
      · rw [Nat.testBit_two_pow_add_gt h]; exact h2 i h
      · have : i = r := by omega
        rw [this, hf, Nat.testBit_two_pow_add_eq, Nat.testBit_lt_two_pow h1]; rfl
theorem MaskOf.ofI {n : Nat} {f : Nat → Bool} : ∃ M : Nat, maskI f (2 ^ n) = (M : Int) ∧ MaskOf n f M := by
  obtain ⟨M, a, b, c⟩ := maskI_nat f (2 ^ n)
  exact ⟨M, a, b, c⟩
theorem bitAnd_nat (M N : Nat) : Builtin.bitAnd (M : Int) (N : Int) = ((M &&& N : Nat) : Int) := by
  unfold Builtin.bitAnd
  rw [show decide (0 ≤ (M : Int)) = true by simp, show decide (0 ≤ (N : Int)) = true by simp]
  simp
theorem MaskOf.and {n : Nat} {f g : Nat → Bool} {M N : Nat} (x : MaskOf n f M) (y : MaskOf n g N) : MaskOf n (fun r => f r && g r) (M &&& N) :=
  ⟨Nat.lt_of_le_of_lt Nat.and_le_left x.1, fun r hr => by rw [Nat.testBit_and, x.2 r hr, y.2 r hr]⟩
theorem MaskOf.full (n : Nat) : MaskOf n (fun _ => true) (2 ^ (2 ^ n) - 1) :=
  ⟨by have := Nat.two_pow_pos (2 ^ n); omega, fun r hr => by rw [Nat.testBit_two_pow_sub_one]; simpa using hr⟩
theorem MaskOf.compl {n : Nat} {f : Nat → Bool} {M : Nat} (x : MaskOf n f M) : MaskOf n (fun r => !f r) (2 ^ (2 ^ n) - 1 - M) := by
  refine ⟨by have := Nat.two_pow_pos (2 ^ n); omega, fun r hr => ?_⟩
  rw [Nat.sub_sub, Nat.add_comm, Nat.testBit_two_pow_sub_succ x.1, x.2 r hr]
  simp [hr]
theorem MaskOf.congr {n : Nat} {f g : Nat → Bool} {M : Nat} (x : MaskOf n f M) (h : ∀ r, r < 2 ^ n → f r = g r) : MaskOf n g M := ⟨x.1, fun r hr => (x.2 r hr).trans (h r hr)⟩
theorem maskI_congr {f g : Nat → Bool} : ∀ {r : Nat}, (∀ i, i < r → f i = g i) → maskI f r = maskI g r
  | 0, _ => rfl
  | r + 1, h => by
    unfold maskI
    rw [maskI_congr (r := r) fun i hi => h i (Nat.lt_succ_of_lt hi), h r (Nat.lt_succ_self _)]
section
variable {prog : Program} {w : World} {A : Around} {E : Value → Shared → Prop} {s : Shared} {env : Env} {h₀ : Heap} {target : Expr} {body : List Stmt} {Q : Flow → Shared → Prop}
theorem for_enum {ax : Addr} {lo : Obj} {vs : List Value} {n : Nat} {elts : List Expr} {kk : Nat} {tp : Pos} {iter : Expr} {pos : Pos} {m₀ : Str → Option Value} (J : Nat → (Str → Option Value) → List (Addr × Obj) → Prop) (hh : A.handled = none) (hc : lo.cls = .type "list") (hd : lo.data = .seq vs.toArray n) (F : Fr h₀ env.locals s.heap m₀)
    (heval : ∀ Q' : Value → Shared → Prop, (∀ h tk m news, Fr h₀ env.locals h m → News h₀ env.locals h news → J 0 m news → wpAny (model prog w) A (call (.type "enumerate") [.ref ax]) Q' (fun _ _ => False) { s with heap := h, toks := tk }) → wpAny (model prog w) A (eval iter env) Q' (fun _ _ => False) s)
    (hJ : ∀ i m nx, J i m nx → (ax, lo) ∈ nx)
    (turn : ∀ (i : Nat) v T t m news I oI oE h tk, vs[i]? = some v → J i m news → IsTup h T #[.int (i : Int) t, v] → (∀ p ∈ news, @Ne Nat p.1 (I + 1)) → (∀ p ∈ news, p.1 ≠ I) → Fr h₀ env.locals h m → News h₀ env.locals h ((I + 1, oE) :: (I, oI) :: news) →
      ∀ Qt : Flow → Shared → Prop, (∀ f s₂, TPost h₀ env.locals { s with heap := h, toks := tk } [(I + 1, oE), (I, oI)] (J (i + 1)) Q f s₂ → Qt f s₂) → wpAny (model prog w) A (assign (.Tuple elts kk tp) env (.ref T)) (fun _ s₂ => wpAny (model prog w) A (execs body env) Qt (fun _ _ => False) s₂) (fun _ _ => False) { s with heap := h, toks := tk })
    (done : ∀ m news h tk, J vs.length m news → Fr h₀ env.locals h m → News h₀ env.locals h news → Q .next { s with heap := h, toks := tk })
    (hs : ∀ x, foldedSetIterable iter env x = pure x := by intro _; rfl) :
    wpAny (model prog w) A (exec (.For (.Tuple elts kk tp) iter body [] pos) env) Q E s := by
  refine wpAny_noRaise (For_turns F (heval _ fun h tk m news F1 N1 hj => ?_) hs PassesOwn.never)
  refine ktu_enum hh F1 N1 (hJ _ _ _ hj) hc hd rfl fun I l1 => ?_
  refine items_inv (s := { s with heap := h, toks := tk }) (xs := enumItems 0 vs) (keep := [(ax, lo)]) J (fun i m nx h => ⟨hJ _ _ _ h, trivial⟩) ?_ ?_ vs.length 0 m news (by simp [enumItems_length]) hj ?_
  · intro i a v m news its h tk ha hv hj hits off F N
    match its, hits, N, off with
    | [(I2, oE), (I1, oI)], hits, N, off =>
      obtain ⟨⟨e1, e2⟩, ⟨e3, e4⟩, _⟩ := hits
      have hi : i < vs.length := by
        have := (List.getElem?_eq_some_iff.mp ha).1
        simpa [enumItems_length] using this
      have ha' := enumItems_get vs 0 i (List.getElem?_eq_getElem hi)
      rw [ha] at ha'
      cases ha'
      obtain ⟨T, t, rfl, hT⟩ := hv
      dsimp only at e1 e3
      subst e1 e3
      refine turn i _ T t m news _ oI oE h tk (List.getElem?_eq_getElem hi) hj (by simpa using hT) (fun p hp => off p hp _ (.head _)) (fun p hp => off p hp _ (.tail _ (.head _))) F N _ (fun _ _ h => h)
    | [], hits, _, _ => exact hits.elim
    | [_], hits, _, _ => exact hits.2.elim
    | _ :: _ :: _ :: _, hits, _, _ => exact hits.2.2.elim
  · intro m news h tk hj F N
    exact done m news h tk (by simpa [enumItems_length] using hj) F N
  · intro p hp hm
    have := l1 p hp
    simp at hm
    rcases hm with e | e
    · exact Nat.ne_of_lt (Nat.lt_succ_of_lt this) e
    · exact Nat.ne_of_lt this e
end
/-- a circuit that is only read -/
inductive CirR (news : List (Addr × Obj)) (c : Addr) (C : List Gate) : Prop
  | mk (dc kl pl kd : Addr) (e1 e2 e3 : Int) (t1 t2 t3 : Tok) (kvs pvs : List Value) (nk np : Nat) (hc : (c, instObj 136 dc) ∈ news) (hdc : (dc, circD e1 e2 e3 t1 t2 t3 kl pl kd) ∈ news) (hkl : (kl, listOf kvs.toArray nk) ∈ news) (hpl : (pl, listOf pvs.toArray np) ∈ news)
      (klen : kvs.length = C.length) (plen : pvs.length = C.length) (kinds : ∀ (i : Nat) (g : Gate), C[i]? = some g → ∃ t, kvs[i]? = some (Value.str g.kindS t))
      (parts : ∀ (i : Nat) (g : Gate), C[i]? = some g → ∃ a us n, pvs[i]? = some (Value.ref a) ∧ (a, tupO us n) ∈ news ∧ IntsAre us g.parts) : CirR news c C
theorem CirR.of {w : World} {S : List (Addr × Obj)} {c kl pl kd : Addr} {C : List Gate} {kvs pvs : List Value} {nk np : Nat} {ko : Obj} (O : CirO S c kl pl kd) (V : CircV w S kd C kvs pvs ko) : CirR ((kl, listOf kvs.toArray nk) :: (pl, listOf pvs.toArray np) :: (kd, ko) :: S) c C := by
  obtain ⟨⟨dc, e1, e2, e3, t1, t2, t3, hc, hdc⟩, _, _, _, _⟩ := O
  exact ⟨dc, kl, pl, kd, e1, e2, e3, t1, t2, t3, kvs, pvs, nk, np, .tail _ (.tail _ (.tail _ hc)), .tail _ (.tail _ (.tail _ hdc)), .head _, .tail _ (.head _), V.klen, V.plen, V.kinds, fun i g e => let ⟨a, us, n, x, y, z⟩ := V.parts i g e; ⟨a, us, n, x, .tail _ (.tail _ (.tail _ y)), z⟩⟩
theorem CirR.mono {news news' : List (Addr × Obj)} {c : Addr} {C : List Gate} (R : CirR news c C) (h : ∀ p ∈ news, p ∈ news') : CirR news' c C := by
  obtain ⟨dc, kl, pl, kd, e1, e2, e3, t1, t2, t3, kvs, pvs, nk, np, hc, hdc, hkl, hpl, klen, plen, kinds, parts⟩ := R
  exact ⟨dc, kl, pl, kd, e1, e2, e3, t1, t2, t3, kvs, pvs, nk, np, h _ hc, h _ hdc, h _ hkl, h _ hpl, klen, plen, kinds, fun i g e => let ⟨a, us, n, x, y, z⟩ := parts i g e; ⟨a, us, n, x, h _ y, z⟩⟩
theorem size_R {w : World} {news : List (Addr × Obj)} {c : Addr} {C : List Gate} (R : CirR news c C) (hz : C.length ≤ 100000) : Reads w 1 49 [.ref c] news (fun r => ∃ t, r = .int ((C.length : Int) - 1) t) := by
  obtain ⟨dc, kl, pl, kd, e1, e2, e3, t1, t2, t3, kvs, pvs, nk, np, hc, hdc, hkl, hpl, klen, plen, kinds, parts⟩ := R
  rw [← klen]
  exact size_spec w news c dc kl pl kd e1 e2 e3 t1 t2 t3 kvs nk (by omega) hc hdc hkl
theorem kind_R {w : World} {news : List (Addr × Obj)} {c : Addr} {C : List Gate} (R : CirR news c C) (hz : C.length ≤ 100000) {i : Nat} {t : Tok} {g : Gate} (h : C[i]? = some g) : Reads w 1 56 [.ref c, .int i t] news (fun r => ∃ t, r = .str g.kindS t) := by
  obtain ⟨dc, kl, pl, kd, e1, e2, e3, t1, t2, t3, kvs, pvs, nk, np, hc, hdc, hkl, hpl, klen, plen, kinds, parts⟩ := R
  obtain ⟨t', ht'⟩ := kinds i g h
  intro dp un gd cn cs a ccd cl outer A₀ base h₀ L m s mean mg mb Q E B F X N T hk hd hu hret
  exact kind_spec w news c dc kl pl kd e1 e2 e3 t1 t2 t3 kvs nk i t (.str g.kindS t') (by omega) hc hdc hkl (by simpa using ht') _ _ _ _ _ _ _ _ _ _ _ _ _ _ _ _ _ _ _ _ B F X N T hk hd hu fun r h' tk' F' N' e => hret r h' tk' F' N' ⟨t', e⟩
theorem parts_R {w : World} {news : List (Addr × Obj)} {c : Addr} {C : List Gate} (R : CirR news c C) (hz : C.length ≤ 100000) {i : Nat} {t : Tok} {g : Gate} (h : C[i]? = some g) : Reads w 1 63 [.ref c, .int i t] news (fun r => ∃ a us n, r = .ref a ∧ (a, tupO us n) ∈ news ∧ IntsAre us g.parts) := by
  obtain ⟨dc, kl, pl, kd, e1, e2, e3, t1, t2, t3, kvs, pvs, nk, np, hc, hdc, hkl, hpl, klen, plen, kinds, parts⟩ := R
  obtain ⟨pa, us, n, x, y, z⟩ := parts i g h
  intro dp un gd cn cs a ccd cl outer A₀ base h₀ L m s mean mg mb Q E B F X N T hk hd hu hret
  exact parts_spec w news c dc kl pl kd e1 e2 e3 t1 t2 t3 pvs np i t (.ref pa) (by omega) hc hdc hpl (by simpa using x) _ _ _ _ _ _ _ _ _ _ _ _ _ _ _ _ _ _ _ _ B F X N T hk hd hu fun r h' tk' F' N' e => hret r h' tk' F' N' ⟨pa, us, n, e, y, z⟩
/-- the literals of the n inputs -/
def inpsOf (n : Nat) : List Int := (List.range n).map fun i => ((i + 2 : Nat) : Int)
theorem inpsOf_len (n : Nat) : (inpsOf n).length = n := by simp [inpsOf]
theorem inpsOf_get {n i : Nat} {x : Int} (h : (inpsOf n)[i]? = some x) : i < n ∧ x = ((i + 2 : Nat) : Int) := by
  unfold inpsOf at h
  rw [List.getElem?_map] at h
  by_cases hi : i < n
  · rw [List.getElem?_range hi] at h
    exact ⟨hi, by simpa using h.symm⟩
  · rw [List.getElem?_eq_none (by simpa using hi)] at h
    cases h
inductive TabPost (n : Nat) (C : List Gate) (r : Value) (new : List (Addr × Obj)) : Prop
  | mk (D : Addr) (vs : List Value) (m : Nat) (hr : r = .ref D) (hn : new = [(D, listOf vs.toArray m)]) (hT : TabV n C vs) : TabPost n C r new
/-- the dict of the inputs' masks -/
def OwnV (n i : Nat) (kvs : List (Int × Value)) : Prop := kvs.length ≤ i ∧ ∀ j, j < i → ∃ (M : Nat) (t : Tok), valueAt kvs ((j + 2 : Nat) : Int) = some (.int M t) ∧ MaskOf n (fun row => row.testBit j) M
theorem OwnV.zero {n : Nat} : OwnV n 0 [] := ⟨Nat.le_refl _, fun j h => absurd h (Nat.not_lt_zero _)⟩
theorem OwnV.succ {n i : Nat} {kvs : List (Int × Value)} {M : Nat} {t : Tok} (h : OwnV n i kvs) (hM : MaskOf n (fun row => row.testBit i) M) : OwnV n (i + 1) (stored kvs ((i + 2 : Nat) : Int) (.int M t)) := by
  refine ⟨Nat.le_trans (stored_len _ _ _) (by have := h.1; omega), fun j hj => ?_⟩
  by_cases e : j = i
  · subst e
    exact ⟨M, t, by rw [valueAt_stored, if_pos rfl], hM⟩
  · obtain ⟨M', t', a, b⟩ := h.2 j (by omega)
    exact ⟨M', t', by rw [valueAt_stored, if_neg (by omega)]; exact a, b⟩
/-- the table of the gates below g -/
def TabTo (n g : Nat) (C : List Gate) (vs : List Value) : Prop := vs.length = g ∧ ∀ i, i < g → ∃ (M : Nat) (t : Tok), vs[i]? = some (.int M t) ∧ MaskOf n (fun row => (tvs row.testBit C).getD i false) M
theorem TabTo.whole {n : Nat} {C : List Gate} {vs : List Value} (h : TabTo n C.length C vs) : TabV n C vs := ⟨h.1, fun i hi => let ⟨M, t, a, b⟩ := h.2 i hi; ⟨M, t, a, b.1, b.2⟩⟩
theorem TabTo.snoc {n g : Nat} {C : List Gate} {vs : List Value} {M : Nat} {t : Tok} (h : TabTo n g C vs) (hM : MaskOf n (fun row => (tvs row.testBit C).getD g false) M) : TabTo n (g + 1) C (vs ++ [.int M t]) := by
  refine ⟨by simp [h.1], fun i hi => ?_⟩
  by_cases e : i < g
  · obtain ⟨M', t', a, b⟩ := h.2 i e
    exact ⟨M', t', by rw [List.getElem?_append_left (by rw [h.1]; exact e)]; exact a, b⟩
  · have : i = g := by omega
    subst this
    exact ⟨M, t, by rw [List.getElem?_append_right (by rw [h.1]; exact Nat.le_refl _), h.1]; simp, hM⟩
/-- the frame of _law_tables -/
structure TFr (n : Nat) (c ia d : Addr) (m : Str → Option Value) : Prop where
  rows : ∃ t, m (Str.ofString "rows") = some (.int ((2 ^ n : Nat) : Int) t)
  full : ∃ (M : Nat) (t : Tok), m (Str.ofString "full") = some (.int (M : Int) t) ∧ MaskOf n (fun _ => true) M
  own : m (Str.ofString "own") = some (.ref d)
  circuit : m (Str.ofString "circuit") = some (.ref c)
  inputs : m (Str.ofString "inputs") = some (.ref ia)
theorem full_mask {n k : Nat} (h : k = n) {t : Tok} : ∃ (M : Nat) (t' : Tok), some (Value.int (((2 ^ 2 ^ k : Nat) : Int) - 1) t) = some (.int (M : Int) t') ∧ MaskOf n (fun _ => true) M :=
  ⟨2 ^ (2 ^ n) - 1, t, by subst h; rw [show ((2 ^ 2 ^ k : Nat) : Int) - 1 = ((2 ^ 2 ^ k - 1 : Nat) : Int) by have := Nat.two_pow_pos (2 ^ k); omega], MaskOf.full n⟩
inductive JOwn (n : Nat) (w : World) (c ia d : Addr) (base : List (Addr × Obj)) (L1 : Nat) (i : Nat) (mm : Str → Option Value) (nx : List (Addr × Obj)) : Prop
  | mk (o oc : Obj) (v : Option Value) (kvs : List (Int × Value)) (hn : nx = (d, o) :: (L1 + 1, oc) :: base) (hd : oc.data = .cell v) (ho : o.IsDictOf (intKind PySem.Challenge.rw_nz0381_01.prog w) kvs) (hO : OwnV n i kvs)
      (hm : TFr n c ia d mm) : JOwn n w c ia d base L1 i mm nx
inductive JSum (f : Nat → Bool) (base : List (Addr × Obj)) (i : Nat) (ys : List Value) (nx : List (Addr × Obj)) : Prop
  | mk (xs : List Int) (hn : nx = base) (hI : IntsAre ys xs) (hs : xs.sum = maskI f i) (hl : ys.length ≤ i) : JSum f base i ys nx
theorem JSum.yes {f : Nat → Bool} {base : List (Addr × Obj)} {i : Nat} {ys : List Value} {xs : List Int} {t : Tok} (hI : IntsAre ys xs) (hs : xs.sum = maskI f i) (hl : ys.length ≤ i) (h : f i = true) : JSum f base (i + 1) (ys ++ [.int ((2 ^ i : Nat) : Int) t]) base :=
  ⟨xs ++ [((2 ^ i : Nat) : Int)], rfl, ints_snoc hI, by rw [List.sum_append, hs]; simp [maskI, h], by simp; omega⟩
theorem JSum.no {f : Nat → Bool} {base : List (Addr × Obj)} {i : Nat} {ys : List Value} {xs : List Int} (hI : IntsAre ys xs) (hs : xs.sum = maskI f i) (hl : ys.length ≤ i) (h : f i = false) : JSum f base (i + 1) ys base :=
  ⟨xs, rfl, hI, by rw [hs]; simp [maskI, h], by omega⟩
inductive JTab (n : Nat) (C : List Gate) (c ia d D : Addr) (base : List (Addr × Obj)) (i : Nat) (mm : Str → Option Value) (nx : List (Addr × Obj)) : Prop
  | mk (vs : List Value) (k : Nat) (hn : nx = (D, listOf vs.toArray k) :: base) (hT : TabTo n (i + 2) C vs) (hf : mm (Str.ofString "found") = some (.ref D)) (hm : TFr n c ia d mm) : JTab n C c ia d D base i mm nx
theorem tab_start {n : Nat} {C : List Gate} {M : Nat} {t t' : Tok} (W : WFC n C) (h : MaskOf n (fun _ => true) M) : TabTo n (0 + 2) C [.int 0 t, .int M t'] := by
  refine ⟨rfl, fun i hi => ?_⟩
  match i, hi with
  | 0, _ => exact ⟨0, t, rfl, Nat.two_pow_pos _, fun r _ => by rw [Nat.zero_testBit]; show false = (tvs r.testBit C).getD 0 false; rw [List.getD_eq_getElem?_getD, tvs_get _ W.c0]; rfl⟩
  | 1, _ => exact ⟨M, t', rfl, h.1, fun r hr => by rw [h.2 r hr]; show true = (tvs r.testBit C).getD 1 false; rw [List.getD_eq_getElem?_getD, tvs_get _ W.c1]; rfl⟩
/-- what a gate starts from -/
def headB (i : Nat) (row : Nat) : Gate → Bool
  | .inp => row.testBit i
  | _ => true
theorem gate_at {n : Nat} {C : List Gate} {i : Nat} (W : WFC n C) (h : i < C.length - 2) : ∃ g, C[i + 2]? = some g ∧ ((g = .inp ∧ i < n) ∨ ∃ ps, g = .and ps) := by
  by_cases hi : i < n
  · exact ⟨.inp, W.ci _ (by omega) (by omega), .inl ⟨rfl, hi⟩⟩
  · have hl : i + 2 < C.length := by omega
    obtain ⟨ps, e⟩ := W.ca (i + 2) _ (by omega) (List.getElem?_eq_getElem hl)
    exact ⟨_, List.getElem?_eq_getElem hl, .inr ⟨ps, e⟩⟩
theorem gate_val {n : Nat} {C : List Gate} {i row : Nat} {g : Gate} (W : WFC n C) (h : C[i + 2]? = some g) (hg : (g = .inp ∧ i < n) ∨ ∃ ps, g = .and ps) :
    (headB i row g && g.parts.all (lv (tvs row.testBit C))) = (tvs row.testBit C).getD (i + 2) false := by
  rw [List.getD_eq_getElem?_getD, tvs_get _ h]
  have hl := (List.getElem?_eq_some_iff.mp h).1
  rcases hg with ⟨rfl, _⟩ | ⟨ps, rfl⟩
  · simp [headB, Gate.parts, gv, tvs_len, Nat.min_eq_left (Nat.le_of_lt hl)]
  · simp only [headB, Gate.parts, gv, Bool.true_and, Option.getD_some]
    exact (all_cong fun p hp => lv_take _ (Nat.le_of_lt hl) ((W.ok _ _ h).2 p hp)).symm
inductive JPart (n : Nat) (C : List Gate) (c ia d D : Addr) (f : Nat → Bool) (ps : List Int) (base : List (Addr × Obj)) (j : Nat) (mm : Str → Option Value) (nx : List (Addr × Obj)) : Prop
  | mk (M : Nat) (t : Tok) (hn : nx = base) (hh : mm (Str.ofString "here") = some (.int (M : Int) t)) (hM : MaskOf n (fun row => f row && (ps.take j).all (lv (tvs row.testBit C))) M) (hf : mm (Str.ofString "found") = some (.ref D)) (hm : TFr n c ia d mm) : JPart n C c ia d D f ps base j mm nx
theorem all_take_succ {α : Type} {l : List α} {j : Nat} {x : α} (h : l[j]? = some x) (f : α → Bool) : (l.take (j + 1)).all f = ((l.take j).all f && f x) := by
  obtain ⟨hj, rfl⟩ := List.getElem?_eq_some_iff.mp h
  rw [List.take_succ_eq_append_getElem hj, List.all_append]
  simp
theorem MaskOf.uniq {n : Nat} {f : Nat → Bool} {M N : Nat} (x : MaskOf n f M) (y : MaskOf n f N) : M = N := by
  refine Nat.eq_of_testBit_eq fun i => ?_
  by_cases h : i < 2 ^ n
  · rw [x.2 i h, y.2 i h]
  · have e : 2 ^ (2 ^ n) ≤ 2 ^ i := Nat.pow_le_pow_right (by decide) (by omega)
    rw [Nat.testBit_lt_two_pow (Nat.lt_of_lt_of_le x.1 e), Nat.testBit_lt_two_pow (Nat.lt_of_lt_of_le y.1 e)]
theorem MaskOf.notIn {n : Nat} {f : Nat → Bool} {M F : Nat} (x : MaskOf n f M) (y : MaskOf n (fun _ => true) F) : (F : Int) - (M : Int) = ((F - M : Nat) : Int) ∧ MaskOf n (fun r => !f r) (F - M) := by
  have e := y.uniq (MaskOf.full n)
  subst e
  refine ⟨?_, x.compl⟩
  have := x.1
  omega
theorem parts_lit {n : Nat} {C : List Gate} {i : Nat} {g : Gate} (W : WFC n C) (h : C[i]? = some g) : ∀ p ∈ g.parts, LitIn i p := by
  have := W.ok i g h
  cases g with
  | and ps => exact this.2
  | dummy => intro p hp; cases hp
  | tru => intro p hp; cases hp
  | inp => intro p hp; cases hp
inductive GHead (n i : Nat) (g : Gate) (h₀ : Heap) (L : Addr) (m : Str → Option Value) (led : List (Addr × Obj)) (s : Shared) : Value → Shared → Prop
  | mk (M : Nat) (tv : Tok) (h : Heap) (tk : Nat) (F : Fr h₀ L h m) (N : News h₀ L h led) (hM : MaskOf n (fun row => headB i row g) M) : GHead n i g h₀ L m led s (.int M tv) { s with heap := h, toks := tk }
theorem MaskOf.lvPos {n : Nat} {C : List Gate} {x : Int} {M : Nat} (h : MaskOf n (fun row => (tvs row.testBit C).getD x.natAbs false) M) (h0 : 0 < x) : MaskOf n (fun row => lv (tvs row.testBit C) x) M :=
  h.congr fun r _ => by unfold lv; rw [if_pos h0]
theorem MaskOf.lvNeg {n : Nat} {C : List Gate} {x : Int} {M : Nat} (h : MaskOf n (fun row => !(tvs row.testBit C).getD x.natAbs false) M) (h0 : ¬ 0 < x) : MaskOf n (fun row => lv (tvs row.testBit C) x) M :=
  h.congr fun r _ => by unfold lv; rw [if_neg h0]
theorem MaskOf.step {n : Nat} {C : List Gate} {x : Int} {M N j : Nat} {f : Nat → Bool} {ps : List Int} (h : MaskOf n (fun row => f row && (ps.take j).all (lv (tvs row.testBit C))) M) (hx : ps[j]? = some x) (hN : MaskOf n (fun row => lv (tvs row.testBit C) x) N) :
    MaskOf n (fun row => f row && (ps.take (j + 1)).all (lv (tvs row.testBit C))) (M &&& N) :=
  (h.and hN).congr fun r _ => by
    show (_ && _ && _) = (_ && _)
    rw [all_take_succ hx, Bool.and_assoc]


theorem tables_spec (w : World) (news : List (Addr × Obj)) (c ia : Addr) (C : List Gate) (ivs : List Value) (n ni : Nat) (R : CirR news c C) (hn : n ≤ 3) (hsz : C.length ≤ 90000) (hW : WFC n C) (hi : (ia, listOf ivs.toArray ni) ∈ news) (hI : IntsAre ivs (inpsOf n)) :
    Makes w 2 197 [.ref c, .ref ia] news (fun _ => True) (TabPost n C) := by
  have R' := R
  obtain ⟨dc, kl, pl, kd, e1, e2, e3, t1, t2, t3, kvz, pvz, nkz, npz, hcc, hcd, hklz, hplz, klenz, plenz, kindz, partz⟩ := R'
  have hil : ivs.length = n := by rw [hI.length, inpsOf_len]
  have hrows : 2 ^ n ≤ 8 := Nat.pow_le_pow_right (n := 2) (by decide) hn
  have hrl : 2 ^ ivs.length ≤ 8 := hil ▸ hrows
  obtain ⟨hsm, hsz2⟩ := range_size (n := 2 ^ n) (by omega)
  unfold Makes
  k_fill
  intro dp un gd cn cs a ccd cl outer A₀ base h₀ L m s mean mg mb Q E B _ F X N T hk hd hu hret
  refine wpAny_call ?_
  k_dflt (walk_at "enterC")
  rename_i mm0 mc o1 d1
  replace d1 := cell_eq d1 (v' := none) ((hMC _).trans (by with_unfolding_all rfl))
  have r1 : mm0 (Str.ofString "circuit") = some (.ref c) := (hM _).trans (by with_unfolding_all rfl)
  have r2 : mm0 (Str.ofString "inputs") = some (.ref ia) := (hM _).trans (by with_unfolding_all rfl)
  clear hM hMC
  have hofc : OwnOff news [L' + 1] := off_of_lt l1 (by simp)
  walk_at "go"
  unfold Stop
  k_fold
  rename_i _ _ d _ o lo hs0 fs0 hi0 fi0 l2 D _ l3 _ _ h2 F2 N2
  have hdL : @Ne Nat (L' + 1) d := Nat.ne_of_lt l2.1
  have hdN : OwnOff news [d, L' + 1] := fun p hp b hb => by
    rcases List.mem_cons.mp hb with rfl | hb
    · exact fun e => allLt_notin l2.2 (e ▸ List.mem_map_of_mem hp)
    · exact hofc p hp b hb
  obtain ⟨m1, F3, hT1⟩ : ∃ m1, Fr g' L' h2 m1 ∧ TFr n c ia d m1 := ⟨_, F2, ⟨_, by rw [← hil]; rfl⟩, full_mask hil, rfl, r1, r2⟩
  replace N2 : News g' L' h2 ((d, o) :: (L' + 1, o1) :: news) := fun p hp => N2 p (.tail _ hp)
  have q1 := hT1.inputs
  clear F2
  refine for_enum (ax := ia) (lo := listOf ivs.toArray ni) (vs := ivs) (n := ni) (JOwn n w c ia d news L') rfl rfl rfl F3 ?heval ?hJ ?turn ?done
  case heval =>
    intro Q' hq
    walk_at "go"
    exact hq _ _ _ _ F3 N2 ⟨o, o1, none, [], rfl, d1, hi0, .zero, hT1⟩
  case hJ => rintro i mm nx ⟨o', oc, v, kvs, rfl, _⟩; exact .tail _ (.tail _ hi)
  case turn =>
    rintro i v T t mm _ I oI oE h3 tk3 hv ⟨o', oc, vc, kvs, rfl, hdc, hkv, hO, hm⟩ hT hoE hoI F4 N4 Qt hQt
    obtain ⟨x, tx, rfl, hx⟩ := ints_at hI hv
    obtain ⟨hin, rfl⟩ := inpsOf_get hx
    have a1 : @Ne Nat d (I + 1) := hoE _ (.head _)
    have a2 : @Ne Nat (L' + 1) (I + 1) := hoE _ (.tail _ (.head _))
    have a3 : @Ne Nat d I := hoI _ (.head _)
    have a4 : @Ne Nat (L' + 1) I := hoI _ (.tail _ (.head _))
    obtain ⟨tr, hmr⟩ := hm.rows
    have hmo := hm.own
    walk_at "go"
    unfold Stop
    rename_i h4 F5 N5 h5 oc2 dc2 h6 F6 N6
    clear F5 N5 hdc
    refine range_1 F6 N6 fun r t₀ u₀ v₀ h7 tk7 hr F7 N7 => ?_
    clear F6 N6
    refine srcT_range (JSum (fun row => row.testBit i) ((I + 1, oE) :: (I, oI) :: (d, o') :: (L' + 1, oc2) :: news)) rfl F7 N7 hr hsm hsz2 (by omega) ⟨[], rfl, .nil, rfl, Nat.le_refl _⟩ ?t1 ?d1
    case t1 =>
      rintro row tr2 ys nx I2 oI2 C2 oC2 D2 m2 h8 tk8 E8 hrow ⟨xs, rfl, hI8, hs8, hl8⟩ hC hx8 F8 N8 off ap Qn Qt2 hQt2 hQn
      clear F7 N7
      rw [Int.zero_add] at hx8
      walk_at "go"
      · rename_i hb
        rw [shr_and_one, b2i_one] at hb
        exact hQt2 _ _ _ _ F8 N8 off (JSum.yes hI8 hs8 hl8 hb)
      · rename_i hb
        rw [shr_and_one, Ne, b2i_one] at hb
        exact hQn _ _ _ F8 N8 off (JSum.no hI8 hs8 hl8 (by simpa using hb))
    case d1 =>
      rintro ys nx D2 h8 tk8 ⟨xs, rfl, hI8, hs8, hl8⟩ F8 N8 off
      clear F7 N7
      walk_at "go"
      unfold Stop
      refine LSm.sum_ints F8 N8 rfl (News.isList N8 (.head _)) hI8 fun h9 tk9 t9 F9 N9 => ?_
      rw [hs8]
      replace N9 : News g' L' h9 ((I + 1, oE) :: (I, oI) :: (d, o') :: (L' + 1, oc2) :: news) := fun p hp => N9 p (.tail _ hp)
      clear F8 N8
      obtain ⟨M, hM1, hM2⟩ := MaskOf.ofI (n := n) (f := fun row => row.testBit i)
      rw [hM1]
      walk_at "go"
      refine setI (f := fun o8 => (I + 1, oE) :: (I, oI) :: (d, o8) :: (L' + 1, oc2) :: news) F9 N9 (fun o8 => by k_upd) hkv (by have := hO.1; omega) fun h10 o10 F10 N10 hkv10 => ?_
      walk_at "go"
      refine hQt _ _ (TPost.next (TEnd.intro (its := [(I + 1, oE), (I, oI)]) F10 N10 (fun p hp q hq => ?_) ⟨o10, oc2, _, _, rfl, dc2, hkv10, hO.succ hM2, ⟨hm.rows, hm.full, hm.own, hm.circuit, hm.inputs⟩⟩))
      rcases List.mem_cons.mp hq with rfl | hq
      · rcases List.mem_cons.mp hp with rfl | hp
        · exact a1
        · exact it_off (fun p hp => hoE p (.tail _ hp)) p hp
      · rw [List.mem_singleton.mp hq]
        rcases List.mem_cons.mp hp with rfl | hp
        · exact a3
        · exact it_off (fun p hp => hoI p (.tail _ hp)) p hp
  case done =>
    rintro mm _ h3 tk3 ⟨o', oc, vc, kvs, rfl, hdc, hkv, hO, hm⟩ F4 N4
    rw [hil] at hO
    obtain ⟨tr, hmr⟩ := hm.rows
    obtain ⟨Mf, tf, hmf, hMf⟩ := hm.full
    have hmo := hm.own
    have hmc := hm.circuit
    clear F3 N2
    walk_at "go"
    unfold Stop
    k_fold
    rename_i h5 F5 N5
    have hClen := hW.len
    obtain ⟨hsm3, hsz3⟩ := range_size2 (a := 2) (b := (C.length : Int) - 1 + 1) (n := C.length - 2) (by omega) (by omega) (by omega) (by omega)
    have hDN : OwnOff ((d, o') :: (L' + 1, oc) :: news) [l'] := fun p hp b hb => by
      rw [List.mem_singleton.mp hb]
      exact fun e => allLt_notin (l := (d, o') :: (L' + 1, oc) :: news) l1 (e ▸ List.mem_map_of_mem (f := fun p : Addr × Obj => p.1) hp)
    generalize hB : (d, o') :: (L' + 1, oc) :: news = base' at N5 hDN
    have hdB : (d, o') ∈ base' := hB ▸ .head _
    have hsub : ∀ p ∈ news, p ∈ base' := hB ▸ fun p hp => .tail _ (.tail _ hp)
    have hcB := hsub _ hcc
    have hdcB := hsub _ hcd
    have RB := R.mono hsub
    refine for_range (JTab n C c ia d l' base') rfl F5 hsm3 hsz3 ?heval2 ?turn2 ?done2
    case heval2 =>
      walk_at "go"
      unfold Stop
      refine' reads_use (size_R (RB.mono (news' := (l', _) :: base') fun _ h => .tail _ h) (by omega)) ?k1 ?k2 ?k3 ?k4 ?k5 ?kK ?kd ?ku ?_
      walk_at "use premises"
      rintro r h7 tk7 F7 N7 ⟨t7, rfl⟩
      walk_at "go"
      unfold Stop
      exact range_2 F7 N7 fun r t₀ u₀ v₀ h' tk hr F4 N4 => ⟨r, t₀, u₀, v₀, h', tk, _, _, rfl, rfl, hr, F4, N4, ⟨_, _, rfl, tab_start hW hMf, rfl, ⟨hm.rows, hm.full, hm.own, hm.circuit, hm.inputs⟩⟩⟩
    case turn2 =>
      rintro i t mm _ I oI h6 tk6 hin ⟨vs, k, rfl, hT, hf, hm⟩ hoI hoff F6 N6 Qt hQt
      obtain ⟨g, hg, hgc⟩ := gate_at hW hin
      obtain ⟨tr, hmr⟩ := hm.rows
      obtain ⟨Mf, tf, hmf, hMf⟩ := hm.full
      have hmo := hm.own
      have hmc := hm.circuit
      have gi : (2 : Int) + (i : Int) = ((i + 2 : Nat) : Int) := by omega
      rw [gi]
      clear F5 N5
      have hIS : IfStop := ⟨⟩
      walk_at "go"
      unfold Stop
      rename_i h7 F7 N7
      obtain ⟨m7, F8, hg7, hf7, hm7⟩ : ∃ m7, Fr g' L' h7 m7 ∧ m7 (Str.ofString "g") = some (.int ((i + 2 : Nat) : Int) t) ∧ m7 (Str.ofString "found") = some (.ref l') ∧ TFr n c ia d m7 := ⟨_, F7, rfl, hf, ⟨hm.rows, hm.full, hm.own, hm.circuit, hm.inputs⟩⟩
      clear F7 hmr hmf hmo hmc hm hf hMf
      obtain ⟨tr, hmr⟩ := hm7.rows
      obtain ⟨Mf, tf, hmf, hMf⟩ := hm7.full
      have hmo := hm7.own
      have hmc := hm7.circuit
      have RC := RB.mono (news' := (I, oI) :: (l', listOf vs.toArray k) :: base') fun _ h => .tail _ (.tail _ h)
      refine wpAny_mono (Q := GHead n i g g' L' m7 ((I, oI) :: (l', listOf vs.toArray k) :: base') s) ?eIf ?cont (fun _ _ e => e)
      case eIf =>
        rcases hgc with ⟨rfl, hin2⟩ | ⟨ps, rfl⟩
        · obtain ⟨Mo, to, hvo, hMo⟩ := hO.2 i hin2
          walk_at "go"
          unfold Stop
          refine' reads_use (kind_R RC (by omega) hg) ?k1 ?k2 ?k3 ?k4 ?k5 ?kK ?kd ?ku ?_
          walk_at "use premises"
          rintro r h9 tk9 F9 N9 ⟨t9, rfl⟩
          dsimp only [Gate.kindS]
          walk_at "go"
          exact .mk Mo _ _ _ F9 N9 hMo
        · walk_at "go"
          unfold Stop
          refine' reads_use (kind_R RC (by omega) hg) ?k1 ?k2 ?k3 ?k4 ?k5 ?kK ?kd ?ku ?_
          walk_at "use premises"
          rintro r h9 tk9 F9 N9 ⟨t9, rfl⟩
          dsimp only [Gate.kindS]
          walk_at "go"
          exact .mk Mf _ _ _ F9 N9 hMf
      case cont =>
        rintro _ _ ⟨M, tv, h9, tk9, F9, N9, hM9⟩
        obtain ⟨pa, us, npt, hpv, hpm, hpI⟩ := partz _ _ hg
        have hlit := parts_lit hW hg
        have hpl := hpI.length
        walk_at "go"
        unfold Stop
        k_fold
        rename_i h10 F10 N10
        obtain ⟨m8, F11, hg8, hh8, hf8, hm8⟩ : ∃ m8, Fr g' L' h10 m8 ∧ m8 (Str.ofString "g") = some (.int ((i + 2 : Nat) : Int) t) ∧ m8 (Str.ofString "here") = some (.int M tv) ∧ m8 (Str.ofString "found") = some (.ref l') ∧ TFr n c ia d m8 := ⟨_, F10, hg7, rfl, hf7, ⟨hm7.rows, hm7.full, hm7.own, hm7.circuit, hm7.inputs⟩⟩
        clear F10 hmr hmf hmo hmc hm7 hf7 hMf hg7
        have hmc := hm8.circuit
        have hvlen := hT.1
        refine for_tup (ax := pa) (lo := tupO us npt) (vs := us) (n := npt) (JPart n C c ia d l' (fun row => headB i row g) g.parts ((I, oI) :: (l', listOf vs.toArray k) :: base')) rfl rfl rfl F11 ?heval3 ?hJ3 ?turn3 ?done3
        case heval3 =>
          walk_at "go"
          unfold Stop
          refine' reads_use (parts_spec w ((I, oI) :: (l', listOf vs.toArray k) :: base') c dc kl pl kd e1 e2 e3 t1 t2 t3 pvz npz ((i + 2 : Nat) : Int) t (.ref pa) (by omega) (.tail _ (.tail _ hcB)) (.tail _ (.tail _ hdcB)) (.tail _ (.tail _ (hsub _ hplz))) (by rw [Int.natAbs_natCast]; exact hpv)) ?k1 ?k2 ?k3 ?k4 ?k5 ?kK ?kd ?ku ?_
          walk_at "use premises"
          rintro r h11 tk11 F12 N12 rfl
          exact ⟨_, _, _, _, rfl, rfl, F12, N12, ⟨M, tv, rfl, hh8, hM9.congr fun r _ => by simp, hf8, hm8⟩⟩
        case hJ3 => rintro j mm nx ⟨_, _, rfl, _, _, _, _⟩; exact .tail _ (.tail _ (hsub _ hpm))
        case turn3 =>
          rintro j v mm3 _ I3 oI3 h12 tk12 hv ⟨M3, tv3, rfl, hh3, hM3, hf3, hm3⟩ hoI3 hoff3 F13 N13 Qt3 hQt3
          obtain ⟨x, tx, rfl, hx⟩ := ints_at hpI hv
          have hxl := hlit x (List.mem_of_getElem? hx)
          obtain ⟨Mx, txx, hvx, hMx⟩ := hT.2 x.natAbs hxl.2
          obtain ⟨Mf, tf, hmf, hMf⟩ := hm3.full
          have hxa := hxl.1
          have hxb := hxl.2
          clear F11 N10
          by_cases hx0 : 0 < x
          · have hvx' : vs[x.toNat]? = some (.int Mx txx) := by rw [show x.toNat = x.natAbs by omega]; exact hvx
            walk_at "go"
            rename_i _ h14 F14 N14
            refine hQt3 _ _ (TPost.next (TEnd.intro (its := [(I3, oI3)]) F14 N14 (fun p hp q hq => ?_) ⟨M3 &&& Mx, _, rfl, int_eq (bitAnd_nat _ _), hM3.step hx (hMx.lvPos hx0), hf3, ⟨hm3.rows, hm3.full, hm3.own, hm3.circuit, hm3.inputs⟩⟩))
            rw [List.mem_singleton.mp hq]
            exact hoff3 p hp
          · have hvx' : vs[(-x).toNat]? = some (.int Mx txx) := by rw [show (-x).toNat = x.natAbs by omega]; exact hvx
            obtain ⟨eN, hMn⟩ := hMx.notIn hMf
            walk_at "go"
            rename_i _ h14 F14 N14
            refine hQt3 _ _ (TPost.next (TEnd.intro (its := [(I3, oI3)]) F14 N14 (fun p hp q hq => ?_) ⟨M3 &&& (Mf - Mx), _, rfl, int_eq (by rw [eN, bitAnd_nat]), hM3.step hx (hMn.lvNeg hx0), hf3, ⟨hm3.rows, hm3.full, hm3.own, hm3.circuit, hm3.inputs⟩⟩))
            rw [List.mem_singleton.mp hq]
            exact hoff3 p hp
        case done3 =>
          rintro mm3 _ h12 tk12 ⟨M3, tv3, rfl, hh3, hM3, hf3, hm3⟩ F13 N13
          rw [List.take_of_length_le (by omega)] at hM3
          clear F11 N10
          have hlI : @Ne Nat l' I := hoff _ (.head _)
          have hMg := hM3.congr fun r _ => gate_val hW hg hgc
          walk_at "go"
          rename_i h14 F14 N14
          refine hQt _ _ (TPost.next (TEnd.intro (its := [(I, oI)]) F14 N14 (fun p hp q hq => ?_) ⟨_, _, rfl, hT.snoc hMg, hf3, hm3⟩))
          rw [List.mem_singleton.mp hq]
          exact it_off hoff p hp
    case done2 =>
      rintro mm _ h6 tk6 ⟨vs, k, rfl, hT, hf, hm⟩ F6 N6
      rw [show C.length - 2 + 2 = C.length by omega] at hT
      walk_at "go"
      rename_i kF kN _ _
      refine hret _ [(l', listOf vs.toArray k)] _ _ kF (fun p hp => kN p ?_) (fun p hp q hq => ?_) ⟨l', vs, k, rfl, rfl, hT.whole⟩
      · rcases List.mem_cons.mp hp with rfl | hp
        · exact .head _
        · exact .tail _ (hsub p hp)
      · rw [List.mem_singleton.mp hp]
        exact fun e => hDN q (hsub q hq) l' (.head _) e.symm
/-- how many gates are not known -/
def unkn (kvs : List (Int × Value)) : Nat → Nat
  | 0 => 0
  | n + 1 => unkn kvs n + (if (valueAt kvs (n : Int)).isSome then 0 else 1)
def HasK (kvs : List (Int × Value)) (i : Nat) : Prop := (valueAt kvs (i : Int)).isSome = true
structure GoodK (ρ : Nat → Bool) (C : List Gate) (kvs : List (Int × Value)) : Prop where
  one : HasK kvs 1
  val : ∀ (i : Nat) v, valueAt kvs (i : Int) = some v → v = .bool (lv (tvs ρ C) (i : Int))
  cnt : kvs.length + unkn kvs C.length ≤ C.length + 1
def missK (kvs : List (Int × Value)) (ps : List Int) : List Nat := (ps.map Int.natAbs).filter fun i => !(valueAt kvs (i : Int)).isSome
inductive StepK (ρ : Nat → Bool) (C : List Gate) : List (Int × Value) → List Nat → List (Int × Value) → List Nat → Prop
  | grow (kvs : List (Int × Value)) (st : List Nat) (i : Nat) (ps : List Int) (h : C[i]? = some (.and ps)) (hu : ¬ HasK kvs i) (hm : missK kvs ps ≠ []) : StepK ρ C kvs (st ++ [i]) kvs (st ++ [i] ++ missK kvs ps)
  | inp (kvs : List (Int × Value)) (st : List Nat) (i : Nat) (h : C[i]? = some .inp) : StepK ρ C kvs (st ++ [i]) (stored kvs (i : Int) (.bool (lv (tvs ρ C) (i : Int)))) st
  | old (kvs : List (Int × Value)) (st : List Nat) (i : Nat) (g : Gate) (h : C[i]? = some g) (hg : g ≠ .inp) (hk : HasK kvs i) : StepK ρ C kvs (st ++ [i]) kvs st
  | and (kvs : List (Int × Value)) (st : List Nat) (i : Nat) (ps : List Int) (h : C[i]? = some (.and ps)) (hu : ¬ HasK kvs i) (hm : missK kvs ps = []) : StepK ρ C kvs (st ++ [i]) (stored kvs (i : Int) (.bool (lv (tvs ρ C) (i : Int)))) st
inductive RunK (ρ : Nat → Bool) (C : List Gate) (B : Nat) : Nat → List (Int × Value) → List Nat → List (Int × Value) → List Nat → Prop
  | zero (kvs : List (Int × Value)) (st : List Nat) : RunK ρ C B 0 kvs st kvs st
  | succ {n : Nat} {kvs : List (Int × Value)} {st : List Nat} {kvs' : List (Int × Value)} {st' : List Nat} {kvs'' : List (Int × Value)} {st'' : List Nat} (a : StepK ρ C kvs st kvs' st') (hB : st'.length ≤ B) (b : RunK ρ C B n kvs' st' kvs'' st'') : RunK ρ C B (n + 1) kvs st kvs'' st''
theorem RunK.trans {ρ : Nat → Bool} {C : List Gate} {B n m : Nat} {k1 k2 k3 : List (Int × Value)} {s1 s2 s3 : List Nat} (a : RunK ρ C B n k1 s1 k2 s2) (b : RunK ρ C B m k2 s2 k3 s3) : ∃ k, RunK ρ C B k k1 s1 k3 s3 := by
  induction a with
  | zero => exact ⟨m, b⟩
  | succ x y _ ih =>
    obtain ⟨k, h⟩ := ih b
    exact ⟨k + 1, .succ x y h⟩
theorem hasK_stored {kvs : List (Int × Value)} {k : Int} {v : Value} {i : Nat} : HasK (stored kvs k v) i ↔ (i : Int) = k ∨ HasK kvs i := by
  unfold HasK
  rw [valueAt_stored]
  by_cases h : (i : Int) = k
  · simp [h]
  · simp [h]
theorem unkn_stored (kvs : List (Int × Value)) (k : Nat) (v : Value) : ∀ n, unkn (stored kvs (k : Int) v) n ≤ unkn kvs n ∧ (k < n → ¬ HasK kvs k → unkn (stored kvs (k : Int) v) n + 1 ≤ unkn kvs n)
  | 0 => ⟨Nat.le_refl _, fun h => absurd h (Nat.not_lt_zero _)⟩
  | n + 1 => by
    obtain ⟨h1, h2⟩ := unkn_stored kvs k v n
    have e : (valueAt (stored kvs (k : Int) v) (n : Int)).isSome = true ↔ (n : Int) = k ∨ (valueAt kvs (n : Int)).isSome = true := hasK_stored
    unfold unkn
    by_cases hn : (valueAt kvs (n : Int)).isSome = true
    · rw [if_pos (e.mpr (.inr hn)), if_pos hn]
      refine ⟨by omega, fun hk hu => ?_⟩
      have : k ≠ n := fun x => hu (by subst x; exact hn)
      have := h2 (by omega) hu
      omega
    · rw [if_neg hn]
      by_cases hk : n = k
      · subst hk
        rw [if_pos (e.mpr (.inl rfl))]
        exact ⟨by omega, fun _ _ => by omega⟩
      · rw [if_neg (fun x => (e.mp x).elim (fun y => hk (by omega)) hn)]
        refine ⟨by omega, fun h hu => ?_⟩
        have := h2 (by omega) hu
        omega
theorem stored_old_len {kvs : List (Int × Value)} {k : Int} {v : Value} (h : (valueAt kvs k).isSome = true) : (stored kvs k v).length = kvs.length := by
  unfold stored
  split
  · simp
  · rename_i hn
    exfalso
    apply hn
    unfold valueAt at h
    rw [Option.isSome_map, List.find?_isSome] at h
    exact List.any_eq_true.mpr h
theorem GoodK.store {ρ : Nat → Bool} {C : List Gate} {kvs : List (Int × Value)} {k : Nat} (G : GoodK ρ C kvs) (hk : k < C.length) : GoodK ρ C (stored kvs (k : Int) (.bool (lv (tvs ρ C) (k : Int)))) where
  one := hasK_stored.mpr (.inr G.one)
  val := fun i v h => by
    rw [valueAt_stored] at h
    by_cases e : (i : Int) = k
    · rw [if_pos e] at h
      rw [e]; exact (Option.some.inj h).symm
    · rw [if_neg e] at h; exact G.val i v h
  cnt := by
    have h := unkn_stored kvs k (.bool (lv (tvs ρ C) (k : Int))) C.length
    have c := G.cnt
    by_cases hu : HasK kvs k
    · rw [stored_old_len hu]
      have := h.1
      omega
    · have := h.2 hk hu
      have := stored_len kvs (k : Int) (.bool (lv (tvs ρ C) (k : Int)))
      omega
theorem StepK.good {ρ : Nat → Bool} {C : List Gate} {k1 k2 : List (Int × Value)} {s1 s2 : List Nat} (h : StepK ρ C k1 s1 k2 s2) (G : GoodK ρ C k1) : GoodK ρ C k2 := by
  cases h with
  | grow => exact G
  | inp st i h => exact G.store (List.getElem?_eq_some_iff.mp h).1
  | old => exact G
  | and st i ps h => exact G.store (List.getElem?_eq_some_iff.mp h).1
/-- what the run of one stack entry does -/
def DoneK (ρ : Nat → Bool) (C : List Gate) (B : Nat) (kvs : List (Int × Value)) (st more : List Nat) : Prop :=
  ∃ n kvs', RunK ρ C B n kvs (st ++ more) kvs' st ∧ GoodK ρ C kvs' ∧ (∀ k, HasK kvs k → HasK kvs' k) ∧ ∀ i ∈ more, HasK kvs' i
theorem DoneK.all {ρ : Nat → Bool} {C : List Gate} {B b : Nat} (one : ∀ i, 1 ≤ i → i < b → ∀ kvs st, GoodK ρ C kvs → st.length + 2 * i ≤ B → DoneK ρ C B kvs st [i]) : ∀ l : List Nat, (∀ i ∈ l, 1 ≤ i ∧ i < b) → ∀ kvs st, GoodK ρ C kvs → st.length + l.length + 2 * (b - 1) ≤ B + 1 → DoneK ρ C B kvs st l := by
  intro l
  refine snocRec (P := fun l => (∀ i ∈ l, 1 ≤ i ∧ i < b) → ∀ kvs st, GoodK ρ C kvs → st.length + l.length + 2 * (b - 1) ≤ B + 1 → DoneK ρ C B kvs st l) ?_ ?_ l
  · intro _ kvs st G _
    exact ⟨0, kvs, by rw [List.append_nil]; exact .zero _ _, G, fun _ h => h, fun i hi => nomatch hi⟩
  · intro l a ih hl kvs st G hB
    have ha := hl a (by simp)
    simp only [List.length_append, List.length_singleton] at hB
    obtain ⟨n1, k1, r1, g1, m1, d1⟩ := one a ha.1 ha.2 kvs (st ++ l) G (by simp only [List.length_append]; omega)
    obtain ⟨n2, k2, r2, g2, m2, d2⟩ := ih (fun i hi => hl i (by simp [hi])) k1 st g1 (by omega)
    obtain ⟨n, r⟩ := r1.trans r2
    refine ⟨n, k2, by rw [← List.append_assoc]; exact r, g2, fun k h => m2 k (m1 k h), fun i hi => ?_⟩
    rcases List.mem_append.mp hi with h | h
    · exact d2 i h
    · exact m2 i (d1 i h)
theorem missK_len {kvs : List (Int × Value)} {ps : List Int} : (missK kvs ps).length ≤ ps.length := by
  unfold missK
  exact Nat.le_trans (List.length_filter_le _ _) (by simp)
theorem missK_none {kvs : List (Int × Value)} {ps : List Int} (h : ∀ p ∈ ps, HasK kvs p.natAbs) : missK kvs ps = [] := by
  unfold missK
  rw [List.filter_eq_nil_iff]
  intro i hi
  obtain ⟨p, hp, rfl⟩ := List.mem_map.mp hi
  have := h p hp
  unfold HasK at this
  simp [this]
theorem run_gate {ρ : Nat → Bool} {n B : Nat} {C : List Gate} (W : WFC n C) : ∀ i, 1 ≤ i → i < C.length → ∀ kvs st, GoodK ρ C kvs → st.length + 2 * i ≤ B → DoneK ρ C B kvs st [i] := by
  intro i
  induction i using Nat.strongRecOn with
  | ind i IH =>
    intro h1 hi kvs st G hB
    have hg := List.getElem?_eq_getElem hi
    have step1 : ∀ {k'}, StepK ρ C kvs (st ++ [i]) k' st → (∀ k, HasK kvs k → HasK k' k) → HasK k' i → DoneK ρ C B kvs st [i] := fun s hm hk => ⟨1, _, .succ s (by omega) (.zero _ _), s.good G, hm, fun j hj => by rw [List.mem_singleton.mp hj]; exact hk⟩
    cases e : C[i] with
    | inp =>
      rw [e] at hg
      exact step1 (.inp kvs st i hg) (fun k h => hasK_stored.mpr (.inr h)) (hasK_stored.mpr (.inl rfl))
    | dummy =>
      rw [e] at hg
      have : i ≠ 0 := by omega
      by_cases hk : HasK kvs i
      · exact step1 (.old kvs st i _ hg (by simp) hk) (fun k h => h) hk
      · exfalso
        by_cases h2 : i < n + 2
        · by_cases h3 : i = 1
          · subst h3; exact hk G.one
          · rw [W.ci i (by omega) h2] at hg; cases hg
        · obtain ⟨ps, x⟩ := W.ca i _ (by omega) hg; cases x
    | tru =>
      rw [e] at hg
      by_cases hk : HasK kvs i
      · exact step1 (.old kvs st i _ hg (by simp) hk) (fun k h => h) hk
      · exfalso
        by_cases h2 : i < n + 2
        · by_cases h3 : i = 1
          · subst h3; exact hk G.one
          · rw [W.ci i (by omega) h2] at hg; cases hg
        · obtain ⟨ps, x⟩ := W.ca i _ (by omega) hg; cases x
    | and ps =>
      rw [e] at hg
      obtain ⟨h2, hok⟩ : ps.length ≤ 2 ∧ ∀ p ∈ ps, LitIn i p := W.ok i _ hg
      have hml := missK_len (kvs := kvs) (ps := ps)
      by_cases hk : HasK kvs i
      · exact step1 (.old kvs st i _ hg (by simp) hk) (fun k h => h) hk
      · by_cases hm : missK kvs ps = []
        · exact step1 (.and kvs st i ps hg hk hm) (fun k h => hasK_stored.mpr (.inr h)) (hasK_stored.mpr (.inl rfl))
        · have hmem : ∀ j ∈ missK kvs ps, 1 ≤ j ∧ j < i := fun j hj => by
            obtain ⟨p, hp, rfl⟩ := List.mem_map.mp (List.mem_filter.mp hj).1
            exact hok p hp
          obtain ⟨n1, k1, r1, g1, m1, d1⟩ := DoneK.all (B := B) (fun j a b k s G => IH j b a (by omega) k s G) _ hmem kvs (st ++ [i]) G (by simp only [List.length_append, List.length_singleton]; omega)
          have hall : ∀ p ∈ ps, HasK k1 p.natAbs := fun p hp => by
            by_cases h : HasK kvs p.natAbs
            · exact m1 _ h
            · exact d1 _ (List.mem_filter.mpr ⟨List.mem_map_of_mem hp, by unfold HasK at h; simpa using h⟩)
          have hne : 1 ≤ (missK kvs ps).length := by cases h : missK kvs ps with | nil => exact absurd h hm | cons a r => simp
          have hi2 : 2 ≤ i := by
            cases h : missK kvs ps with
            | nil => exact absurd h hm
            | cons a r => have := hmem a (by rw [h]; exact .head _); omega
          have b0 : (st ++ [i] ++ missK kvs ps).length ≤ B := by simp only [List.length_append, List.length_singleton]; omega
          have s0 : StepK ρ C kvs (st ++ [i]) kvs (st ++ [i] ++ missK kvs ps) := .grow kvs st i ps hg hk hm
          by_cases hk1 : HasK k1 i
          · obtain ⟨m, r⟩ := (RunK.succ s0 b0 r1).trans (.succ (.old k1 st i _ hg (by simp) hk1) (by omega) (.zero _ _))
            exact ⟨m, k1, r, g1, m1, fun j hj => by rw [List.mem_singleton.mp hj]; exact hk1⟩
          · have s1 : StepK ρ C k1 (st ++ [i]) _ st := .and k1 st i ps hg hk1 (missK_none hall)
            obtain ⟨m, r⟩ := (RunK.succ s0 b0 r1).trans (.succ s1 (by omega) (.zero _ _))
            exact ⟨m, _, r, s1.good g1, fun k h => hasK_stored.mpr (.inr (m1 k h)), fun j hj => by rw [List.mem_singleton.mp hj]; exact hasK_stored.mpr (.inl rfl)⟩
theorem good_start {ρ : Nat → Bool} {n : Nat} {C : List Gate} (W : WFC n C) : GoodK ρ C [(1, .bool true)] where
  one := by simp [HasK, valueAt]
  val := fun i v h => by
    unfold valueAt at h
    by_cases e : i = 1
    · subst e
      have := lv_one ρ W
      simp at h
      rw [← h]
      exact congrArg Value.bool this.symm
    · have : decide ((1 : Int) = (i : Int)) = false := by simp; omega
      simp only [List.find?_cons, this, List.find?_nil] at h
      cases h
  cnt := by
    have h : ∀ m, unkn [(1, Value.bool true)] m ≤ m := by
      intro m
      induction m with
      | zero => exact Nat.le_refl _
      | succ m ih => unfold unkn; split <;> omega
    have := h C.length
    simp
    omega
section
open LCg LCt
variable {prog : Program} {w : World} {A : Around} {E : Value → Shared → Prop} {s : Shared} {h₀ : Heap} {L : Addr} {m : Str → Option Value} {env : Env} {ct elt : Expr} {x y : Str} {scope : Scope} {cl : List (Str × Addr)}
/-- a tuple of the ledger -/
def TupAt (ax : Addr) (its : Array Value) (news : List (Addr × Obj)) : Prop := ∃ o, (ax, o) ∈ news ∧ o.cls = .type "tuple" ∧ ∃ n, o.data = .seq its n
theorem TupAt.isT {h : Heap} {ax : Addr} {its : Array Value} {news : List (Addr × Obj)} (x : TupAt ax its news) (N : News h₀ L h news) : h.IsTuple ax its :=
  let ⟨o, hm, r⟩ := x; ⟨o, (N _ hm).1, r⟩
theorem tup_st {ax I : Addr} {its : Array Value} : ∀ i (h h' : Heap) (o : Obj) (nw : List (Addr × Obj)), (h.IsTupleIter I ax i ∧ h.IsTuple ax its) → h.get? I = some o → h'.get? I = some o → (∀ b o, h₀.get? b = some o → h'.get? b = some o) → News h₀ L h' nw → TupAt ax its nw → (h'.IsTupleIter I ax i ∧ h'.IsTuple ax its) :=
  fun i h h' o nw st e e' _ N S => ⟨by obtain ⟨o', q, r⟩ := st.1; rw [e] at q; cases q; exact ⟨o, e', r⟩, S.isT N⟩
theorem tup_start {H : Heap} {ax : Addr} {its : Array Value} (ht : H.IsTuple ax its) : let H' := H.push { cls := .type "tuple_iterator", data := .fields #[.ref ax, .int 0 0] }
    H'.IsTupleIter H.objs.size ax 0 ∧ H'.IsTuple ax its := ⟨⟨_, Heap.get?_push_size _ rfl, rfl, rfl⟩, ht.push _⟩
theorem tup_below {H : Heap} {ax : Addr} {o : Obj} (hlt : ax < H.objs.size) : ∀ b ∈ [H.objs.size, ax], b < (H.push o).objs.size := fun b hb => by
  rw [Heap.size_push]
  rcases List.mem_cons.mp hb with rfl | hb
  · exact Nat.lt_succ_self _
  · rw [List.mem_singleton.mp hb]; exact Nat.lt_succ_of_lt hlt
/-- a comprehension over a tuple -/
theorem comp_tup {iter : Expr} {px : Pos} {pos : Pos} {Q : Value → Shared → Prop} (_F₀ : Fr h₀ L s.heap m)
    (hclos : closureFor scope env = pure cl) (hcell : ∀ y ∈ scope.names, y.2 ≠ .cell) (hkind : scope.kind = .function)
    (hnames : ∀ y ∈ scope.names, y.2 = .local → scope.names.lookup y.1 = some .local) (hx : scope.names.lookup x = some .local)
    (h : wpAny (model prog w) A (eval iter env) (fun xv s₁ => ∃ ax its news, xv = .ref ax ∧ A.handled = none ∧ Fr h₀ L s₁.heap m ∧ News h₀ L s₁.heap news ∧ TupAt ax its news ∧ its.size ≤ 1000 ∧
      ∀ g, CompRest prog w A h₀ L m env elt x scope cl { s₁ with heap := g } (TupAt ax its) (fun i v => its[i]? = some v) (FinE h₀ L m { s₁ with heap := g } Q) its.size 0 [] news) E s)
    (hs : ∀ x, foldedSetIterable iter env x = pure x := by intro _; rfl) :
    wpAny (model prog w) A (eval (.ListComp elt [⟨.Name x px, iter, [], 0⟩] scope pos) env) Q E s := by
  rw [eval_ListComp]
  refine wpAny_comprehension_free (use := none) rfl hs hclos hkind hnames (wpAny_mono h (fun xv s₁ h₁ => ?_) fun _ _ e => e)
  obtain ⟨ax, its, news, rfl, hh, F, N, S, hsz, R⟩ := h₁
  have hl := S.isT N
  have hlt : ax < s₁.heap.objs.size := by obtain ⟨_, e, _⟩ := hl; exact Heap.lt_size e
  refine wpAny_pyIter_tuple hl ?_
  have up : ∀ b o, s₁.heap.get? b = some o → (s₁.heap.push { cls := .type "tuple_iterator", data := .fields #[.ref ax, .int 0 0] }).get? b = some o := fun b o e => Heap.get?_push_of_some _ e
  refine block_U (Walks.tuple hh s₁.heap.objs.size ax (Nat.ne_of_lt hlt) its) (Nat.le_trans hsz (by unfold sizeLine; omega)) (fun i h st => by obtain ⟨o, e, _⟩ := st.1; exact ⟨o, e⟩) tup_st hcell hkind hx (tup_start hl) (tup_below hlt)
    (F.keeps up) (N.grown up) (Nat.ne_of_lt F.ns.lt) (next_is_new F) (fun p hp => Nat.ne_of_lt (Heap.lt_size (N p hp).1)) S (R _) ?_
  intro D C h tk m' ys news' F' N' o1 hn hC₀ hD₀ hCL hDL hCD offC fin
  refine ⟨m', hn, fun h'' hs'' => fin D h'' tk (F'.change hs'' hCL hC₀) (fun p hp => ?_) o1⟩
  refine ⟨hs''.extBut _ _ ?_ (N' p hp).1, (N' p hp).2⟩
  rcases List.mem_cons.mp hp with rfl | hp
  · exact Ne.symm hCD
  · exact offC p hp
/-- a comprehension with a test over a tuple, stored in a name -/
theorem assign_comp_tup {iter : Expr} {px py : Pos} {pos spos : Pos} {Q : Flow → Shared → Prop} (_F₀ : Fr h₀ L s.heap m) (hLe : env.locals = L)
    (hsw : swapsWith (.ListComp elt [⟨.Name x px, iter, [ct], 0⟩] scope pos) (some (.Name y py)) spos.line env = pure true)
    (hclos : closureFor scope env = pure cl) (hcell : ∀ z ∈ scope.names, z.2 ≠ .cell) (hkind : scope.kind = .function)
    (hnames : ∀ z ∈ scope.names, z.2 = .local → scope.names.lookup z.1 = some .local) (hx : scope.names.lookup x = some .local)
    (hy : env.kindOf y = some .local) (hp : (env.scope.kind == .class || (env.scope.kind == .module && env.locals != env.globals)) = false)
    (h : wpAny (model prog w) A (eval iter env) (fun xv s₁ => ∃ ax its news, xv = .ref ax ∧ A.handled = none ∧ Fr h₀ L s₁.heap m ∧ News h₀ L s₁.heap news ∧ TupAt ax its news ∧ its.size ≤ 1000 ∧
      ∀ g, CompRestT prog w A h₀ L m env ct elt x scope cl { s₁ with heap := g } (TupAt ax its) (fun i v => its[i]? = some v) (FinA h₀ L m { s₁ with heap := g } y Q) its.size 0 [] news) E s)
    (hs : ∀ x, foldedSetIterable iter env x = pure x := by intro _; rfl) :
    wpAny (model prog w) A (exec (.Assign [.Name y py] (.ListComp elt [⟨.Name x px, iter, [ct], 0⟩] scope pos) spos) env) Q E s := by
  clear _F₀
  subst hLe
  rw [exec_Assign_Name_used _ _ _ _ hsw]
  refine wpAny_bind (wpAny_standAt (wpAny_bind ?_))
  show wpAny _ A (do let _ ← comprehension (.ListComp elt [⟨.Name x px, iter, [ct], 0⟩] scope pos) scope env _ (newList []) false (eval iter env) (some (assign (.Name y py) env))) _ _ s
  refine wpAny_bind (wpAny_mono (wpAny_comprehension_free (use := some (assign (.Name y py) env)) (Q := fun _ s' => Q .next s') rfl hs hclos hkind hnames
    (wpAny_mono h (fun xv s₁ h₁ => ?_) fun _ _ e => e)) (fun _ s' hq => wpAny_pure (wpAny_pure hq)) fun _ _ e => e)
  obtain ⟨ax, its, news, rfl, hh, F, N, S, hsz, R⟩ := h₁
  have hl := S.isT N
  have hlt : ax < s₁.heap.objs.size := by obtain ⟨_, e, _⟩ := hl; exact Heap.lt_size e
  refine wpAny_pyIter_tuple hl ?_
  have up : ∀ b o, s₁.heap.get? b = some o → (s₁.heap.push { cls := .type "tuple_iterator", data := .fields #[.ref ax, .int 0 0] }).get? b = some o := fun b o e => Heap.get?_push_of_some _ e
  refine block_T (Walks.tuple hh s₁.heap.objs.size ax (Nat.ne_of_lt hlt) its) (Nat.le_trans hsz (by unfold sizeLine; omega)) (fun i h st => by obtain ⟨o, e, _⟩ := st.1; exact ⟨o, e⟩) tup_st hcell hkind hx (tup_start hl) (tup_below hlt)
    (F.keeps up) (N.grown up) (Nat.ne_of_lt F.ns.lt) (next_is_new F) (fun p hp => Nat.ne_of_lt (Heap.lt_size (N p hp).1)) S (R _) ?_
  intro D C h' tk m' ys news' F' N' o1 hn hC₀ hD₀ hCL hDL hCD offC fin
  show wpAny _ A (assign (.Name y py) env (.ref D)) _ _ _
  refine wpAny_assign_Name (wpAny_storeName_local hy F'.ns (fun h₂ hn₂ hs₂ => ?_) hp)
  have hL₀ : h₀.get? env.locals = none := Heap.get?_none_of_le F'.above
  have F₂ : Fr h₀ env.locals h₂ (fun z => if z = y then some (.ref D) else m z) := ⟨hn₂, fun b o e => hs₂.extBut b o (fun q => by rw [q, hL₀] at e; cases e) (F'.keep b o e), F'.above⟩
  refine ⟨m', hn.sameBut hs₂ hCL, fun h'' hs'' => fin D h'' _ (F₂.change hs'' hCL hC₀) (fun p hp => ?_) o1⟩
  have z : h₂.get? p.1 = some p.2 := hs₂.extBut _ _ (N' p hp).2.1 (N' p hp).1
  refine ⟨hs''.extBut _ _ ?_ z, (N' p hp).2⟩
  rcases List.mem_cons.mp hp with rfl | hp
  · exact Ne.symm hCD
  · exact offC p hp
end
section
variable {prog : Program} {w : World} {A : Around} {E : Value → Shared → Prop} {s : Shared} {h₀ : Heap} {L l b : Addr} {m : Str → Option Value} {news news' : List (Addr × Obj)} {vs us : List Value} {n n2 : Nat}
theorem item_neg {value slice : PySem.Expr} {k : Int} {u : Tok} {v : Value} {Q : Value → Shared → Prop} (N : News h₀ L s.heap news) (hl : (l, listOf vs.toArray n) ∈ news)
    (hx : vs[(k + (vs.length : Int)).toNat]? = some v) (h0 : k < 0) (h1 : -(vs.length : Int) ≤ k) (h2 : -(2 ^ 63) ≤ k) (h : Q v s)
    (hs : subscripted slice false (.ref l) (.int k u) = operate [.ref l, .int k u] (getItem (.ref l) (.int k u)) := by with_unfolding_all rfl) :
    wpAny (model prog w) A (subscriptTail value slice (.ref l) (.int k u)) Q E s :=
  tail_any (News.isList N hl).typeIs slot_list_getitem.lookup (wpAny_getItem_list_neg (News.isList N hl) h0 (by simpa using h1) h2 (by simpa using hx) h) hs
theorem pop_U {v : Value} {Q : Value → Shared → Prop} (F : Fr h₀ L s.heap m) (N : News h₀ L s.heap news) (U : Upd l (listOf (vs ++ [v]).toArray n) (listOf vs.toArray (n + 1)) news news') (hz : vs.length ≤ 1000000)
    (h : ∀ h', Fr h₀ L h' m → News h₀ L h' news' → Q v { s with heap := h' }) : wpAny (model prog w) A (call (.builtin "list.pop") [.ref l]) Q E s :=
  kl_pop F N (p := vs) (y := v) (by simpa using kpa_last v vs) U (by simp; unfold sizeLine; omega) h
theorem extend_U {Q : Value → Shared → Prop} (F : Fr h₀ L s.heap m) (N : News h₀ L s.heap news) (hb : (b, listOf us.toArray n2) ∈ news) (hne : us.length ≠ 0)
    (U : Upd l (listOf vs.toArray n) (listOf (vs ++ us).toArray (n + 1)) news news') (hz : vs.length ≤ 1000000) (hz2 : us.length ≤ 1000000)
    (h : ∀ h', Fr h₀ L h' m → News h₀ L h' news' → Q .none { s with heap := h' }) : wpAny (model prog w) A (call (.builtin "list.extend") [.ref l, .ref b]) Q E s :=
  kl_extend F N hb (by simp) (by simpa using hne) U (by simp [Builtin.List.listTooLong]; intro _; unfold sizeLine; omega) (by simp; unfold sizeLine; omega) (by simp; unfold sizeLine; omega) h
end
abbrev readD (e1 : Int) (t1 : Tok) (c : Addr) : Obj := dictOf [⟨e1, .str (Str.ofString "circuit") t1, .ref c⟩] 1
def natI (l : List Nat) : List Int := l.map fun i : Nat => (i : Int)
theorem ints_unsnoc {us : List Value} {l : List Int} {x : Int} (h : IntsAre us (l ++ [x])) : ∃ vs t, us = vs ++ [.int x t] ∧ IntsAre vs l := by
  obtain ⟨y, t, a, b, c⟩ := kpa_ints h (by rw [h.length]; simp)
  refine ⟨us.dropLast, t, ?_, by simpa using c⟩
  rw [a, b]
  simp
theorem ints_append : ∀ {us vs : List Value} {a b : List Int}, IntsAre us a → IntsAre vs b → IntsAre (us ++ vs) (a ++ b)
  | _, _, _, _, .nil, h => h
  | _, _, _, _, .cons c t r, h => .cons c t (ints_append r h)
/-- the frame of value_of -/
structure VFr (rd ta l : Addr) (g : Int) (tg : Tok) (m : Str → Option Value) : Prop where
  self : m (Str.ofString "self") = some (.ref rd)
  inputs : m (Str.ofString "inputs") = some (.ref ta)
  g : m (Str.ofString "g") = some (.int g tg)
  stack : m (Str.ofString "stack") = some (.ref l)
inductive JVal (w : World) (ρ : Nat → Bool) (C : List Gate) (B : Nat) (kvF : List (Int × Value)) (d l L1 : Addr) (oc : Obj) (rd ta : Addr) (g : Int) (tg : Tok) (base : List (Addr × Obj)) (n : Nat) (mm : Str → Option Value) (nx : List (Addr × Obj)) : Prop
  | mk (kvs : List (Int × Value)) (st : List Nat) (od : Obj) (svs : List Value) (k : Nat) (hn : nx = (l, listOf svs.toArray k) :: (d, od) :: (L1, oc) :: base) (ho : od.IsDictOf (intKind PySem.Challenge.rw_nz0381_01.prog w) kvs) (hI : IntsAre svs (natI st)) (G : GoodK ρ C kvs) (hB : st.length ≤ B)
      (R : RunK ρ C B n kvs st kvF []) (hm : VFr rd ta l g tg mm) : JVal w ρ C B kvF d l L1 oc rd ta g tg base n mm nx
theorem StepK.top {ρ : Nat → Bool} {C : List Gate} {k1 k2 : List (Int × Value)} {s1 s2 : List Nat} (h : StepK ρ C k1 s1 k2 s2) : ∃ st i g, s1 = st ++ [i] ∧ C[i]? = some g ∧
    ((∃ ps, g = .and ps ∧ ¬ HasK k1 i ∧ missK k1 ps ≠ [] ∧ k2 = k1 ∧ s2 = st ++ [i] ++ missK k1 ps) ∨ ((HasK k1 i ∨ missK k1 g.parts = []) ∧ s2 = st ∧
      ((g = .inp ∧ k2 = stored k1 (i : Int) (.bool (lv (tvs ρ C) (i : Int)))) ∨ (g ≠ .inp ∧ HasK k1 i ∧ k2 = k1) ∨ ((∃ ps, g = .and ps) ∧ ¬ HasK k1 i ∧ k2 = stored k1 (i : Int) (.bool (lv (tvs ρ C) (i : Int))))))) := by
  cases h with
  | grow st i ps h hu hm => exact ⟨st, i, _, rfl, h, .inl ⟨ps, rfl, hu, hm, rfl, rfl⟩⟩
  | inp st i h => exact ⟨s2, i, _, rfl, h, .inr ⟨.inr rfl, rfl, .inl ⟨rfl, rfl⟩⟩⟩
  | old st i g h hg hk => exact ⟨s2, i, _, rfl, h, .inr ⟨.inl hk, rfl, .inr (.inl ⟨hg, hk, rfl⟩)⟩⟩
  | and st i ps h hu hm => exact ⟨s2, i, _, rfl, h, .inr ⟨.inr hm, rfl, .inr (.inr ⟨⟨ps, rfl⟩, hu, rfl⟩)⟩⟩
inductive JMiss (kvs : List (Int × Value)) (ps : List Int) (base : List (Addr × Obj)) (i : Nat) (ys : List Value) (nx : List (Addr × Obj)) : Prop
  | mk (hn : nx = base) (hI : IntsAre ys (natI (missK kvs (ps.take i)))) : JMiss kvs ps base i ys nx
theorem missK_succ {kvs : List (Int × Value)} {ps : List Int} {j : Nat} {x : Int} (h : ps[j]? = some x) : missK kvs (ps.take (j + 1)) = missK kvs (ps.take j) ++ (if (valueAt kvs ((x.natAbs : Nat) : Int)).isSome then [] else [x.natAbs]) := by
  obtain ⟨hj, rfl⟩ := List.getElem?_eq_some_iff.mp h
  unfold missK
  rw [List.take_succ_eq_append_getElem hj, List.map_append, List.filter_append]
  congr 1
  simp only [List.map_cons, List.map_nil, List.filter_cons, List.filter_nil]
  cases (valueAt kvs ((ps[j].natAbs : Nat) : Int)).isSome <;> simp
theorem abs_nat (x : Int) : (if x < 0 then -x else x) = ((x.natAbs : Nat) : Int) := by split <;> omega
inductive JAll (ρ : Nat → Bool) (C : List Gate) (ps : List Int) (base : List (Addr × Obj)) (i : Nat) (ys : List Value) (nx : List (Addr × Obj)) : Prop
  | mk (hn : nx = base) (hI : LSm.BoolsAre ys ((ps.take i).map fun p => lv (tvs ρ C) p)) : JAll ρ C ps base i ys nx
theorem bools_snoc {ys : List Value} {bs : List Bool} (h : LSm.BoolsAre ys bs) (b : Bool) : LSm.BoolsAre (ys ++ [.bool b]) (bs ++ [b]) := by
  induction h with
  | nil => exact .cons b .nil
  | cons c _ ih => exact .cons c ih
theorem take_map_succ {α β : Type} {l : List α} {j : Nat} {x : α} (h : l[j]? = some x) (f : α → β) : (l.take (j + 1)).map f = (l.take j).map f ++ [f x] := by
  obtain ⟨hj, rfl⟩ := List.getElem?_eq_some_iff.mp h
  rw [List.take_succ_eq_append_getElem hj, List.map_append]
  rfl
theorem all_id {l : List Int} {f : Int → Bool} : (l.map f).all id = l.all f := by
  induction l with
  | nil => rfl
  | cons x r ih => simp [ih]
theorem lv_abs {acc : List Bool} {x : Int} (h : 1 ≤ x.natAbs) : (lv acc ((x.natAbs : Nat) : Int) == decide (0 < x)) = lv acc x := by
  unfold lv
  rw [if_pos (by omega), Int.natAbs_natCast]
  by_cases h0 : 0 < x
  · rw [if_pos h0, decide_eq_true h0]; simp
  · rw [if_neg h0, decide_eq_false h0]; simp
theorem last_at {vs : List Value} {v : Value} : (vs ++ [v])[((-1 : Int) + ((vs ++ [v]).length : Int)).toNat]? = some v := by
  have e : ((-1 : Int) + ((vs ++ [v]).length : Int)).toNat = vs.length := by simp; omega
  rw [e, List.getElem?_append_right (Nat.le_refl _), Nat.sub_self]
  rfl
theorem last_lo {vs : List Value} {v : Value} : -((vs ++ [v]).length : Int) ≤ (-1 : Int) := by simp; omega
theorem parts_two {n : Nat} {C : List Gate} {i : Nat} {g : Gate} (W : WFC n C) (h : C[i]? = some g) : g.parts.length ≤ 2 := by
  have := W.ok i g h
  cases g with
  | and ps => exact this.1
  | dummy => simp [Gate.parts]
  | tru => simp [Gate.parts]
  | inp => simp [Gate.parts]
theorem JMiss.yes {kvs : List (Int × Value)} {ps : List Int} {base : List (Addr × Obj)} {j : Nat} {ys : List Value} {x : Int} {t : Tok} (hI : IntsAre ys (natI (missK kvs (ps.take j)))) (hx : ps[j]? = some x) (h : (valueAt kvs ((x.natAbs : Nat) : Int)).isSome = false) :
    JMiss kvs ps base (j + 1) (ys ++ [.int ((x.natAbs : Nat) : Int) t]) base := ⟨rfl, by
  rw [missK_succ hx, h]
  simp only [natI, List.map_append, Bool.false_eq_true, if_false]
  exact ints_snoc hI⟩
theorem JMiss.no {kvs : List (Int × Value)} {ps : List Int} {base : List (Addr × Obj)} {j : Nat} {ys : List Value} {x : Int} (hI : IntsAre ys (natI (missK kvs (ps.take j)))) (hx : ps[j]? = some x) (h : (valueAt kvs ((x.natAbs : Nat) : Int)).isSome = true) :
    JMiss kvs ps base (j + 1) ys base := ⟨rfl, by rw [missK_succ hx, h]; simpa using hI⟩
inductive IfNo (h₀ : Heap) (L : Addr) (m : Str → Option Value) (led : List (Addr × Obj)) (s : Shared) : Bool → Shared → Prop
  | mk (h : Heap) (tk : Nat) (F : Fr h₀ L h m) (N : News h₀ L h led) : IfNo h₀ L m led s false { s with heap := h, toks := tk }
theorem natI_append (a b : List Nat) : natI (a ++ b) = natI a ++ natI b := List.map_append
theorem inp_val {ρ : Nat → Bool} {n : Nat} {C : List Gate} {i : Nat} (W : WFC n C) (h : C[i]? = some .inp) : 2 ≤ i ∧ i - 2 < n ∧ lv (tvs ρ C) (i : Int) = ρ (i - 2) := by
  have h2 : 2 ≤ i := by
    rcases Nat.lt_or_ge i 2 with h2 | h2
    · have : i = 0 ∨ i = 1 := by omega
      rcases this with rfl | rfl
      · rw [W.c0] at h; cases h
      · rw [W.c1] at h; cases h
    · exact h2
  have hn : i < n + 2 := by
    rcases Nat.lt_or_ge i (n + 2) with h3 | h3
    · exact h3
    · obtain ⟨ps, e⟩ := W.ca i _ h3 h; cases e
  have hl := (List.getElem?_eq_some_iff.mp h).1
  refine ⟨h2, by omega, ?_⟩
  rw [lv_nat ρ (by omega) h]
  simp [gv, tvs_len, Nat.min_eq_left (Nat.le_of_lt hl)]
theorem and_val {ρ : Nat → Bool} {n : Nat} {C : List Gate} {i : Nat} {ps : List Int} (W : WFC n C) (h : C[i]? = some (.and ps)) : lv (tvs ρ C) (i : Int) = ps.all (lv (tvs ρ C)) := by
  have h1 : 1 ≤ i := by
    rcases Nat.lt_or_ge i 1 with h2 | h2
    · have : i = 0 := by omega
      subst this
      rw [W.c0] at h; cases h
    · exact h2
  have hl := (List.getElem?_eq_some_iff.mp h).1
  rw [lv_nat ρ h1 h]
  exact all_cong fun p hp => lv_take _ (Nat.le_of_lt hl) ((W.ok _ _ h).2 p hp)
theorem kind_ne {g : Gate} (h : g ≠ .inp) : (g.kindS == Str.ofString "input") = false := by
  cases g with
  | inp => exact absurd rfl h
  | dummy => decide
  | tru => decide
  | and ps => show (Str.ofString "and" == Str.ofString "input") = false; decide
theorem missK_all {kvs : List (Int × Value)} {ps : List Int} (h : missK kvs ps = []) : ∀ p ∈ ps, HasK kvs p.natAbs := fun p hp => by
  unfold missK at h
  rw [List.filter_eq_nil_iff] at h
  have := h _ (List.mem_map_of_mem hp)
  unfold HasK
  cases e : (valueAt kvs ((p.natAbs : Nat) : Int)).isSome with
  | true => rfl
  | false => rw [e] at this; simp at this
theorem known_abs {ρ : Nat → Bool} {C : List Gate} {kvs : List (Int × Value)} {x : Int} (G : GoodK ρ C kvs) (h : HasK kvs x.natAbs) : valueAt kvs (if x < 0 then -x else x) = some (.bool (lv (tvs ρ C) ((x.natAbs : Nat) : Int))) := by
  rw [abs_nat]
  obtain ⟨v, hv⟩ := Option.isSome_iff_exists.mp h
  rw [hv, G.val _ _ hv]
theorem JAll.step {ρ : Nat → Bool} {C : List Gate} {ps : List Int} {base : List (Addr × Obj)} {j : Nat} {ys : List Value} {x : Int} {b : Bool} (h : LSm.BoolsAre ys ((ps.take j).map fun p => lv (tvs ρ C) p)) (hx : ps[j]? = some x) (hb : b = lv (tvs ρ C) x) : JAll ρ C ps base (j + 1) (ys ++ [.bool b]) base :=
  ⟨rfl, by rw [take_map_succ hx, hb]; exact bools_snoc h _⟩
theorem value_spec (w : World) (news : List (Addr × Obj)) (rd dr c ta : Addr) (ot : Obj) (tkv : List (Int × Value)) (e1 : Int) (t1 : Tok) (C : List Gate) (n : Nat) (ρ : Nat → Bool) (g : Int) (tg : Tok) (R : CirR news c C) (hsz : C.length ≤ 90000) (hW : WFC n C)
    (hrd : (rd, instObj 162 dr) ∈ news) (hdr : (dr, readD e1 t1 c) ∈ news) (hta : (ta, ot) ∈ news) (hlo : (ta == sysModules) = false) (hot : ot.IsDictOf (intKind PySem.Challenge.rw_nz0381_01.prog w) tkv) (htk : ∀ i, i < n → valueAt tkv ((i + 2 : Nat) : Int) = some (.bool (ρ i))) (hg : LitIn C.length g) :
    Reads w 2 159 [.ref rd, .int g tg, .ref ta] news (fun r => r = .bool (lv (tvs ρ C) g)) := by
  have R' := R
  obtain ⟨dc, kl, pl, kd, f1, f2, f3, t2, t3, t4, kvz, pvz, nkz, npz, hcc, hcd, hklz, hplz, klenz, plenz, kindz, partz⟩ := R'
  unfold Reads
  k_fill
  intro dp un gd cn cs a ccd cl outer A₀ base h₀ L m s mean mg mb Q E B F X N T hk hd hu hret
  refine wpAny_call ?_
  k_dflt (walk_at "enterC")
  rename_i mm0 mc o1 d1
  replace d1 := cell_eq d1 (v' := none) ((hMC _).trans (by with_unfolding_all rfl))
  have r1 : mm0 (Str.ofString "self") = some (.ref rd) := (hM _).trans (by with_unfolding_all rfl)
  have r2 : mm0 (Str.ofString "inputs") = some (.ref ta) := (hM _).trans (by with_unfolding_all rfl)
  have r3 : mm0 (Str.ofString "g") = some (.int g tg) := (hM _).trans (by with_unfolding_all rfl)
  clear hM hMC
  have hofc : OwnOff news [L' + 1] := off_of_lt l1 (by simp)
  walk_at "go"
  unfold Stop
  k_fold
  rename_i h5 _ _ od lod hdd _ apd l2 _ _ D _ l3 _ _ oc hcell h6 F6 N6
  obtain ⟨d, hd0⟩ : ∃ d, d = h5.objs.size := ⟨_, rfl⟩
  rw [← hd0] at lod apd l2 l1 hcell N6
  clear hd0 l3 apd
  have hdc : @Ne Nat (L' + 1) d := Nat.ne_of_lt l2.1
  have hld : @Ne Nat d l' := Nat.ne_of_lt l1.1
  have hlc : @Ne Nat (L' + 1) l' := Nat.ne_of_lt l1.2.1
  have hoff : OwnOff news [l', d, L' + 1] := fun p hp b hb => by
    rcases List.mem_cons.mp hb with rfl | hb
    · exact fun e => allLt_notin l1.2.2 (e ▸ List.mem_map_of_mem hp)
    rcases List.mem_cons.mp hb with rfl | hb
    · exact fun e => allLt_notin l2.2 (e ▸ List.mem_map_of_mem hp)
    · exact hofc p hp b hb
  clear l1 l2
  replace N6 : News g' L' h6 ((l', listOf [Value.int (if g < 0 then -g else g) _].toArray 0) :: (d, od) :: (L' + 1, oc) :: news) := fun p hp => N6 p (.tail _ hp)
  have hdd' : od.IsDictOf (intKind PySem.Challenge.rw_nz0381_01.prog w) [(1, .bool true)] := hdd
  clear hdd
  obtain ⟨nR, kvF, hR, hG, _, hF⟩ := run_gate (B := 2 * C.length) (ρ := ρ) hW g.natAbs hg.1 hg.2 _ [] (good_start hW) (by have := hg.2; simp; omega)
  replace hF : HasK kvF g.natAbs := hF _ (.head _)
  have hTC : TupComp := ⟨⟩
  refine While_inv2 (JVal w ρ C (2 * C.length) kvF d l' (L' + 1) oc rd ta g tg news) (n₀ := nR) F6 N6 ⟨_, [g.natAbs], od, _, _, rfl, hdd', ?hI0, good_start hW, ?hB0, hR, ⟨r1, r2, r3, rfl⟩⟩ ?turn ?hE
  case hI0 => rw [abs_nat]; exact .cons _ _ .nil
  case hB0 => have := hg.2; simp; omega
  case hE => passes_own
  case turn =>
    rintro n1 mm _ h7 tk7 F7 N7 ⟨kvs, st, od, svs, k, rfl, ho, hI, G, hB, Rn, hm⟩
    have hsl : svs.length = st.length := by rw [hI.length]; simp [natI]
    have hms := hm.stack
    have hmself := hm.self
    have hminp := hm.inputs
    clear F6 N6 hdd' r1 r2 r3
    cases Rn with
    | zero =>
      obtain rfl : svs = [] := ints_nil hI
      have hmg := hm.g
      obtain ⟨vF, hvF⟩ := Option.isSome_iff_exists.mp hF
      obtain rfl := G.val _ _ hvF
      have hvF' : valueAt kvF (if g < 0 then -g else g) = some (.bool (lv (tvs ρ C) ((g.natAbs : Nat) : Int))) := by rw [abs_nat]; exact hvF
      walk_at "go"
      rename_i kF kN _ _
      exact hret _ _ _ kF (fun p hp => kN p (.tail _ (.tail _ (.tail _ hp)))) (congrArg Value.bool (lv_abs hg.1))
    | succ hst hB' Rn =>
      rename_i nn kvs' st'
      obtain ⟨st0, i, gt, rfl, hgt, hcase⟩ := hst.top
      obtain ⟨svs0, ti, rfl, hI0⟩ := ints_unsnoc (l := natI st0) (x := (i : Int)) (by simpa [natI] using hI)
      have hla := last_at (vs := svs0) (v := .int (i : Int) ti)
      have hll := last_lo (vs := svs0) (v := .int (i : Int) ti)
      have hpos : 0 < (svs0 ++ [Value.int (i : Int) ti]).length := by simp
      obtain ⟨pa, us, npt, hpv, hpm, hpI⟩ := partz _ _ hgt
      have hil := (List.getElem?_eq_some_iff.mp hgt).1
      walk_at "go"
      unfold Stop
      rename_i h8 F8 N8
      have hp2 := parts_two hW hgt
      have hpl := hpI.length
      refine' reads_use (parts_spec w ((l', listOf (svs0 ++ [Value.int (i : Int) ti]).toArray k) :: (d, od) :: (L' + 1, oc) :: news) c dc kl pl kd f1 f2 f3 t2 t3 t4 pvz npz ((i : Nat) : Int) ti (.ref pa) (by omega) (.tail _ (.tail _ (.tail _ hcc))) (.tail _ (.tail _ (.tail _ hcd))) (.tail _ (.tail _ (.tail _ hplz))) (by rw [Int.natAbs_natCast]; exact hpv)) ?k1 ?k2 ?k3 ?k4 ?k5 ?kK ?kd ?ku ?_
      walk_at "use premises"
      rintro r h9 tk9 F9 N9 rfl
      refine ⟨pa, us.toArray, _, rfl, rfl, F9, N9, ⟨_, .tail _ (.tail _ (.tail _ hpm)), rfl, _, rfl⟩, by simp; omega, fun gh => ?_⟩
      clear F8 N8
      refine crestT_inv (n := us.toArray.size) (JMiss kvs gt.parts ((l', listOf (svs0 ++ [Value.int (i : Int) ti]).toArray k) :: (d, od) :: (L' + 1, oc) :: news)) ?hS ?t1 ?d1 us.toArray.size 0 [] _ (Nat.zero_add _) ⟨rfl, .nil⟩
      case hS => rintro j ys nx ⟨rfl, _⟩; exact ⟨_, .tail _ (.tail _ (.tail _ hpm)), rfl, _, rfl⟩
      case t1 =>
        rintro j v ys nx I oI Cc oC D2 m2 h10 tk10 E10 hj hv ⟨rfl, hIy⟩ hC hx F10 N10 off ap Qn Qt hQt hQn
        obtain ⟨x, tx, rfl, hxp⟩ := ints_at hpI (by simpa using hv)
        clear F9 N9
        walk_at "go"
        · rename_i hkx
          rw [abs_nat] at hkx
          exact hQn _ _ _ F10 N10 off (JMiss.no hIy hxp hkx)
        · rename_i hkx _ _
          rw [abs_nat] at hkx ⊢
          exact hQt _ _ _ _ F10 N10 off (JMiss.yes hIy hxp hkx)
      case d1 =>
        rintro ys nx ⟨rfl, hIy⟩ D2 h10 tk10 F10 N10 off
        clear F9 N9
        rw [List.take_of_length_le (by simp; omega)] at hIy
        have hyl : ys.length = (missK kvs gt.parts).length := by rw [hIy.length]; simp [natI]
        have hml := missK_len (kvs := kvs) (ps := gt.parts)
        simp only [LCg.Off1] at off
        obtain ⟨q1, q2, q3, q4⟩ := off
        rcases hcase with ⟨ps, rfl, hu, hmn, rfl, rfl⟩ | ⟨hor, rfl, hcase⟩
        · have hu' : (valueAt kvs' (i : Int)).isSome = false := by unfold HasK at hu; simpa using hu
          have hy0 : 0 < ys.length := by rw [hyl]; exact List.length_pos_iff.mpr hmn
          walk_at "go"
          unfold Stop
          refine extend_U (news' := (D2, LCg.lst ys) :: (l', listOf ((svs0 ++ [Value.int (i : Int) ti]) ++ ys).toArray (k + 1)) :: (d, od) :: (L' + 1, oc) :: news) F10 N10 (.head _) (by omega) (by k_upd) (Nat.le_trans (Nat.le_of_eq hsl) (by omega)) (by omega) fun h11 F11 N11 => ?_
          walk_at "go"
          refine ⟨_, _, _, _, nn, rfl, F11, fun p hp => N11 p (.tail _ hp), Nat.lt_succ_self _, ⟨kvs', _, od, _, _, rfl, ho, ?_, G, hB', Rn, ⟨hm.self, hm.inputs, hm.g, hm.stack⟩⟩⟩
          rw [natI_append]
          exact ints_append hI hIy
        · dsimp only
          walk1
          walk1
          obtain ⟨m10, F11, hh10, hm10, hmi10⟩ : ∃ m10, Fr g' L' h10 m10 ∧ m10 (Str.ofString "here") = some (.int (i : Int) ti) ∧ VFr rd ta l' g tg m10 ∧ m10 (Str.ofString "missing") = some (.ref D2) := ⟨_, F10, rfl, ⟨hm.self, hm.inputs, hm.g, hm.stack⟩, rfl⟩
          clear F10 hms hmself hminp
          have hms := hm10.stack
          have hmself := hm10.self
          have hminp := hm10.inputs
          refine wpAny_mono (Q := IfNo g' L' m10 ((D2, LCg.lst ys) :: (l', listOf (svs0 ++ [Value.int (i : Int) ti]).toArray k) :: (d, od) :: (L' + 1, oc) :: news) s) ?c1 (fun b s' hb => ?c2) (fun _ _ e => e)
          case c1 =>
            cases hki : (valueAt kvs (i : Int)).isSome with
            | true =>
              walk_at "go"
              exact .mk _ _ F11 N10
            | false =>
              have hm0 : missK kvs gt.parts = [] := hor.resolve_left (by unfold HasK; rw [hki]; decide)
              have hy0 : ys.length = 0 := by rw [hyl, hm0]; rfl
              walk_at "go"
              exact .mk _ _ F11 N10
          case c2 =>
            obtain ⟨h12, tk12, F12, N12⟩ := hb
            rw [if_neg (by decide)]
            clear N10 F11
            walk_at "go"
            unfold Stop
            dsimp only
            refine pop_U (news' := (D2, LCg.lst ys) :: (l', listOf svs0.toArray (k + 1)) :: (d, od) :: (L' + 1, oc) :: news) F12 N12 (by k_upd) (by have : st'.length ≤ 2 * C.length := hB'; have := hI0.length; simp [natI] at this; omega) fun h13 F13 N13 => ?_
            clear N12
            replace N13 : News g' L' h13 ((l', listOf svs0.toArray (k + 1)) :: (d, od) :: (L' + 1, oc) :: news) := fun p hp => N13 p (.tail _ hp)
            have RB := R.mono (news' := (l', listOf svs0.toArray (k + 1)) :: (d, od) :: (L' + 1, oc) :: news) fun p hp => .tail _ (.tail _ (.tail _ hp))
            walk_at "go"
            unfold Stop
            refine' reads_use (kind_R RB (by omega) hgt) ?k1 ?k2 ?k3 ?k4 ?k5 ?kK ?kd ?ku ?_
            walk_at "use premises"
            rintro r h14 tk14 F14 N14 ⟨t14, rfl⟩
            clear F13 N13 hms hmself RB
            rcases hcase with ⟨rfl, rfl⟩ | ⟨hng, hk2, rfl⟩ | ⟨⟨ps, rfl⟩, hk2, rfl⟩
            · obtain ⟨hi2, hin, hiv⟩ := inp_val (ρ := ρ) hW hgt
              dsimp only [Gate.kindS]
              walk_at "go"
              unfold Stop
              refine kdg_get2 (knd := intKind _ _) N14 (.tail _ (.tail _ (.tail _ hta))) hot hlo (intKind_is _ _ _ _) (some (.bool (ρ (i - 2)))) (by rw [show (i : Int) = ((i - 2 + 2 : Nat) : Int) by omega]; exact htk _ hin) ?_
              rw [show (some (Value.bool (ρ (i - 2)))).getD (Value.bool false) = Value.bool (lv (tvs ρ C) (i : Int)) by rw [hiv]; rfl]
              walk_at "go"
              refine setI (f := fun o8 => (l', listOf svs0.toArray (k + 1)) :: (d, o8) :: (L' + 1, oc) :: news) F14 N14 (fun o8 => by k_upd) ho (by have := G.cnt; omega) fun h15 o15 F15 N15 ho15 => ?_
              walk_at "go"
              exact ⟨_, _, _, _, nn, rfl, F15, N15, Nat.lt_succ_self _, ⟨_, _, o15, _, _, rfl, ho15, hI0, hst.good G, hB', Rn, hm10⟩⟩
            · have hks := kind_ne hng
              have hk3 : (valueAt kvs' (i : Int)).isSome = true := hk2
              walk_at "go"
              exact ⟨_, _, _, _, nn, rfl, F14, N14, Nat.lt_succ_self _, ⟨kvs', _, od, _, _, rfl, ho, hI0, G, hB', Rn, hm10⟩⟩
            · have hiv := and_val (ρ := ρ) hW hgt
              have hk3 : (valueAt kvs (i : Int)).isSome = false := by unfold HasK at hk2; simpa using hk2
              dsimp only [Gate.kindS]
              have hmself := hm10.self
              walk_at "go"
              unfold Stop
              refine' reads_use (parts_spec w ((l', listOf svs0.toArray (k + 1)) :: (d, od) :: (L' + 1, oc) :: news) c dc kl pl kd f1 f2 f3 t2 t3 t4 pvz npz ((i : Nat) : Int) ti (.ref pa) (by omega) (.tail _ (.tail _ (.tail _ hcc))) (.tail _ (.tail _ (.tail _ hcd))) (.tail _ (.tail _ (.tail _ hplz))) (by rw [Int.natAbs_natCast]; exact hpv)) ?k1 ?k2 ?k3 ?k4 ?k5 ?kK ?kd ?ku ?_
              walk_at "use premises"
              rintro r h15 tk15 F15 N15 rfl
              refine ⟨pa, us.toArray, _, rfl, rfl, F15, N15, ⟨_, .tail _ (.tail _ (.tail _ hpm)), rfl, _, rfl⟩, by simp; omega, fun gh => ?_⟩
              have hall := missK_all (hor.resolve_left hk2)
              clear F14 N14
              refine crest_inv (n := us.toArray.size) (JAll ρ C ps ((l', listOf svs0.toArray (k + 1)) :: (d, od) :: (L' + 1, oc) :: news)) ?hS2 ?t2 ?d2 us.toArray.size 0 [] _ (Nat.zero_add _) ⟨rfl, .nil⟩
              case hS2 => rintro j ys nx ⟨rfl, _⟩; exact ⟨_, .tail _ (.tail _ (.tail _ hpm)), rfl, _, rfl⟩
              case t2 =>
                rintro j v zs nx I oI Cc oC D4 m2 h16 tk16 E16 hj hv ⟨rfl, hIz⟩ hC hx F16 N16 off ap Qt hQt
                obtain ⟨x, tx, rfl, hxp⟩ := ints_at hpI (by simpa using hv)
                have hxm := List.mem_of_getElem? hxp
                have hxv := known_abs G (hall x hxm)
                have hx1 := (((hW.ok _ _ hgt).2 x hxm).1)
                clear F15 N15
                walk_at "go"
                exact hQt _ _ _ _ F16 N16 off (JAll.step hIz hxp (lv_abs hx1))
              case d2 =>
                rintro zs nx ⟨rfl, hIz⟩ D4 h16 tk16 F16 N16 off
                clear F15 N15
                rw [List.take_of_length_le (by rw [List.size_toArray]; exact Nat.le_of_eq hpl.symm)] at hIz
                walk_at "go"
                unfold Stop
                refine LSm.all_bools F16 N16 rfl (News.isList N16 (.head _)) hIz fun h17 tk17 F17 N17 => ?_
                rw [all_id, ← hiv]
                replace N17 : News g' L' h17 ((l', listOf svs0.toArray (k + 1)) :: (d, od) :: (L' + 1, oc) :: news) := fun p hp => N17 p (.tail _ hp)
                clear F16 N16
                walk_at "go"
                refine setI (f := fun o8 => (l', listOf svs0.toArray (k + 1)) :: (d, o8) :: (L' + 1, oc) :: news) F17 N17 (fun o8 => by k_upd) ho (by have := G.cnt; omega) fun h15 o15 F15 N15 ho15 => ?_
                walk_at "go"
                exact ⟨_, _, _, _, nn, rfl, F15, N15, Nat.lt_succ_self _, ⟨_, _, o15, _, _, rfl, ho15, hI0, hst.good G, hB', Rn, hm10⟩⟩
section
open PySem.AutoSeq1 (wpAny_loadPart')
/-- a list of pairs of ints and values, their tuples in the heap -/
def PairsIn (H : Heap) (its : Array Value) (kvp : List (Int × Value)) : Prop := its.size = kvp.length ∧ ∀ (j : Nat) v, its[j]? = some v → ∃ T k t x, v = .ref T ∧ kvp[j]? = some (k, x) ∧ H.IsTuple T #[.int k t, x]
theorem PairsIn.keeps {H H' : Heap} {its : Array Value} {kvp : List (Int × Value)} (h : PairsIn H its kvp) (k : ∀ T xs, H.IsTuple T xs → H'.IsTuple T xs) : PairsIn H' its kvp :=
  ⟨h.1, fun j v e => let ⟨T, a, t, x, b, c, d⟩ := h.2 j v e; ⟨T, a, t, x, b, c, k _ _ d⟩⟩
theorem keys_missing : typeLookup (.type "list") (Str.ofString "keys") = pure none := by rw [typeLookup_type, builtinLookup_eq_fast]; kernel_rfl
theorem keys_none {prog : Program} {w : World} {A : Around} {E : Value → Shared → Prop} {s : Shared} {a : Addr} {xs : Array Value} {k : Nat} {Q : Option Value → Shared → Prop}
    (hx : s.heap.get? a = some { cls := .type "list", dict := none, data := .seq xs k, slots := #[] }) (hA : A.handled = none)
    (h : ∀ h' tk, (∀ b o, s.heap.get? b = some o → h'.get? b = some o) → Q none { s with heap := h', toks := tk }) :
    wpAny (model prog w) A (getAttr? (.ref a) (Str.ofString "keys")) Q E s := by
  obtain ⟨hp, g, d, tk, os⟩ := s
  have hT : ∀ tk', (⟨hp, g, d, tk', os⟩ : Shared).TypeIs (.ref a) "list" := fun _ => ⟨_, hx, rfl⟩
  have f1 := sub_AttributeError
  have f3 := F.slot_list_getattribute.lookup
  have f4 := F.slot_list_getattribute.bind (.ref a)
  have f5 := am_list_getattr_none
  unfold getAttr? getAttrBy? getAttrBy
  repeat (any_goals (first | assumption | exact hT _ | ((with_reducible show wpAny _ _ (call (Value.builtin "list.__getattribute__") _ _) _ _ _); refine call_meets F.slot_list_getattribute (hT _) am_entry_list_getattribute (F.args_list_getattribute_2 _ _) (meets_getattribute_miss_list a xs k #[] _ _ keys_missing (by decide +kernel)) ⟨hx, hA, fun h' tk' e hx' => ?_⟩) | wp_step))
  obtain ⟨t', u', he⟩ := hx'.there
  show wpAny _ _ (getattributeRaised _ _ _ _ _ _ _) _ _ _
  unfold getattributeRaised
  repeat (any_goals (first | assumption | wp_step))
  exact h _ _ hx'.of.keeps
theorem plain_upd_loop : plainId "dict.update.loop" = true := by decide +kernel
theorem entry_upd_loop : entryFor table "dict.update.loop" = some Builtin.«dict.update.loop» := entryFor_of_fast (by kernel_rfl)
def putAll (kvs : List (Int × Value)) (l : List (Int × Value)) : List (Int × Value) := l.foldl (fun k p => stored k p.1 p.2) kvs
theorem upd_loop {prog : Program} {w : World} (d I ax : Addr) (its : Array Value) (kvp : List (Int × Value)) (hdI : d ≠ I) (hda : d ≠ ax) (haI : ax ≠ I) (k : Nat) : ∀ (i : Nat) (kvs : List (Int × Value)), its.size - i = k → i ≤ its.size →
    MeetsIn prog w (Builtin.«dict.update.loop» ⟨[.ref d, .ref I, rawInt i, .none], []⟩) (fun A R s => A.handled = none ∧ s.heap.DictOf (intKind prog w) d kvs ∧ s.heap.IsListIter I ax i ∧ s.heap.IsList ax its ∧ PairsIn s.heap its kvp ∧ kvs.length + k ≤ 1000 ∧
      ∀ h' tk, h'.DictOf (intKind prog w) d (putAll kvs (kvp.drop i)) → (∀ b o, b ≠ d → b ≠ I → s.heap.get? b = some o → h'.get? b = some o) → R (.ok (.ret .none)) { s with heap := h', toks := tk }) := by
  induction k with
  | zero =>
    intro i kvs hk hi A R s ⟨hA, hD, hit, hl, hP, hz, h⟩
    have hie : i = its.size := by omega
    subst hie
    unfold Builtin.«dict.update.loop»
    refine wpAny_bind (wpAny_pyNext_list_end (by simpa using hA) hit hl (by simp) fun h' he' => ?_)
    show wpAny _ _ (Builtin.Dict.addKeywords d [] >>= fun _ => ret .none) _ _ _
    refine wpAny_bind ?_
    show wpAny _ _ (pure ()) _ _ _
    refine wpAny_pure (wpAny_pure ?_)
    refine h h' s.toks ?_ fun b o _ hb e => he' b o hb e
    have e : kvp.drop its.size = [] := by simp [hP.1]
    rw [e]
    obtain ⟨od, es, ep, h1, r⟩ := hD
    exact ⟨od, es, ep, he' d od hdI h1, r⟩
  | succ k ih =>
    intro i kvs hk hi A R s ⟨hA, hD, hit, hl, hP, hz, h⟩
    have hlt : i < its.size := by omega
    obtain ⟨T, kk, tt, x, hv, hkv, hT⟩ := hP.2 i its[i] (by simp [hlt])
    unfold Builtin.«dict.update.loop»
    refine wpAny_bind (wpAny_pyNext_list_item hit hl (x := its[i]) (by simp [hlt]) fun h' hit' hs' => ?_)
    rw [hv]
    obtain ⟨⟨cls, dct, dat, sl⟩, hT1, hT2, nT, hT3⟩ := hT
    dsimp only at hT2 hT3
    subst hT2 hT3
    have hTI : T ≠ I := fun e => by
      subst e
      obtain ⟨o, a, b, _⟩ := hit
      rw [hT1] at a
      cases a
      exact absurd b (by simp)
    have hT4 : h'.get? T = some _ := (hs'.2 T hTI).trans hT1
    show wpAny _ _ (holding [Value.ref T] _ >>= fun _ => again _) _ _ _
    refine wpAny_bind (wpAny_holding (wpAny_bind (wpAny_tryCatch ?_)))
    unfold Builtin.Dict.pairItems
    refine wpAny_bind (wpAny_typeOf (T := "tuple") ⟨_, hT4, rfl⟩ ?_)
    rw [if_pos (by decide)]
    refine wpAny_bind (wpAny_seqItems hT4 rfl ?_)
    refine wpAny_pure ?_
    show wpAny _ _ (holding [Value.int kk tt, x] (dictSet d (.int kk tt) x)) _ _ _
    have hD' : h'.DictOf (intKind prog w) d kvs := by
      obtain ⟨od, es, ep, h1, r⟩ := hD
      exact ⟨od, es, ep, (hs'.2 d hdI).trans h1, r⟩
    refine wpAny_holding (wpAny_dictSet_pairs (intKind_is prog w kk tt) hD' (fun h2 hD2 hs2 => ?_) (by unfold sizeLine; omega))
    refine wpAny_pure ⟨plainId_quiet plain_upd_loop _, codeAny_builtin entry_upd_loop ?_⟩
    rw [Around.under_plainId plain_upd_loop _, show rawInt ((i : Int) + 1) = rawInt ((i + 1 : Nat) : Int) by push_cast; rfl]
    have two : ∀ b o, b ≠ d → b ≠ I → s.heap.get? b = some o → h2.get? b = some o := fun b o n1 n2 e => (hs2.2 b n1).trans ((hs'.2 b n2).trans e)
    refine ih (i + 1) _ (by omega) (by omega) A R _ ⟨hA, hD2, ?_, ?_, ?_, ?_, ?_⟩
    · obtain ⟨o, a, r⟩ := hit'
      exact ⟨o, (hs2.2 I (Ne.symm hdI)).trans a, r⟩
    · obtain ⟨o, a, r⟩ := hl
      exact ⟨o, two ax o (Ne.symm hda) haI a, r⟩
    · refine hP.keeps fun T xs hT => ?_
      obtain ⟨o, a, b, r⟩ := hT
      refine ⟨o, two T o (fun e => ?_) (fun e => ?_) a, b, r⟩
      · subst e
        obtain ⟨od, _, _, h1, h2, _⟩ := hD
        rw [h1] at a
        cases a
        rw [h2.1] at b
        exact absurd b (by simp)
      · subst e
        obtain ⟨oi, h1, h2, _⟩ := hit
        rw [h1] at a
        cases a
        rw [h2] at b
        exact absurd b (by simp)
    · have := stored_len kvs kk x
      omega
    · intro h3 tk3 hD3 k3
      refine h h3 tk3 ?_ fun b o n1 n2 e => k3 b o n1 n2 (two b o n1 n2 e)
      have e : kvp.drop i = (kk, x) :: kvp.drop (i + 1) := by
        obtain ⟨h1, h2⟩ := List.getElem?_eq_some_iff.mp hkv
        rw [List.drop_eq_getElem_cons h1, h2]
      rw [e]
      exact hD3
theorem call_dict_pairs {prog : Program} {w : World} {A : Around} {E : Value → Shared → Prop} {s : Shared} {h₀ : Heap} {L l : Addr} {m : Str → Option Value} {news : List (Addr × Obj)} {its : Array Value} {n : Nat} {kvp : List (Int × Value)} {Q : Value → Shared → Prop}
    (hh : A.handled = none) (FF : Fr h₀ L s.heap m) (N : News h₀ L s.heap news) (hbig : h₀.NoLimit) (hl : (l, listOf its n) ∈ news) (hP : PairsIn s.heap its kvp) (hz : its.size ≤ 1000)
    (h : ∀ D h' tk o', Fr h₀ L h' m → News h₀ L h' ((D, o') :: news) → (∀ p ∈ news, p.1 < D) → (D == sysModules) = false → o'.IsDictOf (intKind prog w) (putAll [] kvp) → Q (.ref D) { s with heap := h', toks := tk }) :
    wpAny (model prog w) A (call (.type "dict") [.ref l]) Q E s := by
  have hl1 := (N _ hl).1
  refine callType_codes (Q₁ := fun obj s₁ => obj = .ref s.heap.objs.size ∧ s₁ = { s with heap := s.heap.push { cls := .type "dict", data := .dict #[] } }) F.kt_called_dict (F.kt_typeCall_dict_1 _) F.entry_dict_init (kt_code_dict_new _ ⟨rfl, rfl⟩) ?_
  rintro obj s₁ ⟨rfl, rfl⟩
  have hnew : (s.heap.push { cls := .type "dict", data := .dict #[] }).DictOf (intKind prog w) s.heap.objs.size [] := Heap.DictOf.new s.heap
  have up : ∀ b o, s.heap.get? b = some o → (s.heap.push { cls := .type "dict", data := .dict #[] }).get? b = some o := fun b o e => Heap.get?_push_of_some _ e
  refine ⟨hnew.typeIs, F.args_dict_init_2 _ _, ?_⟩
  unfold Builtin.«dict.__init__»
  refine wpAny_bind ?_
  unfold Builtin.Dict.selfAndRest
  refine wpAny_bind (wpAny_notOrdered_dict hnew.typeIs ?_)
  show wpAny _ _ (pure (s.heap.objs.size, [Value.ref l])) _ _ _
  refine wpAny_pure ?_
  show wpAny _ _ (Builtin.Dict.updateFrom "dict.__init__" s.heap.objs.size (.ref l) [] .none) _ _ _
  unfold Builtin.Dict.updateFrom
  refine wpAny_bind (wpAny_typeOf (T := "list") ⟨_, up _ _ hl1, rfl⟩ ?_)
  rw [if_pos (by decide)]
  refine wpAny_bind (keys_none (up _ _ hl1) (by simpa using hh) fun h2 tk2 k2 => ?_)
  rw [if_pos (by rfl)]
  have hl2 : h2.get? l = some (listOf its n) := k2 _ _ (up _ _ hl1)
  have hD2 : h2.DictOf (intKind prog w) s.heap.objs.size [] := by
    obtain ⟨od, es, ep, h1, r⟩ := hnew
    exact ⟨od, es, ep, k2 _ _ h1, r⟩
  have hDlt : s.heap.objs.size < h2.objs.size := by obtain ⟨od, _, _, h1, _⟩ := hD2; exact Heap.lt_size h1
  have hllt : l < s.heap.objs.size := Heap.lt_size hl1
  refine wpAny_bind (wpAny_rule ?_)
  refine wpAny_bind (wpAny_pyIter_list ⟨_, hl2, rfl, _, rfl⟩ ?_)
  refine wpAny_pure ⟨plainId_quiet plain_upd_loop _, codeAny_builtin entry_upd_loop ?_⟩
  rw [Around.under_plainId plain_upd_loop _]
  have k3 : ∀ b o, h2.get? b = some o → (h2.push { cls := .type "list_iterator", data := .fields #[.ref l, .int 0 0] }).get? b = some o := fun b o e => Heap.get?_push_of_some _ e
  refine upd_loop (prog := prog) (w := w) s.heap.objs.size h2.objs.size l its kvp (Nat.ne_of_lt hDlt) (Nat.ne_of_gt hllt) (Nat.ne_of_lt (Nat.lt_trans hllt hDlt)) its.size 0 [] (Nat.sub_zero _) (Nat.zero_le _) A.in1 _ _ ⟨?_, ?_, ?_, ?_, ?_, ?_, ?_⟩
  · simpa using hh
  · obtain ⟨od, es, ep, h1, r⟩ := hD2
    exact ⟨od, es, ep, k3 _ _ h1, r⟩
  · exact ⟨_, Heap.get?_push_size _ rfl, rfl, rfl⟩
  · exact ⟨_, k3 _ _ hl2, rfl, _, rfl⟩
  · exact hP.keeps fun T xs hT => let ⟨o, a, r⟩ := hT; ⟨o, k3 _ _ (k2 _ _ (up _ _ a)), r⟩
  · simp; exact hz
  · intro h4 tk4 hD4 k4
    have all : ∀ b o, s.heap.get? b = some o → h4.get? b = some o := fun b o e => k4 b o (Nat.ne_of_lt (Heap.lt_size e)) (Nat.ne_of_lt (Nat.lt_trans (Heap.lt_size e) hDlt)) (k3 _ _ (k2 _ _ (up _ _ e)))
    obtain ⟨o', ho', hD'⟩ := Heap.dictOf_iff.mp hD4
    refine ⟨rfl, h _ h4 tk4 o' (FF.keeps all) (fun p hp => ?_) (fun p hp => Heap.lt_size (N p hp).1) ?_ hD'⟩
    · rcases List.mem_cons.mp hp with rfl | hp
      · exact ⟨ho', Nat.ne_of_gt FF.ns.lt, next_is_new FF⟩
      · exact ⟨all _ _ (N p hp).1, (N p hp).2⟩
    · have h1 : sysModules < h₀.objs.size := modules_low hbig
      have h2 := FF.above
      have h3 := FF.ns.lt
      simp only [beq_eq_false_iff_ne, ne_eq]
      exact Nat.ne_of_gt (Nat.lt_of_lt_of_le h1 (Nat.le_trans h2 (Nat.le_of_lt h3)))
end
theorem ne_nil {a : Addr} : ∀ b ∈ ([] : List Addr), @Ne Nat a b := fun _ h => absurd h List.not_mem_nil
theorem ne_cons {a x : Addr} {r : List Addr} (h : @Ne Nat a x) (k : ∀ b ∈ r, @Ne Nat a b) : ∀ b ∈ x :: r, @Ne Nat a b := fun b hb => by
  rcases List.mem_cons.mp hb with rfl | hb
  · exact h
  · exact k b hb
theorem ne_sym {a x : Addr} {r : List Addr} (h : @Ne Nat x a) (k : ∀ b ∈ r, @Ne Nat a b) : ∀ b ∈ x :: r, @Ne Nat a b := ne_cons h.symm k
theorem ne_gt {a x : Addr} {r : List Addr} (h : @LT.lt Nat _ x a) (k : ∀ b ∈ r, @Ne Nat a b) : ∀ b ∈ x :: r, @Ne Nat a b := ne_cons (Nat.ne_of_gt h) k
theorem ne_lt {a x : Addr} {r : List Addr} (h : @LT.lt Nat _ a x) (k : ∀ b ∈ r, @Ne Nat a b) : ∀ b ∈ x :: r, @Ne Nat a b := ne_cons (Nat.ne_of_lt h) k
theorem in_nil {l : List Addr} : ∀ b ∈ ([] : List Addr), b ∈ l := fun _ h => absurd h List.not_mem_nil
theorem in_cons {x : Addr} {r l : List Addr} (h : x ∈ l) (k : ∀ b ∈ r, b ∈ l) : ∀ b ∈ x :: r, b ∈ l := fun b hb => by
  rcases List.mem_cons.mp hb with rfl | hb
  · exact h
  · exact k b hb
def dOf {p : Program} {n : Str} {d : DefRec} {k : List (Str × PySem.Expr)} (_ : defOf p n = some (d, k)) := d
noncomputable def lawFn := dOf (p := V0) (n := PySem.Challenge.rw_nz0381_01.name) rfl
noncomputable abbrev lawEnv (L fa : Addr) (cd : Value) : Env := envOfC lawFn.name lawFn.scope L fa cd
noncomputable abbrev lawAr (L fa : Addr) (cd : Value) : Around := callerA.deeper (lawEnv L fa cd)
def kvpOf (row : Nat) : Nat → List (Int × Value)
  | 0 => []
  | i + 1 => kvpOf row i ++ [(((i + 2 : Nat) : Int), Value.bool (row.testBit i))]
theorem kvpOf_len (row : Nat) : ∀ i, (kvpOf row i).length = i
  | 0 => rfl
  | i + 1 => by simp [kvpOf, kvpOf_len row i]
theorem kvpOf_get (row : Nat) : ∀ n i, i < n → (kvpOf row n)[i]? = some (((i + 2 : Nat) : Int), Value.bool (row.testBit i))
  | 0, _, h => absurd h (Nat.not_lt_zero _)
  | n + 1, i, h => by
    unfold kvpOf
    by_cases e : i < n
    · rw [List.getElem?_append_left (by rw [kvpOf_len]; exact e)]
      exact kvpOf_get row n i e
    · have : i = n := by omega
      subst this
      rw [List.getElem?_append_right (by rw [kvpOf_len]; exact Nat.le_refl _), kvpOf_len, Nat.sub_self]
      rfl
theorem kvpOf_val (row : Nat) : ∀ n i, i < n → valueAt (putAll [] (kvpOf row n)) ((i + 2 : Nat) : Int) = some (.bool (row.testBit i))
  | 0, _, h => absurd h (Nat.not_lt_zero _)
  | n + 1, i, h => by
    unfold kvpOf putAll
    rw [List.foldl_append]
    simp only [List.foldl_cons, List.foldl_nil]
    rw [valueAt_stored]
    by_cases e : i = n
    · subst e; rw [if_pos rfl]
    · rw [if_neg (by omega)]
      exact kvpOf_val row n i (by omega)
/-- the truths of a row, under way -/
inductive JTru (row : Nat) (base : List (Addr × Obj)) (i : Nat) (ys : List Value) (nx : List (Addr × Obj)) : Prop
  | mk (hs : ∀ p ∈ base, p ∈ nx) (hl : ys.length = i) (hy : ∀ (j : Nat) v, ys[j]? = some v → ∃ T t nT, v = .ref T ∧ (T, tupO [.int ((j + 2 : Nat) : Int) t, .bool (row.testBit j)] nT) ∈ nx) : JTru row base i ys nx
theorem JTru.snoc {row : Nat} {base : List (Addr × Obj)} {i : Nat} {ys : List Value} {nx : List (Addr × Obj)} {T : Addr} {t : Tok} {nT : Nat} {b : Bool} (h : JTru row base i ys nx) (hb : b = row.testBit i) : JTru row base (i + 1) (ys ++ [.ref T]) ((T, tupO [.int ((i + 2 : Nat) : Int) t, .bool b] nT) :: nx) := by
  subst hb
  obtain ⟨hs, hl, hy⟩ := h
  refine ⟨fun p hp => .tail _ (hs p hp), by simp [hl], fun j v e => ?_⟩
  by_cases hj : j < ys.length
  · rw [List.getElem?_append_left hj] at e
    obtain ⟨T', t', n', a, c⟩ := hy j v e
    exact ⟨T', t', n', a, .tail _ c⟩
  · rw [List.getElem?_append_right (by omega)] at e
    have e1 : j - ys.length = 0 := by
      have := (List.getElem?_eq_some_iff.mp e).1
      simp at this; omega
    rw [e1] at e
    have hj : j = i := by omega
    subst hj
    exact ⟨T, t, nT, by simpa using e.symm, .head _⟩
theorem JTru.pairs {row n : Nat} {base nx led : List (Addr × Obj)} {ys : List Value} {h h₀ : Heap} {L : Addr} (J : JTru row base n ys nx) (N : News h₀ L h led) (hs : ∀ p ∈ nx, p ∈ led) : PairsIn h ys.toArray (kvpOf row n) := by
  obtain ⟨_, hl, hy⟩ := J
  refine ⟨by simp [hl, kvpOf_len], fun j v e => ?_⟩
  have e' : ys[j]? = some v := by simpa using e
  obtain ⟨T, t, nT, a, c⟩ := hy j v e'
  have hj := (List.getElem?_eq_some_iff.mp e').1
  exact ⟨T, _, t, _, a, kvpOf_get row n j (by omega), ⟨_, (N _ (hs _ c)).1, rfl, _, rfl⟩⟩
inductive JRead (L : Nat) (w : World) (rd aa : Addr) (n : Nat) (base : List (Addr × Obj)) (i : Nat) (mm : Str → Option Value) (nx : List (Addr × Obj)) : Prop
  | mk (oR : Obj) (v : Option Value) (hn : nx = (L + 1 + 1 + 1 + 1 + 1, oR) :: base) (hd : oR.data = .cell v) (h1 : mm (Str.ofString "reading") = some (.ref rd)) (h2 : mm (Str.ofString "asked") = some (.ref aa)) : JRead L w rd aa n base i mm nx
/-- the ends of the list of what was asked -/
structure EndsAt (avs : List Value) (lt ft : Addr) : Prop where
  last : avs[((-1 : Int) + (avs.length : Int)).toNat]? = some (.ref lt)
  lo : -(avs.length : Int) ≤ (-1 : Int)
  first : avs[(0 : Int).toNat]? = some (.ref ft)
theorem news_pick {h₀ h : Heap} {L : Addr} {led l : List (Addr × Obj)} {a : Addr × Obj} (N : News h₀ L h led) (hm : a ∈ led) (r : News h₀ L h l) : News h₀ L h (a :: l) := fun p hp => by
  rcases List.mem_cons.mp hp with rfl | hp
  · exact N _ hm
  · exact r p hp
theorem bit_eq {row k : Nat} : (Builtin.bitAnd ((row : Int).fdiv (2 ^ ((k : Nat) : Int).toNat)) 1 == 1) = row.testBit k := by
  rw [shr_and_one]
  cases row.testBit k <;> decide
theorem b2i_eq_one {b : Bool} : (b2i b == 1) = b := by cases b <;> decide


theorem law7 (w : World) (L fa : Addr) (cd : Value) (base h₀ : Heap) (mean : ExcName → Option Value) (mg mb : Str → Option Value) (s : Shared) (h : Heap) (tk : Nat) (m : Str → Option Value) (news : List (Addr × Obj)) (Q : Flow → Shared → Prop) (E : Value → Shared → Prop)
    (B : Below callerA base [] h₀) (F : Fr h₀ L h m) (X : (A.heap_1 w.params).In h₀) (oR oG oT oI oC : Obj) (vR vG : Option Value)
    (N : News h₀ L h ((L + 1 + 1 + 1 + 1 + 1, oR) :: (L + 1 + 1 + 1 + 1, oG) :: news)) (T : Top V0 (looseW V0 []) mean mg mb h₀)
    (c ia ta aa : Addr) (dR : oR.data = .cell vR) (dG : oG.data = .cell vG) (mT : (L + 1 + 1 + 1, oT) ∈ news) (dT : oT.data = .cell (some (.ref ta))) (mI : (L + 1 + 1, oI) ∈ news) (dI : oI.data = .cell (some (.ref ia))) (mC : (L + 1, oC) ∈ news) (dC : oC.data = .cell (some (.ref c)))
    (hoff : OwnOff news [L + 1 + 1 + 1 + 1 + 1, L + 1 + 1 + 1 + 1])
    (C : List Gate) (n ni na mt nl nf : Nat) (ivs avs tv : List Value) (lt ft : Addr) (v0 v1 : Value) (gm : Int) (tg t1 tr : Tok) (hn : n ≤ 3) (R : CirR news c C) (hsz : C.length ≤ 90000) (hW : WFC n C) (hi : (ia, listOf ivs.toArray ni) ∈ news) (hI : IntsAre ivs (inpsOf n))
    (hT : TabV n C tv) (hta : (ta, listOf tv.toArray mt) ∈ news) (haa : (aa, listOf avs.toArray na) ∈ news) (hae : EndsAt avs lt ft) (hlt : (lt, tupO [v1, .int gm tg] nl) ∈ news) (hgm : LitIn C.length gm)
    (hft : (ft, tupO [v0, .int 1 t1] nf) ∈ news)
    (m1 : m (Str.ofString "rows") = some (.int ((2 ^ n : Nat) : Int) tr)) (m2 : m (Str.ofString "asked") = some (.ref aa))
    (hret : ∀ h' tk m', Fr h₀ L h' m' → Q (.ret (.bool true)) { s with heap := h', toks := tk }) :
    wpAny (model PySem.Challenge.rw_nz0381_01.prog w) (lawAr L fa cd) (execs (lawFn.body.drop 15) (lawEnv L fa cd)) Q E { s with heap := h, toks := tk } := by
  have hrows : 2 ^ n ≤ 8 := Nat.pow_le_pow_right (n := 2) (by decide) hn
  obtain ⟨hsm, hsz2⟩ := range_size (n := 2 ^ n) (by omega)
  have hil : ivs.length = n := by rw [hI.length, inpsOf_len]
  obtain ⟨hsm3, hsz3⟩ := range_size (n := n) (by omega)
  revert X; k_fill; intro X
  unfold lawAr lawEnv lawFn dOf
  dsimp only [List.drop]
  walk_at "go"
  have hal := hae.last
  have hal2 := hae.lo
  walk_at "go"
  unfold Stop
  k_fold
  rename_i xr dr _ lt1 lt2 _ _ _ _ _ _ _ _ _ _ _ _ _ _ D _ lD _ _ h2 oG2 F2 N2 dG2
  clear hal hal2
  obtain ⟨m3, F3, hr3, ha3, hw3⟩ : ∃ m3, Fr h₀ L h2 m3 ∧ m3 (Str.ofString "reading") = some (.ref xr) ∧ m3 (Str.ofString "asked") = some (.ref aa) ∧ m3 (Str.ofString "rows") = some (.int ((2 ^ n : Nat) : Int) tr) := ⟨_, F2, rfl, m2, m1⟩
  obtain ⟨e1, t1', N3⟩ : ∃ e1 t1', News h₀ L h2 ((L + 1 + 1 + 1 + 1 + 1, oR) :: (L + 1 + 1 + 1 + 1, oG2) :: (xr, instObj 162 dr) :: (dr, readD e1 t1' c) :: news) := ⟨_, _, news_pick N2 (.tail _ (.tail _ (.tail _ (.head _)))) (news_pick N2 (.tail _ (.tail _ (.tail _ (.tail _ (.head _))))) (news_pick N2 (.tail _ (.head _)) (news_pick N2 (.tail _ (.tail _ (.head _))) fun p hp => N2 p (.tail _ (.tail _ (.tail _ (.tail _ (.tail _ hp))))))))⟩
  have hoff2 : OwnOff ((L + 1 + 1 + 1 + 1, oG2) :: (xr, instObj 162 dr) :: (dr, readD e1 t1' c) :: news) [L + 1 + 1 + 1 + 1 + 1] := by
    have q1 : @LT.lt Nat _ (L + 1 + 1 + 1 + 1 + 1) dr := lt1.1
    have q2 : @LT.lt Nat _ dr xr := lt2
    exact ownOff_cons (by simp) (ownOff_cons (by walk_at "nes") (ownOff_cons (by walk_at "nes") (ownOff_sub hoff (by walk_at "subs"))))
  generalize hb2 : (L + 1 + 1 + 1 + 1, oG2) :: (xr, instObj 162 dr) :: (dr, readD e1 t1' c) :: news = base2 at N3 hoff2
  have mG : (L + 1 + 1 + 1 + 1, oG2) ∈ base2 := hb2 ▸ .head _
  have mrd : (xr, instObj 162 dr) ∈ base2 := hb2 ▸ .tail _ (.head _)
  have mdr : (dr, readD e1 t1' c) ∈ base2 := hb2 ▸ .tail _ (.tail _ (.head _))
  have hsub : ∀ p ∈ news, p ∈ base2 := hb2 ▸ fun p hp => .tail _ (.tail _ (.tail _ hp))
  clear hb2 N2 F2 lD lt1 lt2 hoff
  replace mT := hsub _ mT
  replace mI := hsub _ mI
  replace mC := hsub _ mC
  replace R := R.mono hsub
  replace hi := hsub _ hi
  replace hta := hsub _ hta
  replace haa := hsub _ haa
  replace hlt := hsub _ hlt
  replace hft := hsub _ hft
  clear hsub
  refine for_range (JRead L w xr aa n base2) rfl F3 hsm hsz2 ?heval ?turn ?done
  case heval =>
    walk_at "go"
    unfold Stop
    exact range_1 F3 N3 fun r t₀ u₀ v₀ h' tk hr F4 N4 => ⟨r, t₀, u₀, v₀, h', tk, _, _, rfl, rfl, hr, F4, N4, ⟨oR, _, rfl, dR, hr3, ha3⟩⟩
  case turn =>
    rintro i t mm _ I oI h3 tk3 hin ⟨oR', v', rfl, hdR, hmr, hma⟩ hoI hoI2 F4 N4 Qt hQt
    simp only [Int.zero_add]
    have hRI : @Ne Nat (L + 1 + 1 + 1 + 1 + 1) I := hoI2 _ (.head _)
    have hbI : OwnOff base2 [L + 1 + 1 + 1 + 1 + 1, I] := fun p hp b hb => by
      rcases List.mem_cons.mp hb with rfl | hb
      · exact hoff2 p hp _ (.head _)
      · rw [List.mem_singleton.mp hb]; exact hoI2 p (.tail _ hp)
    clear F3 N3 hoff2
    walk_at "go"
    unfold Stop
    rename_i h4 oR2 F5 N5 dR2
    refine range_1 F5 N5 fun r t₀ u₀ v₀ h5 tk5 hr F6 N6 => ?_
    rw [hil] at hr
    refine srcU_range (JTru i ((I, oI) :: (L + 1 + 1 + 1 + 1 + 1, oR2) :: base2)) rfl F6 N6 hr hsm3 hsz3 (by omega) ⟨fun p hp => hp, rfl, fun j v e => by simp at e⟩ ?t1 ?d1
    case t1 =>
      rintro k tk2 ys nx I2 oI2 C2 oC2 D2 m2 h6 tk6 E6 hk ⟨hs, hyl, hy⟩ hC hx F7 N7 off ap Qt2 hQt2
      clear F5 N5 F6 N6
      obtain ⟨x, tx, hvx, hxx⟩ := ints_get hI (i := k) (by omega)
      obtain ⟨_, rfl⟩ := inpsOf_get hxx
      rw [Int.zero_add] at hx
      have hi' := hs _ (.tail _ (.tail _ hi))
      have mI' := hs _ (.tail _ (.tail _ mI))
      have mR' := hs _ (.tail _ (.head _))
      have hvx' : ivs[((k : Nat) : Int).toNat]? = some (.int ((k + 2 : Nat) : Int) tx) := hvx
      have hk64 : ((k : Nat) : Int) < 2 ^ 63 := by omega
      have hk0 : 0 ≤ ((k : Nat) : Int) := by omega
      clear hi mI hvx hxx
      revert hx
      intro hx
      walk_at "go"
      rename_i Dt h8 F8 N8 lD
      obtain ⟨n1, n2, n3, _⟩ := lD
      exact hQt2 _ _ _ (_ :: nx) F8 (news_pick N8 (.tail _ (.head _)) (news_pick N8 (.tail _ (.tail _ (.head _))) (news_pick N8 (.tail _ (.tail _ (.tail _ (.head _)))) (news_pick N8 (.head _) fun p hp => N8 p (.tail _ (.tail _ (.tail _ (.tail _ hp)))))))) ⟨⟨Nat.ne_of_gt n1, Nat.ne_of_gt n2, Nat.ne_of_gt n3⟩, off⟩ (JTru.snoc ⟨hs, hyl, hy⟩ bit_eq)
    case d1 =>
      rintro ys nx D2 h6 tk6 J7 F7 N7 off
      clear F5 N5 F6 N6
      walk_at "go"
      unfold Stop
      have hyz : ys.length = n := J7.2
      refine call_dict_pairs (kvp := kvpOf i n) rfl F7 N7 T.nolimit (.head _) (J7.pairs N7 fun p hp => .tail _ hp) (by simp; omega) fun Dd h8 tk8 od F8 N8 lD hlo hod => ?_
      replace N8 : News h₀ L h8 ((Dd, od) :: (I, oI) :: (L + 1 + 1 + 1 + 1 + 1, oR2) :: base2) := news_pick N8 (.head _) fun p hp => N8 p (.tail _ (.tail _ (J7.1 p hp)))
      clear F7 N7 lD off
      walk_at "go"
      unfold Stop
      rename_i h9 F9 N9
      refine' reads_use (value_spec w _ xr dr c Dd od (putAll [] (kvpOf i n)) e1 t1' C n i.testBit gm _ (R.mono fun p hp => .tail _ (.tail _ (.tail _ hp))) hsz hW (.tail _ (.tail _ (.tail _ mrd))) (.tail _ (.tail _ (.tail _ mdr))) (.head _) hlo hod (fun j hj => kvpOf_val i n j hj) hgm) ?k1 ?k2 ?k3 ?k4 ?k5 ?kK ?kd ?ku ?_
      walk_at "use premises"
      rintro r h10 tk10 F10 N10 rfl
      clear F9 N9
      walk_at "go"
      unfold Stop
      refine' reads_use (bit_spec w _ ta tv mt n i C gm _ _ hn hT (.tail _ (.tail _ (.tail _ hta))) hgm (by omega) hin) ?k1 ?k2 ?k3 ?k4 ?k5 ?kK ?kd ?ku ?_
      walk_at "use premises"
      rintro r h11 tk11 F11 N11 ⟨t11, rfl⟩
      clear F10 N10
      cases hbv : lv (tvs i.testBit C) gm
      · walk_at "go"
        refine hQt _ _ (TPost.next (TEnd.intro (its := [(I, oI)]) F11 (news_pick N11 (.tail _ (.head _)) (news_pick N11 (.tail _ (.tail _ (.head _))) fun p hp => N11 p (.tail _ (.tail _ (.tail _ hp))))) (fun p hp q hq => ?_) ⟨oR2, _, rfl, dR2, hmr, hma⟩))
        rw [List.mem_singleton.mp hq]
        exact it_off hoI2 p hp
      · walk_at "go"
        refine hQt _ _ (TPost.next (TEnd.intro (its := [(I, oI)]) F11 (news_pick N11 (.tail _ (.head _)) (news_pick N11 (.tail _ (.tail _ (.head _))) fun p hp => N11 p (.tail _ (.tail _ (.tail _ hp))))) (fun p hp q hq => ?_) ⟨oR2, _, rfl, dR2, hmr, hma⟩))
        rw [List.mem_singleton.mp hq]
        exact it_off hoI2 p hp
  case done =>
    rintro mm _ h3 tk3 ⟨oR', v', rfl, hdR, hmr, hma⟩ F4 N4
    have haf := hae.first
    walk_at "go"
    exact hret _ _ _ (by k_asm)
theorem lex_bits (C : List Gate) (row : Nat) : ∀ ps : List (Int × Int), lexI (bitsAt C row (ps.map (·.1))) (bitsAt C row (ps.map (·.2))) = lexB (truths (tvs row.testBit C) ps)
  | [] => rfl
  | p :: r => by
    have ih := lex_bits C row r
    unfold bitsAt at ih ⊢
    simp only [List.map_cons, lexI, truths, lexB] at ih ⊢
    rw [ih]
    cases lv (tvs row.testBit C) p.1 <;> cases lv (tvs row.testBit C) p.2 <;> simp [b2i, truths]
/-- one thing asked: its row of pairs, its gate -/
inductive AskOne (S : List (Addr × Obj)) (C : List Gate) (v : Value) : Prop
  | mk (T la : Addr) (pvs : List Value) (np nT : Nat) (g : Int) (tg : Tok) (ps : List (Int × Int)) (hv : v = .ref T) (hT : (T, tupO [.ref la, .int g tg] nT) ∈ S) (hl : (la, listOf pvs.toArray np) ∈ S) (hp : PairsAre S pvs ps) (hz : pvs.length ≤ 1000)
      (hlit : ∀ p ∈ ps, LitIn C.length p.1 ∧ LitIn C.length p.2) (hg : LitIn C.length g) (hval : ∀ ρ, lv (tvs ρ C) g = lexB (truths (tvs ρ C) ps)) : AskOne S C v
theorem AskOne.mono {S S' : List (Addr × Obj)} {C : List Gate} {v : Value} (h : AskOne S C v) (k : ∀ p ∈ S, p ∈ S') : AskOne S' C v := by
  obtain ⟨T, la, pvs, np, nT, g, tg, ps, hv, hT, hl, hp, hz, hlit, hg, hval⟩ := h
  exact ⟨T, la, pvs, np, nT, g, tg, ps, hv, k _ hT, k _ hl, hp.mono k, hz, hlit, hg, hval⟩
theorem truths_ext {C C' : List Gate} {ps : List (Int × Int)} (x : Ext C C') (h : ∀ p ∈ ps, LitIn C.length p.1 ∧ LitIn C.length p.2) (ρ : Nat → Bool) : truths (tvs ρ C') ps = truths (tvs ρ C) ps :=
  List.map_congr_left fun p hp => by rw [x.lv ρ (h p hp).1, x.lv ρ (h p hp).2]
theorem AskOne.grow {S : List (Addr × Obj)} {C C' : List Gate} {v : Value} (h : AskOne S C v) (x : Ext C C') : AskOne S C' v := by
  obtain ⟨T, la, pvs, np, nT, g, tg, ps, hv, hT, hl, hp, hz, hlit, hg, hval⟩ := h
  exact ⟨T, la, pvs, np, nT, g, tg, ps, hv, hT, hl, hp, hz, fun p hp => ⟨(hlit p hp).1.mono x.len, (hlit p hp).2.mono x.len⟩, hg.mono x.len, fun ρ => by rw [x.lv ρ hg, hval ρ, truths_ext x hlit]⟩
theorem AskOne.of_na {S : List (Addr × Obj)} {n : Nat} {C : List Gate} {ps : List (Int × Int)} {T la : Addr} {pvs : List Value} {np nT : Nat} {tg : Tok} (W : WFC n C) (hlit : ∀ p ∈ ps, LitIn C.length p.1 ∧ LitIn C.length p.2)
    (hT : (T, tupO [.ref la, .int (notAboveG C ps).2 tg] nT) ∈ S) (hl : (la, listOf pvs.toArray np) ∈ S) (hp : PairsAre S pvs ps) (hz : pvs.length ≤ 1000) : AskOne S (notAboveG C ps).1 (.ref T) := by
  have o := na_ok W hlit
  exact ⟨T, la, pvs, np, nT, _, tg, ps, rfl, hT, hl, hp, hz, fun p hp => ⟨(hlit p hp).1.mono o.ext.len, (hlit p hp).2.mono o.ext.len⟩, o.lit, fun ρ => by rw [o.val ρ, truths_ext o.ext hlit]⟩
theorem told_due {n : Nat} {C : List Gate} {g : Int} {ps : List (Int × Int)} (hval : ∀ ρ, lv (tvs ρ C) g = lexB (truths (tvs ρ C) ps)) : maskI (fun row => lv (tvs row.testBit C) g) (2 ^ n) = maskI (dueAt C ps) (2 ^ n) :=
  maskI_congr fun i _ => by rw [hval]; exact (lex_bits C i ps).symm
inductive JTold (f : Nat → Bool) (base : List (Addr × Obj)) (i : Nat) (ys : List Value) (nx : List (Addr × Obj)) : Prop
  | mk (xs : List Int) (hn : nx = base) (hI : IntsAre ys xs) (hs : xs.sum = maskI f i) : JTold f base i ys nx
theorem JTold.step {f : Nat → Bool} {base : List (Addr × Obj)} {i : Nat} {ys : List Value} {xs : List Int} {x : Int} {t : Tok} (hI : IntsAre ys xs) (hs : xs.sum = maskI f i) (hx : x = b2i (f i) * 2 ^ i) : JTold f base (i + 1) (ys ++ [.int x t]) base :=
  ⟨xs ++ [x], rfl, ints_snoc hI, by
    rw [List.sum_append, hs, hx]
    cases h : f i <;> simp [maskI, h, b2i]⟩
inductive JAsk (L : Nat) (ta aa : Addr) (n : Nat) (base : List (Addr × Obj)) (i : Nat) (mm : Str → Option Value) (nx : List (Addr × Obj)) : Prop
  | mk (oG : Obj) (v : Option Value) (t : Tok) (hn : nx = (L + 1 + 1 + 1 + 1, oG) :: base) (hd : oG.data = .cell v) (h1 : mm (Str.ofString "rows") = some (.int ((2 ^ n : Nat) : Int) t)) (h2 : mm (Str.ofString "asked") = some (.ref aa)) : JAsk L ta aa n base i mm nx
set_option pp.deepTerms false in
set_option pp.deepTerms.threshold 3 in
theorem law6 (w : World) (L fa : Addr) (cd : Value) (base h₀ : Heap) (mean : ExcName → Option Value) (mg mb : Str → Option Value) (s : Shared) (h : Heap) (tk : Nat) (m : Str → Option Value) (news : List (Addr × Obj)) (Q : Flow → Shared → Prop) (E : Value → Shared → Prop)
    (B : Below callerA base [] h₀) (F : Fr h₀ L h m) (X : (A.heap_1 w.params).In h₀) (oR oG oT oI oC : Obj) (vR vG vT : Option Value)
    (N : News h₀ L h ((L + 1 + 1 + 1 + 1 + 1, oR) :: (L + 1 + 1 + 1 + 1, oG) :: (L + 1 + 1 + 1, oT) :: news)) (T : Top V0 (looseW V0 []) mean mg mb h₀)
    (c ia aa : Addr) (dR : oR.data = .cell vR) (dG : oG.data = .cell vG) (dT : oT.data = .cell vT) (mI : (L + 1 + 1, oI) ∈ news) (dI : oI.data = .cell (some (.ref ia))) (mC : (L + 1, oC) ∈ news) (dC : oC.data = .cell (some (.ref c)))
    (hoff : OwnOff news [L + 1 + 1 + 1 + 1 + 1, L + 1 + 1 + 1 + 1, L + 1 + 1 + 1])
    (C : List Gate) (n ni na nl nf : Nat) (ivs avs : List Value) (lt ft : Addr) (v0 v1 : Value) (gm : Int) (tg t1 : Tok) (hn : n ≤ 3) (R : CirR news c C) (hsz : C.length ≤ 90000) (hW : WFC n C) (hi : (ia, listOf ivs.toArray ni) ∈ news) (hI : IntsAre ivs (inpsOf n))
    (haa : (aa, listOf avs.toArray na) ∈ news) (hae : EndsAt avs lt ft) (hlt : (lt, tupO [v1, .int gm tg] nl) ∈ news) (hgm : LitIn C.length gm) (hft : (ft, tupO [v0, .int 1 t1] nf) ∈ news)
    (hask : ∀ v ∈ avs, AskOne news C v)
    (m2 : m (Str.ofString "asked") = some (.ref aa))
    (hret : ∀ h' tk m', Fr h₀ L h' m' → Q (.ret (.bool true)) { s with heap := h', toks := tk }) :
    wpAny (model PySem.Challenge.rw_nz0381_01.prog w) (lawAr L fa cd) (execs (lawFn.body.drop 13) (lawEnv L fa cd)) Q E { s with heap := h, toks := tk } := by
  have hil : ivs.length = n := by rw [hI.length, inpsOf_len]
  have hrows : 2 ^ n ≤ 8 := Nat.pow_le_pow_right (n := 2) (by decide) hn
  have hrl : 2 ^ ivs.length ≤ 8 := hil ▸ hrows
  obtain ⟨hsm, hsz2⟩ := range_size (n := 2 ^ n) (by omega)
  revert X; k_fill; intro X
  unfold lawAr lawEnv lawFn dOf
  dsimp only [List.drop]
  walk_at "go"
  unfold Stop
  refine tables_spec w ((L + 1 + 1 + 1 + 1 + 1, oR) :: (L + 1 + 1 + 1 + 1, oG) :: (L + 1 + 1 + 1, oT) :: news) c ia C ivs n ni (R.mono fun p hp => .tail _ (.tail _ (.tail _ hp))) hn hsz hW (.tail _ (.tail _ (.tail _ hi))) hI _ _ _ _ _ _ _ _ _ _ _ _ _ _ _ _ _ _ _ _ B trivial F X N T rfl (by decide) (by decide) fun r new h2 tk2 F2 N2 off2 P2 => ?_
  obtain ⟨ta, tv, mt, rfl, rfl, hT⟩ := P2
  simp only [List.cons_append, List.nil_append] at N2
  have hta5 : @Ne Nat ta (L + 1 + 1 + 1 + 1 + 1) := off2 _ (.head _) _ (.head _)
  have hta4 : @Ne Nat ta (L + 1 + 1 + 1 + 1) := off2 _ (.head _) _ (.tail _ (.head _))
  have hta3 : @Ne Nat ta (L + 1 + 1 + 1) := off2 _ (.head _) _ (.tail _ (.tail _ (.head _)))
  clear off2
  walk_at "go"
  unfold Stop
  k_fold
  rename_i D _ lD _ _ oT2 dT2 h3 F3 N3
  obtain ⟨m3, tr, F4, hw3, ha3⟩ : ∃ m3 tr, Fr h₀ L h3 m3 ∧ m3 (Str.ofString "rows") = some (.int ((2 ^ n : Nat) : Int) tr) ∧ m3 (Str.ofString "asked") = some (.ref aa) := ⟨_, _, F3, by rw [← hil]; rfl, m2⟩
  have hoff2 : OwnOff ((L + 1 + 1 + 1 + 1 + 1, oR) :: (ta, listOf tv.toArray mt) :: (L + 1 + 1 + 1, oT2) :: news) [L + 1 + 1 + 1 + 1] :=
    ownOff_cons (by simp) (ownOff_cons (by simpa using hta4) (ownOff_cons (by simp) (ownOff_sub hoff (by walk_at "subs"))))
  replace N3 : News h₀ L h3 ((L + 1 + 1 + 1 + 1, oG) :: (L + 1 + 1 + 1 + 1 + 1, oR) :: (ta, listOf tv.toArray mt) :: (L + 1 + 1 + 1, oT2) :: news) := news_pick N3 (.tail _ (.tail _ (.tail _ (.head _)))) (news_pick N3 (.tail _ (.tail _ (.head _))) (news_pick N3 (.tail _ (.head _)) (news_pick N3 (.tail _ (.tail _ (.tail _ (.tail _ (.head _))))) fun p hp => N3 p (.tail _ (.tail _ (.tail _ (.tail _ (.tail _ hp))))))))
  have hoffR : OwnOff ((ta, listOf tv.toArray mt) :: (L + 1 + 1 + 1, oT2) :: news) [L + 1 + 1 + 1 + 1 + 1, L + 1 + 1 + 1 + 1] :=
    ownOff_cons (by simp; exact ⟨hta5, hta4⟩) (ownOff_cons (by simp) (ownOff_sub hoff (by walk_at "subs")))
  have hmT : (L + 1 + 1 + 1, oT2) ∈ (ta, listOf tv.toArray mt) :: (L + 1 + 1 + 1, oT2) :: news := .tail _ (.head _)
  have hmta : (ta, listOf tv.toArray mt) ∈ (ta, listOf tv.toArray mt) :: (L + 1 + 1 + 1, oT2) :: news := .head _
  have hsub : ∀ p ∈ news, p ∈ (ta, listOf tv.toArray mt) :: (L + 1 + 1 + 1, oT2) :: news := fun p hp => .tail _ (.tail _ hp)
  generalize (ta, listOf tv.toArray mt) :: (L + 1 + 1 + 1, oT2) :: news = base2 at N3 hoff2 hoffR hmT hmta hsub
  clear F3 lD hoff
  replace mI := hsub _ mI
  replace mC := hsub _ mC
  replace R := R.mono hsub
  replace hi := hsub _ hi
  replace haa := hsub _ haa
  replace hlt := hsub _ hlt
  replace hft := hsub _ hft
  replace hask := fun v hv => (hask v hv).mono hsub
  refine for_list (ax := aa) (lo := listOf avs.toArray na) (vs := avs) (n := na) (JAsk L ta aa n ((L + 1 + 1 + 1 + 1 + 1, oR) :: base2)) rfl rfl rfl F4 ?heval ?hJ ?turn ?done
  case heval => exact ldC F4 ha3 ⟨_, _, _, _, rfl, rfl, F4, N3, ⟨oG, _, _, rfl, dG, hw3, ha3⟩⟩
  case hJ => rintro i mm nx ⟨_, _, _, rfl, _, _, _⟩; exact .tail _ (.tail _ haa)
  case turn =>
    rintro i v mm _ I oI4 h4 tk4 hv ⟨oG2, vG2, tr2, rfl, dG2, hmr, hma⟩ hoI hoI2 F5 N5 Qt hQt
    obtain ⟨Tq, la, pvs, np, nT, g, tg2, ps, rfl, hTq, hla, hps, hpz, hlit, hg, hval⟩ := hask v (List.mem_of_getElem? hv)
    have hG4 : @Ne Nat (L + 1 + 1 + 1 + 1) I := hoI2 _ (.head _)
    have hR5 : @Ne Nat (L + 1 + 1 + 1 + 1 + 1) I := hoI2 _ (.tail _ (.head _))
    have hbI : OwnOff ((L + 1 + 1 + 1 + 1 + 1, oR) :: base2) [L + 1 + 1 + 1 + 1, I] := fun p hp b hb => by
      rcases List.mem_cons.mp hb with rfl | hb
      · exact hoff2 p hp _ (.head _)
      · rw [List.mem_singleton.mp hb]; exact hoI2 p (.tail _ hp)
    clear F4 N3 hoff2 hoffR
    generalize hb3 : (L + 1 + 1 + 1 + 1 + 1, oR) :: base2 = base3 at N5 hbI hoI2 hQt
    have hsub3 : ∀ p ∈ base2, p ∈ base3 := hb3 ▸ fun p hp => .tail _ hp
    clear hb3
    replace hTq := hsub3 _ hTq
    walk_at "go"
    unfold Stop
    rename_i h6 oG3 F6 N6 dG3
    refine range_1 F6 N6 fun r t₀ u₀ v₀ h7 tk7 hr F7 N7 => ?_
    refine srcU_range (JTold (fun row => lv (tvs row.testBit C) g) ((I, oI4) :: (L + 1 + 1 + 1 + 1, oG3) :: base3)) rfl F7 N7 hr hsm hsz2 (by omega) ⟨[], rfl, .nil, rfl⟩ ?t1 ?d1
    case t1 =>
      rintro k tk2 ys nx I2 oI2 C2 oC2 D2 m2 h8 tk8 E8 hk ⟨xs, rfl, hI', hs'⟩ hC hx F8 N8 off ap Qt2 hQt2
      clear F6 N6 F7 N7
      rw [Int.zero_add] at hx
      have hT4 := hsub3 _ hmT
      have hta4 := hsub3 _ hmta
      have hk64 : ((k : Nat) : Int) < 2 ^ 63 := by omega
      have hk0 : 0 ≤ ((k : Nat) : Int) := by omega
      revert hx
      intro hx
      walk_at "go"
      unfold Stop
      rename_i h9 F9 N9
      refine' reads_use (bit_spec w _ ta tv mt n k C g _ _ hn hT (.tail _ (.tail _ (.tail _ (.tail _ (.tail _ hta4))))) hg (by omega) hk) ?k1 ?k2 ?k3 ?k4 ?k5 ?kK ?kd ?ku ?_
      walk_at "use premises"
      rintro r h10 tk10 F10 N10 ⟨t10, rfl⟩
      clear F9 N9
      have hk8 : ((k : Nat) : Int) ≤ 1000000 := by omega
      generalize hb : b2i (lv (tvs k.testBit C) g) = x
      have hbx : x.natAbs < 2 ^ 64 := by rw [← hb]; cases lv (tvs k.testBit C) g <;> decide
      walk_at "go"
      exact hQt2 _ _ _ _ F10 N10 off (JTold.step hI' hs' (by rw [← hb]; simp))
    case d1 =>
      rintro ys nx D h8 tk8 ⟨xs, rfl, hI', hs'⟩ F8 N8 off
      clear F6 N6 F7 N7
      walk_at "go"
      unfold Stop
      refine LSm.sum_ints F8 N8 rfl (News.isList N8 (.head _)) hI' fun h9 tk9 t9 F9 N9 => ?_
      rw [hs']
      clear F8 N8
      replace N9 : News h₀ L h9 ((I, oI4) :: (L + 1 + 1 + 1 + 1, oG3) :: base3) := fun p hp => N9 p (.tail _ hp)
      have hT4 := hsub3 _ hmT
      have hta4 := hsub3 _ hmta
      walk_at "go"
      unfold Stop
      rename_i h10 F10 N10
      refine' reads_use (due_spec w _ ta la tv pvs mt np n ps C _ hn hT (.tail _ (.tail _ hta4)) (.tail _ (.tail _ (hsub3 _ hla))) (hps.mono fun q hq => .tail _ (.tail _ (hsub3 _ hq))) hlit (by omega) hpz) ?k1 ?k2 ?k3 ?k4 ?k5 ?kK ?kd ?ku ?_
      walk_at "use premises"
      rintro r h11 tk11 F11 N11 ⟨t11, rfl⟩
      clear F10 N10
      rw [told_due hval]
      walk_at "go"
      · rename_i hne
        exact absurd rfl hne
      · refine hQt _ _ (TPost.next (TEnd.intro (its := [(I, oI4)]) F11 N11 (fun p hp q hq => ?_) ⟨oG3, _, _, rfl, dG3, hmr, hma⟩))
        rw [List.mem_singleton.mp hq]
        exact it_off hoI2 p hp
  case done =>
    rintro mm _ h4 tk4 ⟨oG2, vG2, tr2, rfl, dG2, hmr, hma⟩ F5 N5
    show wpAny _ _ (execs _ _) _ _ _
    exact law7 w L fa cd base h₀ mean mg mb s h4 tk4 mm base2 Q E B F5 X oR oG2 oT2 oI oC _ _ (news_pick N5 (.tail _ (.head _)) (news_pick N5 (.head _) fun p hp => N5 p (.tail _ (.tail _ hp)))) T c ia ta aa dR dG2 hmT dT2 mI dI mC dC hoffR C n ni na mt nl nf ivs avs tv lt ft v0 v1 gm tg t1 tr2 hn R hsz hW hi hI hT hmta haa hae hlt hgm hft hmr hma hret
section
variable {prog : Program} {w : World} {A : Around} {E : Value → Shared → Prop} {s : Shared} {h₀ : Heap} {L l b : Addr} {m : Str → Option Value} {news news' : List (Addr × Obj)} {vs us : List Value} {n n2 : Nat}
theorem slice_upto_U {value slice : PySem.Expr} {k : Int} {u : Tok} {Q : Value → Shared → Prop} (F : Fr h₀ L s.heap m) (N : News h₀ L s.heap news) (hl : (l, listOf vs.toArray n) ∈ news) (hk : 0 ≤ k) (hz : vs.length ≤ 1000)
    (h : ∀ D h', Fr h₀ L h' m → News h₀ L h' ((D, listOf (vs.take k.toNat).toArray 0) :: news) → (∀ p ∈ news, p.1 < D) → Q (.ref D) { s with heap := h' })
    (hs : subscripted slice false (.ref l) (.ref s.heap.objs.size) = operate [.ref s.heap.objs.size, .ref l] (getItem (.ref l) (.ref s.heap.objs.size)) := by with_unfolding_all rfl)
    (ht : ∀ r, letTemporaryGo value (.ref l) r = pure () := by intro _; with_unfolding_all rfl) :
    wpAny (model prog w) A (subscriptTail value slice (.ref l) (.ref s.heap.objs.size)) Q E { s with heap := s.heap.push { cls := .type "slice", data := .fields #[.none, .int k u, .none] } } := by
  have e : slicePick vs.toArray none (some k) none = (vs.take k.toNat).toArray := by
    obtain ⟨kk, rfl⟩ := Int.eq_ofNat_of_zero_le hk
    rw [slicePick_upto']
    simp
  refine slice_list (hs := hs) (ht := ht) F N (News.isList N hl) .none (.int k u) (fun h' F' N' => ?_) (by simp; unfold sizeLine; omega)
  rw [e] at N'
  exact h _ h' F' N' fun p hp => Nat.lt_succ_of_lt (Heap.lt_size (N p hp).1)
theorem add_U {Q : Value → Shared → Prop} (F : Fr h₀ L s.heap m) (N : News h₀ L s.heap news) (hl : (l, listOf vs.toArray n) ∈ news) (hb : (b, listOf us.toArray n2) ∈ news) (hz : vs.length + us.length ≤ 1000)
    (h : ∀ D h', Fr h₀ L h' m → News h₀ L h' ((D, listOf (vs ++ us).toArray 0) :: news) → (∀ p ∈ news, p.1 < D) → Q (.ref D) { s with heap := h' }) :
    wpAny (model prog w) A (binaryOp .Add (.ref l) (.ref b)) Q E s :=
  add_lists (vs := vs) (ws := us) (hsz := by unfold sizeLine; omega) F N (News.isList N hl) (News.isList N hb) fun h' F' N' => h _ h' F' N' fun p hp => Heap.lt_size (N p hp).1
end
theorem ownOff_app {S : List (Addr × Obj)} {a b : List Addr} (x : OwnOff S a) (y : OwnOff S b) : OwnOff S (a ++ b) := fun p hp q hq => by
  rcases List.mem_append.mp hq with h | h
  · exact x p hp q h
  · exact y p hp q h
theorem pairs_one {S : List (Addr × Obj)} {t : Addr} {a b : Int} {ta tb : Tok} {n : Nat} (h : (t, tupO [.int a ta, .int b tb] n) ∈ S) : PairsAre S [Value.ref t] [(a, b)] := by
  refine ⟨rfl, fun i v e => ?_⟩
  cases i with
  | zero => cases e; exact ⟨_, rfl, ⟨_, _, _, _, _, _, h⟩⟩
  | succ i => simp at e
theorem pairs_app {S : List (Addr × Obj)} {vs us : List Value} {ps qs : List (Int × Int)} (x : PairsAre S vs ps) (y : PairsAre S us qs) : PairsAre S (vs ++ us) (ps ++ qs) := by
  refine ⟨by simp [x.1, y.1], fun i v e => ?_⟩
  by_cases hi : i < vs.length
  · rw [List.getElem?_append_left hi] at e
    rw [List.getElem?_append_left (by rw [← x.1]; exact hi)]
    exact x.2 i v e
  · rw [List.getElem?_append_right (by omega)] at e
    rw [List.getElem?_append_right (by rw [← x.1]; omega), ← x.1]
    exact y.2 _ v e
theorem pairs_take {S : List (Addr × Obj)} {vs : List Value} {ps : List (Int × Int)} (k : Nat) (x : PairsAre S vs ps) : PairsAre S (vs.take k) (ps.take k) := by
  refine ⟨by simp [x.1], fun i v e => ?_⟩
  by_cases hi : i < k
  · rw [List.getElem?_take_of_lt hi] at e ⊢
    exact x.2 i v e
  · rw [List.getElem?_eq_none (by simp; omega)] at e
    cases e
set_option pp.deepTerms false in
set_option pp.deepTerms.threshold 3 in
theorem law5 (w : World) (L fa : Addr) (cd : Value) (base h₀ : Heap) (mean : ExcName → Option Value) (mg mb : Str → Option Value) (s : Shared) (h : Heap) (tk : Nat) (m : Str → Option Value) (S : List (Addr × Obj)) (Q : Flow → Shared → Prop) (E : Value → Shared → Prop)
    (B : Below callerA base [] h₀) (F : Fr h₀ L h m) (X : (A.heap_1 w.params).In h₀) (oR oG oT oI oC oP : Obj) (vR vG vT : Option Value)
    (aa td c kl pl kd ia pa sa lt ft : Addr) (C : List Gate) (kvs pvs ivs avs pls svs : List Value) (nk np ni na npl ns nl nf n spot : Nat) (ko : Obj) (ps : List Int) (sps : List (Int × Int)) (v0 v1 : Value) (last : Int) (tl t1 : Tok)
    (N : News h₀ L h ((td, oP) :: (aa, listOf avs.toArray na) :: (L + 1 + 1 + 1 + 1 + 1, oR) :: (L + 1 + 1 + 1 + 1, oG) :: (L + 1 + 1 + 1, oT) :: (kl, listOf kvs.toArray nk) :: (pl, listOf pvs.toArray np) :: (kd, ko) :: S)) (T : Top V0 (looseW V0 []) mean mg mb h₀)
    (dR : oR.data = .cell vR) (dG : oG.data = .cell vG) (dT : oT.data = .cell vT) (mI : (L + 1 + 1, oI) ∈ S) (dI : oI.data = .cell (some (.ref ia))) (mC : (L + 1, oC) ∈ S) (dC : oC.data = .cell (some (.ref c)))
    (O : CirO S c kl pl kd) (V : CircV w S kd C kvs pvs ko) (hW : WFC n C) (hn : n ≤ 3) (hsz : C.length ≤ 80000) (hi : (ia, listOf ivs.toArray ni) ∈ S) (hI : IntsAre ivs (inpsOf n))
    (hoS : OwnOff S [aa, td, L + 1 + 1 + 1 + 1 + 1, L + 1 + 1 + 1 + 1, L + 1 + 1 + 1])
    (hoK : OwnOff [(aa, listOf avs.toArray na), (td, oP), (L + 1 + 1 + 1 + 1 + 1, oR), (L + 1 + 1 + 1 + 1, oG), (L + 1 + 1 + 1, oT)] [kl, pl, kd])
    (hat : @Ne Nat aa td) (haL : @LT.lt Nat _ (L + 1 + 1 + 1 + 1 + 1) aa) (htL : @Ne Nat (L + 1 + 1 + 1 + 1 + 1) td ∧ @Ne Nat (L + 1 + 1 + 1 + 1) td ∧ @Ne Nat (L + 1 + 1 + 1) td)
    (hTp : TapeAt w S spot oP) (hsp : spot ≤ 800) (hpa : (pa, listOf pls.toArray npl) ∈ S) (hPI : IntsAre pls ps) (hp0 : 0 < pls.length) (hp1 : pls.length ≤ 63) (hPL : ∀ p ∈ ps, LitIn C.length p)
    (hsa : (sa, listOf svs.toArray ns) ∈ S) (hSP : PairsAre S svs sps) (hs6 : svs.length ≤ 6) (hSL : ∀ p ∈ sps, LitIn C.length p.1 ∧ LitIn C.length p.2)
    (ha2 : avs[((-2 : Int) + (avs.length : Int)).toNat]? = some (.ref lt)) (hal : -(avs.length : Int) ≤ (-2 : Int)) (ha0 : avs[(0 : Int).toNat]? = some (.ref ft)) (haz : avs.length ≤ 100) (hlt : (lt, tupO [v1, .int last tl] nl) ∈ S) (hft : (ft, tupO [v0, .int 1 t1] nf) ∈ S)
    (hll : LitIn C.length last) (hagain : ∀ C', Ext C C' → notAboveG C' sps = (C', last)) (hask : ∀ v ∈ avs, AskOne S C v)
    (m1 : m (Str.ofString "asked") = some (.ref aa)) (m2 : m (Str.ofString "tape") = some (.ref td)) (m3 : m (Str.ofString "pool") = some (.ref pa)) (m4 : m (Str.ofString "some") = some (.ref sa))
    (hret : ∀ h' tk m', Fr h₀ L h' m' → Q (.ret (.bool true)) { s with heap := h', toks := tk }) :
    wpAny (model PySem.Challenge.rw_nz0381_01.prog w) (lawAr L fa cd) (execs (lawFn.body.drop 8) (lawEnv L fa cd)) Q E { s with heap := h, toks := tk } := by
  have hoP : OwnOff S [td] := ownOff_sub hoS (by walk_at "subs")
  have hfx : ∀ p ∈ [(aa, listOf avs.toArray na), (L + 1 + 1 + 1 + 1 + 1, oR), (L + 1 + 1 + 1 + 1, oG), (L + 1 + 1 + 1, oT), (kl, listOf kvs.toArray nk), (pl, listOf pvs.toArray np), (kd, ko)], p.1 ∉ ([td] : List Addr) := by
    have q := hoK (td, oP) (.tail _ (.head _))
    have q1 := q kl (by simp)
    have q2 := q pl (by simp)
    have q3 := q kd (by simp)
    intro p hp hm
    have e := List.mem_singleton.mp hm
    simp only [List.mem_cons, List.not_mem_nil, or_false] at hp
    rcases hp with rfl | rfl | rfl | rfl | rfl | rfl | rfl
    · exact hat e
    · exact absurd e (by change ¬ (@Eq Nat _ _); omega)
    · exact absurd e (by change ¬ (@Eq Nat _ _); omega)
    · exact absurd e (by change ¬ (@Eq Nat _ _); omega)
    · exact q1 e.symm
    · exact q2 e.symm
    · exact q3 e.symm
  revert X; k_fill; intro X
  unfold lawAr lawEnv lawFn dOf
  dsimp only [List.drop]
  walk_at "go"
  unfold Stop
  rename_i h1 F1 N1
  refine' calls_useF [(aa, listOf avs.toArray na), (L + 1 + 1 + 1 + 1 + 1, oR), (L + 1 + 1 + 1 + 1, oG), (L + 1 + 1 + 1, oT), (kl, listOf kvs.toArray nk), (pl, listOf pvs.toArray np), (kd, ko)] (lit_spec w S td pa oP spot pls ps npl hTp (by omega) hpa hPI hp0 hp1 hoP) ?k1 ?k2 ?k3 ?k4 ?k5 ?kK ?kd ?ku (fun p hp => hp) hfx ?_
  walk_at "use premises"
  rintro r muts' new h2 tk2 F2 N2 fr2 K2 ⟨x, t, o2, hx, ho2⟩
  simp only [List.cons_append, List.nil_append] at N2
  clear fr2 K2 F1 N1
  walk_at "go"
  unfold Stop
  rename_i D1 _ q1 l2 _ q2 l3 _ q3
  obtain ⟨a1, a2, a3, a4, a5, a6, a7, a8, a9⟩ := q1
  obtain ⟨_, _, b0, b1, b2, b3, b4, b5, b6, b7, b8, b9⟩ := l1
  clear q2 q3
  obtain ⟨S2, nD, nl2, hS2, hD1, hl2, N3, hoS2⟩ : ∃ S2 nD nl2, (∀ p ∈ S, p ∈ S2) ∧ (D1, tupO [.int last tl, .int x t] nD) ∈ S2 ∧ (l', listOf ([Value.ref D1] ++ svs.take 2).toArray nl2) ∈ S2 ∧
      News h₀ L h' ((td, o2) :: (aa, listOf avs.toArray na) :: (L + 1 + 1 + 1 + 1 + 1, oR) :: (L + 1 + 1 + 1 + 1, oG) :: (L + 1 + 1 + 1, oT) :: (kl, listOf kvs.toArray nk) :: (pl, listOf pvs.toArray np) :: (kd, ko) :: S2) ∧ OwnOff S2 [kl, pl, kd, aa, td, L + 1 + 1 + 1 + 1 + 1, L + 1 + 1 + 1 + 1, L + 1 + 1 + 1] :=
    ⟨(l', _) :: (D1, _) :: S, _, _, fun p hp => (List.Mem.tail _ (List.Mem.tail _ hp)), (List.Mem.tail _ (List.Mem.head _)), (List.Mem.head _),
      news_pick N' ((List.Mem.tail _ (List.Mem.tail _ (List.Mem.tail _ (List.Mem.tail _ (List.Mem.head _)))))) (news_pick N' ((List.Mem.tail _ (List.Mem.tail _ (List.Mem.tail _ (List.Mem.tail _ (List.Mem.tail _ (List.Mem.head _))))))) (news_pick N' ((List.Mem.tail _ (List.Mem.tail _ (List.Mem.tail _ (List.Mem.tail _ (List.Mem.tail _ (List.Mem.tail _ (List.Mem.head _)))))))) (news_pick N' ((List.Mem.tail _ (List.Mem.tail _ (List.Mem.tail _ (List.Mem.tail _ (List.Mem.tail _ (List.Mem.tail _ (List.Mem.tail _ (List.Mem.head _))))))))) (news_pick N' ((List.Mem.tail _ (List.Mem.tail _ (List.Mem.tail _ (List.Mem.tail _ (List.Mem.tail _ (List.Mem.tail _ (List.Mem.tail _ (List.Mem.tail _ (List.Mem.head _)))))))))) (news_pick N' ((List.Mem.tail _ (List.Mem.tail _ (List.Mem.tail _ (List.Mem.tail _ (List.Mem.tail _ (List.Mem.tail _ (List.Mem.tail _ (List.Mem.tail _ (List.Mem.tail _ (List.Mem.head _))))))))))) (news_pick N' ((List.Mem.tail _ (List.Mem.tail _ (List.Mem.tail _ (List.Mem.tail _ (List.Mem.tail _ (List.Mem.tail _ (List.Mem.tail _ (List.Mem.tail _ (List.Mem.tail _ (List.Mem.tail _ (List.Mem.head _)))))))))))) (news_pick N' ((List.Mem.tail _ (List.Mem.tail _ (List.Mem.tail _ (List.Mem.tail _ (List.Mem.tail _ (List.Mem.tail _ (List.Mem.tail _ (List.Mem.tail _ (List.Mem.tail _ (List.Mem.tail _ (List.Mem.tail _ (List.Mem.head _))))))))))))) (news_pick N' ((List.Mem.head _)) (news_pick N' ((List.Mem.tail _ (List.Mem.tail _ (List.Mem.tail _ (List.Mem.head _))))) fun p hp => N' p ((List.Mem.tail _ (List.Mem.tail _ (List.Mem.tail _ (List.Mem.tail _ (List.Mem.tail _ (List.Mem.tail _ (List.Mem.tail _ (List.Mem.tail _ (List.Mem.tail _ (List.Mem.tail _ (List.Mem.tail _ (List.Mem.tail _ hp)))))))))))))))))))))),
      ownOff_cons (by walk_at "nes") (ownOff_cons (by walk_at "nes") (ownOff_app O.off hoS))⟩
  clear N' b0 b1 b2 b3 b4 b5 b6 b7 b8 b9 a1 a2 a3 a4 a5 a6 a7 a8 a9
  replace hpa := hS2 _ hpa
  replace hsa := hS2 _ hsa
  replace mI := hS2 _ mI
  replace mC := hS2 _ mC
  replace hi := hS2 _ hi
  replace hlt := hS2 _ hlt
  replace hft := hS2 _ hft
  have hSP2 := hSP.mono hS2
  replace V := V.mono hS2
  replace hask := fun v hv => (hask v hv).mono hS2
  have O2 : CirO S2 c kl pl kd := ⟨O.inst.mono hS2, O.ne1, O.ne2, O.ne3, ownOff_sub hoS2 (by walk_at "subs")⟩
  refine' calls_useF [(aa, listOf avs.toArray na), (L + 1 + 1 + 1 + 1 + 1, oR), (L + 1 + 1 + 1 + 1, oG), (L + 1 + 1 + 1, oT), (kl, listOf kvs.toArray nk), (pl, listOf pvs.toArray np), (kd, ko)] (lit_spec w S2 td pa o2 (spot + 2) pls ps npl (ho2.mono hS2) (by omega) hpa hPI hp0 hp1 (ownOff_sub hoS2 (by walk_at "subs"))) ?k1 ?k2 ?k3 ?k4 ?k5 ?kK ?kd ?ku (fun p hp => hp) hfx ?_
  walk_at "use premises"
  rintro r muts' new h4 tk4 F4 N4 fr4 K4 ⟨y, t4, o4, hy, ho4⟩
  simp only [List.cons_append, List.nil_append] at N4
  clear fr4 K4 F' N3 ho2 hoS hoP O hSP hTp
  walk_at "go"
  unfold Stop
  rename_i D2 _ c1 l6 _ c2 h5 F5 N5
  obtain ⟨a1, a2, a3, a4, a5, a6, a7, a8, a9⟩ := c1
  obtain ⟨_, b0, b1, b2, b3, b4, b5, b6, b7, b8, b9⟩ := l1
  clear c2
  obtain ⟨S3, mvs, mps, nm, hS3, hmx, hmp, hml, hmz, N6, hoS3⟩ : ∃ S3 mvs mps nm, (∀ p ∈ S2, p ∈ S3) ∧ (l', listOf (List.toArray mvs) nm) ∈ S3 ∧ PairsAre S3 mvs mps ∧ (∀ p ∈ mps, LitIn C.length p.1 ∧ LitIn C.length p.2) ∧ mvs.length ≤ 4 ∧
      News h₀ L h5 ((td, o4) :: (aa, listOf avs.toArray na) :: (L + 1 + 1 + 1 + 1 + 1, oR) :: (L + 1 + 1 + 1 + 1, oG) :: (L + 1 + 1 + 1, oT) :: (kl, listOf kvs.toArray nk) :: (pl, listOf pvs.toArray np) :: (kd, ko) :: S3) ∧ OwnOff S3 [kl, pl, kd, aa, td, L + 1 + 1 + 1 + 1 + 1, L + 1 + 1 + 1 + 1, L + 1 + 1 + 1] := by
    refine ⟨(l', listOf (([Value.ref D1] ++ svs.take 2) ++ [Value.ref D2]).toArray 0) :: (D2, tupO [.int y t4, .int (-last) _] _) :: S2, ([Value.ref D1] ++ svs.take 2) ++ [Value.ref D2], ([(last, x)] ++ sps.take 2) ++ [(y, -last)], 0, fun p hp => (List.Mem.tail _ (List.Mem.tail _ hp)), (List.Mem.head _), ?_, ?_, ?_,
      news_pick N5 ((List.Mem.tail _ (List.Mem.tail _ (List.Mem.tail _ (List.Mem.head _))))) (news_pick N5 ((List.Mem.tail _ (List.Mem.tail _ (List.Mem.tail _ (List.Mem.tail _ (List.Mem.head _)))))) (news_pick N5 ((List.Mem.tail _ (List.Mem.tail _ (List.Mem.tail _ (List.Mem.tail _ (List.Mem.tail _ (List.Mem.head _))))))) (news_pick N5 ((List.Mem.tail _ (List.Mem.tail _ (List.Mem.tail _ (List.Mem.tail _ (List.Mem.tail _ (List.Mem.tail _ (List.Mem.head _)))))))) (news_pick N5 ((List.Mem.tail _ (List.Mem.tail _ (List.Mem.tail _ (List.Mem.tail _ (List.Mem.tail _ (List.Mem.tail _ (List.Mem.tail _ (List.Mem.head _))))))))) (news_pick N5 ((List.Mem.tail _ (List.Mem.tail _ (List.Mem.tail _ (List.Mem.tail _ (List.Mem.tail _ (List.Mem.tail _ (List.Mem.tail _ (List.Mem.tail _ (List.Mem.head _)))))))))) (news_pick N5 ((List.Mem.tail _ (List.Mem.tail _ (List.Mem.tail _ (List.Mem.tail _ (List.Mem.tail _ (List.Mem.tail _ (List.Mem.tail _ (List.Mem.tail _ (List.Mem.tail _ (List.Mem.head _))))))))))) (news_pick N5 ((List.Mem.tail _ (List.Mem.tail _ (List.Mem.tail _ (List.Mem.tail _ (List.Mem.tail _ (List.Mem.tail _ (List.Mem.tail _ (List.Mem.tail _ (List.Mem.tail _ (List.Mem.tail _ (List.Mem.head _)))))))))))) (news_pick N5 ((List.Mem.head _)) (news_pick N5 ((List.Mem.tail _ (List.Mem.tail _ (List.Mem.head _)))) fun p hp => N5 p ((List.Mem.tail _ (List.Mem.tail _ (List.Mem.tail _ (List.Mem.tail _ (List.Mem.tail _ (List.Mem.tail _ (List.Mem.tail _ (List.Mem.tail _ (List.Mem.tail _ (List.Mem.tail _ (List.Mem.tail _ hp))))))))))))))))))))),
      ownOff_cons (by walk_at "nes") (ownOff_cons (by walk_at "nes") hoS2)⟩
    · exact pairs_app (pairs_app (pairs_one ((List.Mem.tail _ (List.Mem.tail _ hD1)))) (pairs_take 2 (hSP2.mono fun p hp => (List.Mem.tail _ (List.Mem.tail _ hp))))) (pairs_one ((List.Mem.tail _ (List.Mem.head _))))
    · intro p hp
      simp only [List.mem_append, List.mem_singleton] at hp
      rcases hp with (rfl | hp) | rfl
      · exact ⟨hll, hx.lit hPL⟩
      · exact hSL p (List.mem_of_mem_take hp)
      · exact ⟨hy.lit hPL, hll.neg⟩
    · simp; omega
  clear N5 b0 b1 b2 b3 b4 b5 b6 b7 b8 b9 a1 a2 a3 a4 a5 a6 a7 a8 a9
  replace hsa := hS3 _ hsa
  replace mI := hS3 _ mI
  replace mC := hS3 _ mC
  replace hi := hS3 _ hi
  replace hlt := hS3 _ hlt
  replace hft := hS3 _ hft
  replace hSP2 := hSP2.mono hS3
  replace V := V.mono hS3
  replace hask := fun v hv => (hask v hv).mono hS3
  have O3 : CirO S3 c kl pl kd := ⟨O2.inst.mono hS3, O2.ne1, O2.ne2, O2.ne3, ownOff_sub hoS3 (by walk_at "subs")⟩
  have hok := na_ok hW hml
  have hmlen : mps.length ≤ 4 := by have := hmp.1; omega
  have hkt := hoK (td, oP) ((List.Mem.tail _ (List.Mem.head _)))
  have hka := hoK _ ((List.Mem.head _))
  have hk5 := hoK _ ((List.Mem.tail _ (List.Mem.tail _ (List.Mem.head _))))
  have hk4 := hoK _ ((List.Mem.tail _ (List.Mem.tail _ (List.Mem.tail _ (List.Mem.head _)))))
  have hk3 := hoK _ ((List.Mem.tail _ (List.Mem.tail _ (List.Mem.tail _ (List.Mem.tail _ (List.Mem.head _))))))
  have hoK4 : OwnOff [(td, o4), (aa, listOf avs.toArray na), (L + 1 + 1 + 1 + 1 + 1, oR), (L + 1 + 1 + 1 + 1, oG), (L + 1 + 1 + 1, oT)] [kl, pl, kd] := by
    intro p hp
    simp only [List.mem_cons, List.not_mem_nil, or_false] at hp
    rcases hp with rfl | rfl | rfl | rfl | rfl
    · exact hkt
    · exact hka
    · exact hk5
    · exact hk4
    · exact hk3
  refine op_useF [(td, o4), (aa, listOf avs.toArray na), (L + 1 + 1 + 1 + 1 + 1, oR), (L + 1 + 1 + 1 + 1, oG), (L + 1 + 1 + 1, oT)] (not_above_spec w S3 c kl pl kd l' C kvs pvs mvs nk np nm ko mps O3 V hmx hmp (by omega)) O3 hoK4 (by k_asm) F5 (by k_asm) N6 (by k_asm) (by first | exact rfl | assumption) (by ktr_room) (by ktr_units) fun t5 kvs' pvs' nk' np' ko' new h6 tk6 F6 N7 fr6 i6 V6 O6 => ?_
  simp only [List.cons_append, List.nil_append] at N7
  have hS4 : ∀ p ∈ S3, p ∈ new ++ S3 := fun p hp => List.mem_append_right _ hp
  have hoS4 : OwnOff (new ++ S3) [kl, pl, kd, aa, td, L + 1 + 1 + 1 + 1 + 1, L + 1 + 1 + 1 + 1, L + 1 + 1 + 1] := by
    refine ownOff_app (a := [kl, pl, kd]) O6.off fun p hp b hb => ?_
    rcases List.mem_append.mp hp with hp | hp
    · simp only [List.mem_cons, List.not_mem_nil, or_false] at hb
      rcases hb with rfl | rfl | rfl | rfl | rfl
      · exact i6 p hp _ ((List.Mem.tail _ (List.Mem.head _)))
      · exact i6 p hp _ ((List.Mem.head _))
      · exact i6 p hp _ ((List.Mem.tail _ (List.Mem.tail _ (List.Mem.head _))))
      · exact i6 p hp _ ((List.Mem.tail _ (List.Mem.tail _ (List.Mem.tail _ (List.Mem.head _)))))
      · exact i6 p hp _ ((List.Mem.tail _ (List.Mem.tail _ (List.Mem.tail _ (List.Mem.tail _ (List.Mem.head _))))))
    · exact hoS3 p hp b (by simp only [List.mem_cons] at hb ⊢; exact .inr (.inr (.inr hb)))
  generalize new ++ S3 = S4 at N7 V6 O6 hS4 hoS4
  clear fr6 i6 N6 F5
  replace hsa := hS4 _ hsa
  replace mI := hS4 _ mI
  replace mC := hS4 _ mC
  replace hi := hS4 _ hi
  replace hlt := hS4 _ hlt
  replace hft := hS4 _ hft
  replace hmx := hS4 _ hmx
  replace hmp := hmp.mono hS4
  replace hSP2 := hSP2.mono hS4
  replace hask := fun v hv => ((hask v hv).mono hS4).grow hok.ext
  have hval := hok.val
  clear hoS2 hoS3 hoK hoK4 hfx
  have ha1 : @Ne Nat aa kl := hka kl (by simp)
  have ha2' : @Ne Nat aa pl := hka pl (by simp)
  have ha3 : @Ne Nat aa kd := hka kd (by simp)
  obtain ⟨dc, e1, e2, e3, u1, u2, u3, hc, hdc⟩ := O6.inst
  walk_at "go"
  unfold Stop
  k_fold
  rename_i D3 _ c3 h7 F7 N8
  obtain ⟨a1, a2, a3, a4, a5, a6, a7, a8, a9⟩ := c3
  obtain ⟨S5, nD3, hS5, hD3, N9, hoS5⟩ : ∃ S5 nD3, (∀ p ∈ S4, p ∈ S5) ∧ (D3, tupO [.ref l', .int (notAboveG C mps).2 t5] nD3) ∈ S5 ∧
      News h₀ L h7 ((td, o4) :: (aa, listOf (avs ++ [Value.ref D3]).toArray (na + 1)) :: (L + 1 + 1 + 1 + 1 + 1, oR) :: (L + 1 + 1 + 1 + 1, oG) :: (L + 1 + 1 + 1, oT) :: (kl, listOf kvs'.toArray nk') :: (pl, listOf pvs'.toArray np') :: (kd, ko') :: S5) ∧ OwnOff S5 [kl, pl, kd, aa, td, L + 1 + 1 + 1 + 1 + 1, L + 1 + 1 + 1 + 1, L + 1 + 1 + 1] :=
    ⟨(D3, _) :: S4, _, fun p hp => (List.Mem.tail _ hp), (List.Mem.head _),
      news_pick N8 ((List.Mem.tail _ (List.Mem.head _))) (news_pick N8 ((List.Mem.tail _ (List.Mem.tail _ (List.Mem.head _)))) (news_pick N8 ((List.Mem.tail _ (List.Mem.tail _ (List.Mem.tail _ (List.Mem.head _))))) (news_pick N8 ((List.Mem.tail _ (List.Mem.tail _ (List.Mem.tail _ (List.Mem.tail _ (List.Mem.head _)))))) (news_pick N8 ((List.Mem.tail _ (List.Mem.tail _ (List.Mem.tail _ (List.Mem.tail _ (List.Mem.tail _ (List.Mem.head _))))))) (news_pick N8 ((List.Mem.tail _ (List.Mem.tail _ (List.Mem.tail _ (List.Mem.tail _ (List.Mem.tail _ (List.Mem.tail _ (List.Mem.head _)))))))) (news_pick N8 ((List.Mem.tail _ (List.Mem.tail _ (List.Mem.tail _ (List.Mem.tail _ (List.Mem.tail _ (List.Mem.tail _ (List.Mem.tail _ (List.Mem.head _))))))))) (news_pick N8 ((List.Mem.tail _ (List.Mem.tail _ (List.Mem.tail _ (List.Mem.tail _ (List.Mem.tail _ (List.Mem.tail _ (List.Mem.tail _ (List.Mem.tail _ (List.Mem.head _)))))))))) (news_pick N8 ((List.Mem.head _)) fun p hp => N8 p ((List.Mem.tail _ (List.Mem.tail _ (List.Mem.tail _ (List.Mem.tail _ (List.Mem.tail _ (List.Mem.tail _ (List.Mem.tail _ (List.Mem.tail _ (List.Mem.tail _ hp)))))))))))))))))),
      ownOff_cons (by walk_at "nes") hoS4⟩
  clear N8 a1 a2 a3 a4 a5 a6 a7 a8 a9 hoS4
  replace hsa := hS5 _ hsa
  replace mI := hS5 _ mI
  replace mC := hS5 _ mC
  replace hi := hS5 _ hi
  replace hlt := hS5 _ hlt
  replace hft := hS5 _ hft
  replace hmx := hS5 _ hmx
  replace hc := hS5 _ hc
  replace hdc := hS5 _ hdc
  replace hmp := hmp.mono hS5
  replace hSP2 := hSP2.mono hS5
  replace hask := fun v hv => (hask v hv).mono hS5
  have V7 := V6.mono hS5
  have O7 : CirO S5 c kl pl kd := ⟨O6.inst.mono hS5, O6.ne1, O6.ne2, O6.ne3, ownOff_sub hoS5 (by walk_at "subs")⟩
  have hz7 : (notAboveG C mps).1.length ≤ 89000 := by
    have q := (foldNA_len mps.reverse (C, 1)).2
    rw [List.length_reverse] at q
    dsimp only at q
    show (foldNA (C, 1) mps.reverse).1.length ≤ 89000
    omega
  have R7 := (CirR.of O7 V7).mono (news' := (td, o4) :: (aa, listOf (avs ++ [Value.ref D3]).toArray (na + 1)) :: (L + 1 + 1 + 1 + 1 + 1, oR) :: (L + 1 + 1 + 1 + 1, oG) :: (L + 1 + 1 + 1, oT) :: (kl, listOf kvs'.toArray nk') :: (pl, listOf pvs'.toArray np') :: (kd, ko') :: S5) fun p hp => (List.Mem.tail _ (List.Mem.tail _ (List.Mem.tail _ (List.Mem.tail _ (List.Mem.tail _ hp)))))
  refine' reads_use (size_R R7 (by omega)) ?k1 ?k2 ?k3 ?k4 ?k5 ?kK ?kd ?ku ?_
  walk_at "use premises"
  rintro r h8 tk8 F8 N10 ⟨t8, rfl⟩
  clear F7 N9
  walk_at "go"
  unfold Stop
  rename_i h9 F9 N11
  have hA := hagain _ hok.ext
  have hB := hok.again _ (Ext.refl _)
  have hoK5 : OwnOff [(td, o4), (aa, listOf (avs ++ [Value.ref D3]).toArray (na + 1)), (L + 1 + 1 + 1 + 1 + 1, oR), (L + 1 + 1 + 1 + 1, oG), (L + 1 + 1 + 1, oT)] [kl, pl, kd] := by
    intro p hp
    simp only [List.mem_cons, List.not_mem_nil, or_false] at hp
    rcases hp with rfl | rfl | rfl | rfl | rfl
    · exact hkt
    · exact hka
    · exact hk5
    · exact hk4
    · exact hk3
  refine op_useF [(td, o4), (aa, listOf (avs ++ [Value.ref D3]).toArray (na + 1)), (L + 1 + 1 + 1 + 1 + 1, oR), (L + 1 + 1 + 1 + 1, oG), (L + 1 + 1 + 1, oT)] (not_above_spec w S5 c kl pl kd sa _ kvs' pvs' svs nk' np' ns ko' sps O7 V7 hsa hSP2 (by have := hSP2.1; omega)) O7 hoK5 (by k_asm) F9 (by k_asm) N11 (by k_asm) (by first | exact rfl | assumption) (by ktr_room) (by ktr_units) fun t9 kvs2 pvs2 nk2 np2 ko2 new2 h10 tk10 F10 N12 fr10 i10 V10 O10 => ?_
  rw [hA] at V10
  rw [hA]
  simp only [List.cons_append, List.nil_append] at N12
  dsimp only at V10
  have hS6 : ∀ p ∈ S5, p ∈ new2 ++ S5 := fun p hp => List.mem_append_right _ hp
  have hoS6 : OwnOff (new2 ++ S5) [kl, pl, kd, aa, td, L + 1 + 1 + 1 + 1 + 1, L + 1 + 1 + 1 + 1, L + 1 + 1 + 1] := by
    refine ownOff_app (a := [kl, pl, kd]) O10.off fun p hp b hb => ?_
    rcases List.mem_append.mp hp with hp | hp
    · simp only [List.mem_cons, List.not_mem_nil, or_false] at hb
      rcases hb with rfl | rfl | rfl | rfl | rfl
      · exact i10 p hp _ ((List.Mem.tail _ (List.Mem.head _)))
      · exact i10 p hp _ ((List.Mem.head _))
      · exact i10 p hp _ ((List.Mem.tail _ (List.Mem.tail _ (List.Mem.head _))))
      · exact i10 p hp _ ((List.Mem.tail _ (List.Mem.tail _ (List.Mem.tail _ (List.Mem.head _)))))
      · exact i10 p hp _ ((List.Mem.tail _ (List.Mem.tail _ (List.Mem.tail _ (List.Mem.tail _ (List.Mem.head _))))))
    · exact hoS5 p hp b (by simp only [List.mem_cons] at hb ⊢; exact .inr (.inr (.inr hb)))
  generalize new2 ++ S5 = S6 at N12 V10 O10 hS6 hoS6
  clear fr10 i10 N11 F9 hoS5
  replace hsa := hS6 _ hsa
  replace mI := hS6 _ mI
  replace mC := hS6 _ mC
  replace hi := hS6 _ hi
  replace hlt := hS6 _ hlt
  replace hft := hS6 _ hft
  replace hmx := hS6 _ hmx
  replace hD3 := hS6 _ hD3
  replace hc := hS6 _ hc
  replace hdc := hS6 _ hdc
  replace hmp := hmp.mono hS6
  replace hask := fun v hv => (hask v hv).mono hS6
  walk_at "go"
  · rename_i hne
    exact absurd rfl hne
  unfold Stop
  rename_i _
  refine op_useF [(td, o4), (aa, listOf (avs ++ [Value.ref D3]).toArray (na + 1)), (L + 1 + 1 + 1 + 1 + 1, oR), (L + 1 + 1 + 1 + 1, oG), (L + 1 + 1 + 1, oT)] (not_above_spec w S6 c kl pl kd l' _ kvs2 pvs2 mvs nk2 np2 nm ko2 mps O10 V10 hmx hmp (by omega)) O10 hoK5 (by k_asm) F10 (by k_asm) N12 (by k_asm) (by first | exact rfl | assumption) (by ktr_room) (by ktr_units) fun t11 kvs3 pvs3 nk3 np3 ko3 new3 h12 tk12 F12 N14 fr12 i12 V12 O12 => ?_
  rw [hB] at V12
  rw [hB]
  simp only [List.cons_append, List.nil_append] at N14
  dsimp only at V12
  have hS7 : ∀ p ∈ S6, p ∈ new3 ++ S6 := fun p hp => List.mem_append_right _ hp
  have hoS7 : OwnOff (new3 ++ S6) [kl, pl, kd, aa, td, L + 1 + 1 + 1 + 1 + 1, L + 1 + 1 + 1 + 1, L + 1 + 1 + 1] := by
    refine ownOff_app (a := [kl, pl, kd]) O12.off fun p hp b hb => ?_
    rcases List.mem_append.mp hp with hp | hp
    · simp only [List.mem_cons, List.not_mem_nil, or_false] at hb
      rcases hb with rfl | rfl | rfl | rfl | rfl
      · exact i12 p hp _ ((List.Mem.tail _ (List.Mem.head _)))
      · exact i12 p hp _ ((List.Mem.head _))
      · exact i12 p hp _ ((List.Mem.tail _ (List.Mem.tail _ (List.Mem.head _))))
      · exact i12 p hp _ ((List.Mem.tail _ (List.Mem.tail _ (List.Mem.tail _ (List.Mem.head _)))))
      · exact i12 p hp _ ((List.Mem.tail _ (List.Mem.tail _ (List.Mem.tail _ (List.Mem.tail _ (List.Mem.head _))))))
    · exact hoS6 p hp b (by simp only [List.mem_cons] at hb ⊢; exact .inr (.inr (.inr hb)))
  generalize new3 ++ S6 = S7 at N14 V12 O12 hS7 hoS7
  clear fr12 i12 N12 F10 hoS6
  replace mI := hS7 _ mI
  replace mC := hS7 _ mC
  replace hi := hS7 _ hi
  replace hft := hS7 _ hft
  replace hmx := hS7 _ hmx
  replace hD3 := hS7 _ hD3
  replace hc := hS7 _ hc
  replace hdc := hS7 _ hdc
  replace hmp := hmp.mono hS7
  replace hask := fun v hv => (hask v hv).mono hS7
  have hlast : (avs ++ [Value.ref D3])[((-1 : Int) + ((avs ++ [Value.ref D3]).length : Int)).toNat]? = some (.ref D3) := last_at
  have hlow : -((avs ++ [Value.ref D3]).length : Int) ≤ (-1 : Int) := last_lo
  walk_at "go"
  · rename_i hne
    exact absurd rfl hne
  unfold Stop
  k_fold
  have R12 := (CirR.of O12 V12).mono (news' := (td, o4) :: (aa, listOf (avs ++ [Value.ref D3]).toArray (na + 1)) :: (L + 1 + 1 + 1 + 1 + 1, oR) :: (L + 1 + 1 + 1 + 1, oG) :: (L + 1 + 1 + 1, oT) :: (kl, listOf kvs3.toArray nk3) :: (pl, listOf pvs3.toArray np3) :: (kd, ko3) :: S7) fun p hp => (List.Mem.tail _ (List.Mem.tail _ (List.Mem.tail _ (List.Mem.tail _ (List.Mem.tail _ hp)))))
  refine' reads_use (size_R R12 (by omega)) ?k1 ?k2 ?k3 ?k4 ?k5 ?kK ?kd ?ku ?_
  walk_at "use premises"
  rintro r h13 tk13 F13 N15 ⟨t13, rfl⟩
  clear F12 N14
  walk_at "goTo"
  · rename_i hne
    exact absurd rfl hne
  unfold Stop
  refine law6 w L fa cd base h₀ mean mg mb s h13 tk13 _ ((td, o4) :: (aa, listOf (avs ++ [Value.ref D3]).toArray (na + 1)) :: (kl, listOf kvs3.toArray nk3) :: (pl, listOf pvs3.toArray np3) :: (kd, ko3) :: S7) Q E B F13 X oR oG oT oI oC vR vG vT
    (news_pick N15 ((List.Mem.tail _ (List.Mem.tail _ (List.Mem.head _)))) (news_pick N15 ((List.Mem.tail _ (List.Mem.tail _ (List.Mem.tail _ (List.Mem.head _))))) (news_pick N15 ((List.Mem.tail _ (List.Mem.tail _ (List.Mem.tail _ (List.Mem.tail _ (List.Mem.head _)))))) (news_pick N15 ((List.Mem.head _)) (news_pick N15 ((List.Mem.tail _ (List.Mem.head _))) fun p hp => N15 p ((List.Mem.tail _ (List.Mem.tail _ (List.Mem.tail _ (List.Mem.tail _ (List.Mem.tail _ hp))))))))))) T c ia aa dR dG dT ((List.Mem.tail _ (List.Mem.tail _ (List.Mem.tail _ (List.Mem.tail _ (List.Mem.tail _ mI)))))) dI ((List.Mem.tail _ (List.Mem.tail _ (List.Mem.tail _ (List.Mem.tail _ (List.Mem.tail _ mC)))))) dC ?_
    (notAboveG C mps).1 n ni (na + 1) nD3 nf ivs (avs ++ [Value.ref D3]) D3 ft v0 _ _ t5 t1 hn ((CirR.of O12 V12).mono fun p hp => (List.Mem.tail _ (List.Mem.tail _ hp))) (by omega) hok.wf ((List.Mem.tail _ (List.Mem.tail _ (List.Mem.tail _ (List.Mem.tail _ (List.Mem.tail _ hi)))))) hI ((List.Mem.tail _ (List.Mem.head _))) ⟨hlast, hlow, ?_⟩ ((List.Mem.tail _ (List.Mem.tail _ (List.Mem.tail _ (List.Mem.tail _ (List.Mem.tail _ hD3)))))) hok.lit ((List.Mem.tail _ (List.Mem.tail _ (List.Mem.tail _ (List.Mem.tail _ (List.Mem.tail _ hft)))))) ?_ m1 hret
  · have q : ∀ b ∈ [kl, pl, kd], ∀ x ∈ [L + 1 + 1 + 1 + 1 + 1, L + 1 + 1 + 1 + 1, L + 1 + 1 + 1], @Ne Nat b x := fun b hb x hx => by
      simp only [List.mem_cons, List.not_mem_nil, or_false] at hx
      rcases hx with rfl | rfl | rfl
      · exact (hk5 b hb).symm
      · exact (hk4 b hb).symm
      · exact (hk3 b hb).symm
    exact ownOff_cons (by walk_at "nes") (ownOff_cons (by walk_at "nes") (ownOff_cons (q kl (by simp)) (ownOff_cons (q pl (by simp)) (ownOff_cons (q kd (by simp)) (ownOff_sub hoS7 (by walk_at "subs"))))))
  · rw [List.getElem?_append_left (List.getElem?_eq_some_iff.mp ha0).1]
    exact ha0
  · intro v hv
    rcases List.mem_append.mp hv with hv | hv
    · exact (hask v hv).mono fun p hp => (List.Mem.tail _ (List.Mem.tail _ (List.Mem.tail _ (List.Mem.tail _ (List.Mem.tail _ hp)))))
    · rw [List.mem_singleton.mp hv]
      exact .of_na hW hml ((List.Mem.tail _ (List.Mem.tail _ (List.Mem.tail _ (List.Mem.tail _ (List.Mem.tail _ hD3)))))) ((List.Mem.tail _ (List.Mem.tail _ (List.Mem.tail _ (List.Mem.tail _ (List.Mem.tail _ hmx)))))) (hmp.mono fun p hp => (List.Mem.tail _ (List.Mem.tail _ (List.Mem.tail _ (List.Mem.tail _ (List.Mem.tail _ hp)))))) (by omega)
section
variable {w : World} {S : List (Addr × Obj)} {c kl pl kd ax : Addr} {C : List Gate} {kvs pvs vs : List Value} {nk np nx : Nat} {ko : Obj} {ps : List (Int × Int)}
    {dp un : Nat} {gd : Option (List Code)} {cn : Str} {cs : Scope} {a : Addr} {ccd : Value} {cl : List (Str × Addr)} {outer : List Env} {A₀ : Around} {base h₀ : Heap} {L : Addr} {m : Str → Option Value} {s : Shared} {mean : ExcName → Option Value} {mg mb : Str → Option Value}
    {Q E : Value → Shared → Prop}
/-- not_above called where more stands; what is static goes on as one list -/
theorem na_use (Fx : List (Addr × Obj)) (O : CirO S c kl pl kd) (V : CircV w S kd C kvs pvs ko) (hax : (ax, listOf vs.toArray nx) ∈ S) (hps : PairsAre S vs ps) (hsz : C.length + 4 * ps.length ≤ 90000) (hx : OwnOff Fx [kl, pl, kd]) (hS : OwnOff S (Fx.map (·.1)))
    (B : Below A₀ base outer h₀) (F : Fr h₀ L s.heap m) (X : (A.heap_1 w.params).In h₀) (N : News h₀ L s.heap (Fx ++ (kl, listOf kvs.toArray nk) :: (pl, listOf pvs.toArray np) :: (kd, ko) :: S)) (T : Top V0 (looseW V0 []) mean mg mb h₀) (hk : cs.kind = .function)
    (hd : dp + 4 < recursionLimit) (hu : un + 8 * 4 < cLine)
    (ret : ∀ S' t kvs' pvs' nk' np' ko' h' tk', (∀ p ∈ S, p ∈ S') → Fr h₀ L h' m → News h₀ L h' (Fx ++ (kl, listOf (List.toArray kvs') nk') :: (pl, listOf (List.toArray pvs') np') :: (kd, ko') :: S') → OwnOff S' (Fx.map (·.1)) →
      CircV w S' kd (notAboveG C ps).1 kvs' pvs' ko' → CirO S' c kl pl kd → Q (.int (notAboveG C ps).2 t) { s with heap := h', toks := tk' }) :
    wpAny (model PySem.Challenge.rw_nz0381_01.prog w) (ktrTop dp un gd cn cs L a ccd cl outer) (call (.ref 28) [.ref c, .ref ax]) Q E s := by
  refine op_useF Fx (not_above_spec w S c kl pl kd ax C kvs pvs vs nk np nx ko ps O V hax hps hsz) O hx B F X N T hk hd hu fun t kvs' pvs' nk' np' ko' new h' tk' F' N' _ i V' O' => ?_
  refine ret (new ++ S) t kvs' pvs' nk' np' ko' h' tk' (fun p hp => List.mem_append_right _ hp) F' N' (fun p hp b hb => ?_) V' O'
  rcases List.mem_append.mp hp with hp | hp
  · obtain ⟨q, hq, rfl⟩ := List.mem_map.mp hb
    exact i p hp q hq
  · exact hS p hp b hb
end
/-- what was asked up to the cut i -/
structure Askd (S : List (Addr × Obj)) (C : List Gate) (sps : List (Int × Int)) (i : Nat) (avs : List Value) : Prop where
  len : avs.length = 2 * i
  all : ∀ v ∈ avs, AskOne S C v
  first : 0 < i → ∃ ft v0 t1 nf, avs[0]? = some (.ref ft) ∧ (ft, tupO [v0, .int 1 t1] nf) ∈ S
  last : 0 < i → ∃ lt v1 g tl nl, avs[2 * i - 2]? = some (.ref lt) ∧ (lt, tupO [v1, .int g tl] nl) ∈ S ∧ LitIn C.length g ∧ ∀ C', Ext C C' → notAboveG C' (sps.take (i - 1)) = (C', g)
theorem Askd.zero {S : List (Addr × Obj)} {C : List Gate} {sps : List (Int × Int)} : Askd S C sps 0 [] := ⟨rfl, fun _ h => (by cases h), fun h => absurd h (Nat.lt_irrefl _), fun h => absurd h (Nat.lt_irrefl _)⟩
theorem Askd.step {S S' : List (Addr × Obj)} {n : Nat} {C : List Gate} {sps qs : List (Int × Int)} {i : Nat} {avs ps1 ps2 : List Value} {T1 T2 l1 l2 : Addr} {n1 n2 k1 k2 : Nat} {t1 t2 : Tok} (h : Askd S C sps i avs) (hS : ∀ p ∈ S, p ∈ S') (W : WFC n C)
    (hl : ∀ p ∈ sps, LitIn C.length p.1 ∧ LitIn C.length p.2) (hq : ∀ p ∈ qs, LitIn C.length p.1 ∧ LitIn C.length p.2)
    (m1 : (T1, tupO [.ref l1, .int (notAboveG C (sps.take i)).2 t1] n1) ∈ S') (w1 : (l1, listOf ps1.toArray k1) ∈ S') (p1 : PairsAre S' ps1 (sps.take i)) (z1 : ps1.length ≤ 1000)
    (m2 : (T2, tupO [.ref l2, .int (notAboveG (notAboveG C (sps.take i)).1 qs).2 t2] n2) ∈ S') (w2 : (l2, listOf ps2.toArray k2) ∈ S') (p2 : PairsAre S' ps2 qs) (z2 : ps2.length ≤ 1000) :
    Askd S' (notAboveG (notAboveG C (sps.take i)).1 qs).1 sps (i + 1) (avs ++ [.ref T1] ++ [.ref T2]) := by
  have hl1 : ∀ p ∈ sps.take i, LitIn C.length p.1 ∧ LitIn C.length p.2 := fun p hp => hl p (List.mem_of_mem_take hp)
  have o1 := na_ok W hl1
  have hq1 : ∀ p ∈ qs, LitIn (notAboveG C (sps.take i)).1.length p.1 ∧ LitIn (notAboveG C (sps.take i)).1.length p.2 := fun p hp => ⟨(hq p hp).1.mono o1.ext.len, (hq p hp).2.mono o1.ext.len⟩
  have o2 := na_ok o1.wf hq1
  have hlen := h.len
  have A1 : AskOne S' (notAboveG C (sps.take i)).1 (.ref T1) := .of_na W hl1 m1 w1 p1 z1
  have A2 : AskOne S' (notAboveG (notAboveG C (sps.take i)).1 qs).1 (.ref T2) := .of_na o1.wf hq1 m2 w2 p2 z2
  refine ⟨by simp [hlen]; omega, ?_, fun _ => ?_, fun _ => ?_⟩
  · intro v hv
    rcases List.mem_append.mp hv with hv | hv
    · rcases List.mem_append.mp hv with hv | hv
      · exact (((h.all v hv).mono hS).grow o1.ext).grow o2.ext
      · rw [List.mem_singleton.mp hv]; exact A1.grow o2.ext
    · rw [List.mem_singleton.mp hv]; exact A2
  · by_cases h0 : 0 < i
    · obtain ⟨ft, v0, t0, nf, e, m⟩ := h.first h0
      exact ⟨ft, v0, t0, nf, by rw [List.append_assoc, List.getElem?_append_left (by omega)]; exact e, hS _ m⟩
    · have hi : i = 0 := by omega
      subst hi
      have : avs = [] := List.eq_nil_of_length_eq_zero (by omega)
      subst this
      exact ⟨T1, _, t1, n1, rfl, m1⟩
  · refine ⟨T1, _, _, t1, n1, ?_, m1, o1.lit.mono o2.ext.len, fun C' x => ?_⟩
    · rw [List.append_assoc, List.getElem?_append_right (by omega)]
      have : 2 * (i + 1) - 2 - avs.length = 0 := by omega
      rw [this]
      rfl
    · exact o1.again C' (o2.ext.trans x)
/-- the state of law ahead of the cut i -/
inductive JLaw4 (w : World) (L : Nat) (n : Nat) (C0 : List Gate) (sps : List (Int × Int)) (S0 : List (Addr × Obj)) (c aa td pa sa kl pl kd : Addr) (oP oR oG oT : Obj) (i : Nat) (mm : Str → Option Value) (nx : List (Addr × Obj)) : Prop
  | mk (S : List (Addr × Obj)) (C : List Gate) (kvs pvs avs : List Value) (nk np na : Nat) (ko : Obj)
    (hn : nx = (td, oP) :: (aa, listOf avs.toArray na) :: (L + 1 + 1 + 1 + 1 + 1, oR) :: (L + 1 + 1 + 1 + 1, oG) :: (L + 1 + 1 + 1, oT) :: (kl, listOf kvs.toArray nk) :: (pl, listOf pvs.toArray np) :: (kd, ko) :: S)
    (hS : ∀ p ∈ S0, p ∈ S) (O : CirO S c kl pl kd) (V : CircV w S kd C kvs pvs ko) (hW : WFC n C) (hE : Ext C0 C) (hz : C.length ≤ C0.length + 48 * i) (hoS : OwnOff S [td, aa, L + 1 + 1 + 1 + 1 + 1, L + 1 + 1 + 1 + 1, L + 1 + 1 + 1])
    (hA : Askd S C sps i avs) (h1 : mm (Str.ofString "asked") = some (.ref aa)) (h2 : mm (Str.ofString "tape") = some (.ref td)) (h3 : mm (Str.ofString "pool") = some (.ref pa)) (h4 : mm (Str.ofString "some") = some (.ref sa)) : JLaw4 w L n C0 sps S0 c aa td pa sa kl pl kd oP oR oG oT i mm nx
def swapP (p : Int × Int) : Int × Int := (p.2, p.1)
/-- the turned pairs, under way -/
inductive JSwap (ps : List (Int × Int)) (base : List (Addr × Obj)) (i : Nat) (ys : List Value) (nx : List (Addr × Obj)) : Prop
  | mk (new : List (Addr × Obj)) (hn : nx = new ++ base) (ho : OwnOff new (base.map (·.1))) (hp : PairsAre new ys ((ps.take i).map swapP)) : JSwap ps base i ys nx
theorem JSwap.step {ps : List (Int × Int)} {base : List (Addr × Obj)} {i : Nat} {ys : List Value} {nx : List (Addr × Obj)} {T : Addr} {ta tb : Tok} {nT : Nat} {a b : Int} (h : JSwap ps base i ys nx) (e : ps[i]? = some (a, b)) (hT : AllLt T nx) :
    JSwap ps base (i + 1) (ys ++ [.ref T]) ((T, tupO [.int b tb, .int a ta] nT) :: nx) := by
  obtain ⟨new, rfl, ho, hp⟩ := h
  refine ⟨_ :: new, rfl, ownOff_cons (fun x hx e => allLt_notin hT (by rw [e, List.map_append]; exact List.mem_append_right _ hx)) ho, ?_⟩
  obtain ⟨hi, e2⟩ := List.getElem?_eq_some_iff.mp e
  rw [List.take_succ_eq_append_getElem hi, List.map_append, e2]
  exact pairs_app (hp.mono fun p hp => .tail _ hp) (pairs_one (.head _))
theorem ownOff_ins {S : List (Addr × Obj)} {a b : Addr} {r : List Addr} (h : OwnOff S (a :: r)) (k : b ∉ S.map (·.1)) : OwnOff S (a :: b :: r) := fun p hp x hx => by
  rcases List.mem_cons.mp hx with rfl | hx
  · exact h p hp _ (.head _)
  rcases List.mem_cons.mp hx with rfl | hx
  · exact fun e => k (List.mem_map.mpr ⟨p, hp, e⟩)
  · exact h p hp _ (.tail _ hx)
theorem na_len (C : List Gate) (ps : List (Int × Int)) : (notAboveG C ps).1.length ≤ C.length + 4 * ps.length := by
  have q := (foldNA_len ps.reverse (C, 1)).2
  rwa [List.length_reverse] at q
theorem swap_lit {n : Nat} {ps : List (Int × Int)} (h : ∀ p ∈ ps, LitIn n p.1 ∧ LitIn n p.2) : ∀ p ∈ ps.map swapP, LitIn n p.1 ∧ LitIn n p.2 := fun p hp => by
  obtain ⟨q, hq, rfl⟩ := List.mem_map.mp hp
  exact ⟨(h q hq).2, (h q hq).1⟩
theorem off_led {I : Addr} {oI : Obj} {A B : List (Addr × Obj)} (h : ∀ b ∈ A.map (·.1), @Ne Nat b I) (k : OwnOff B [I]) : ∀ p ∈ A ++ B, ∀ q ∈ [(I, oI)], p.1 ≠ q.1 := fun p hp q hq => by
  rw [List.mem_singleton.mp hq]
  rcases List.mem_append.mp hp with hp | hp
  · exact h _ (List.mem_map.mpr ⟨p, hp, rfl⟩)
  · exact k p hp _ (.head _)
theorem mem_fsts {A B : List (Addr × Obj)} {b : Addr} (h : b ∈ A.map (·.1)) : b ∈ (A ++ B).map (·.1) := by
  rw [List.map_append]
  exact List.mem_append_left _ h
set_option pp.deepTerms false in
set_option pp.deepTerms.threshold 3 in
theorem law4 (w : World) (L fa : Addr) (cd : Value) (base h₀ : Heap) (mean : ExcName → Option Value) (mg mb : Str → Option Value) (s : Shared) (h : Heap) (tk : Nat) (m : Str → Option Value) (S : List (Addr × Obj)) (Q : Flow → Shared → Prop) (E : Value → Shared → Prop)
    (B : Below callerA base [] h₀) (F : Fr h₀ L h m) (X : (A.heap_1 w.params).In h₀) (oR oG oT oI oC oP : Obj) (vR vG vT : Option Value)
    (td c kl pl kd ia pa sa : Addr) (C : List Gate) (kvs pvs ivs pls svs : List Value) (nk np ni npl ns n spot : Nat) (ko : Obj) (ps : List Int) (sps : List (Int × Int))
    (N : News h₀ L h ((td, oP) :: (L + 1 + 1 + 1 + 1 + 1, oR) :: (L + 1 + 1 + 1 + 1, oG) :: (L + 1 + 1 + 1, oT) :: (kl, listOf kvs.toArray nk) :: (pl, listOf pvs.toArray np) :: (kd, ko) :: S)) (T : Top V0 (looseW V0 []) mean mg mb h₀)
    (dR : oR.data = .cell vR) (dG : oG.data = .cell vG) (dT : oT.data = .cell vT) (mI : (L + 1 + 1, oI) ∈ S) (dI : oI.data = .cell (some (.ref ia))) (mC : (L + 1, oC) ∈ S) (dC : oC.data = .cell (some (.ref c)))
    (O : CirO S c kl pl kd) (V : CircV w S kd C kvs pvs ko) (hW : WFC n C) (hn : n ≤ 3) (hsz : C.length ≤ 70000) (hi : (ia, listOf ivs.toArray ni) ∈ S) (hI : IntsAre ivs (inpsOf n))
    (hoS : OwnOff S [td, L + 1 + 1 + 1 + 1 + 1, L + 1 + 1 + 1 + 1, L + 1 + 1 + 1])
    (hoK : OwnOff [(td, oP), (L + 1 + 1 + 1 + 1 + 1, oR), (L + 1 + 1 + 1 + 1, oG), (L + 1 + 1 + 1, oT)] [kl, pl, kd])
    (htL : @Ne Nat (L + 1 + 1 + 1 + 1 + 1) td ∧ @Ne Nat (L + 1 + 1 + 1 + 1) td ∧ @Ne Nat (L + 1 + 1 + 1) td)
    (hTp : TapeAt w S spot oP) (hsp : spot ≤ 800) (hpa : (pa, listOf pls.toArray npl) ∈ S) (hPI : IntsAre pls ps) (hp0 : 0 < pls.length) (hp1 : pls.length ≤ 63) (hPL : ∀ p ∈ ps, LitIn C.length p)
    (hsa : (sa, listOf svs.toArray ns) ∈ S) (hSP : PairsAre S svs sps) (hs5 : svs.length ≤ 5) (hSL : ∀ p ∈ sps, LitIn C.length p.1 ∧ LitIn C.length p.2)
    (m2 : m (Str.ofString "tape") = some (.ref td)) (m3 : m (Str.ofString "pool") = some (.ref pa)) (m4 : m (Str.ofString "some") = some (.ref sa))
    (hret : ∀ h' tk m', Fr h₀ L h' m' → Q (.ret (.bool true)) { s with heap := h', toks := tk }) :
    wpAny (model PySem.Challenge.rw_nz0381_01.prog w) (lawAr L fa cd) (execs (lawFn.body.drop 6) (lawEnv L fa cd)) Q E { s with heap := h, toks := tk } := by
  have hsl := hSP.1
  have hsm : Builtin.Range.small 0 ((svs.length : Int) + 1) 1 = true := (range_size (n := svs.length + 1) (by omega)).1
  have hsz2 : Builtin.Range.rangeSize 0 ((svs.length : Int) + 1) 1 = ((svs.length + 1 : Nat) : Int) := (range_size (n := svs.length + 1) (by omega)).2
  revert X; k_fill; intro X
  unfold lawAr lawEnv lawFn dOf
  dsimp only [List.drop]
  walk_at "go"
  unfold Stop
  rename_i h1 F1 N1
  obtain ⟨aa, rfl⟩ : ∃ x, x = l' := ⟨_, rfl⟩
  obtain ⟨a1, a2, a3, a4, a5, a6, a7, aS⟩ := l1
  obtain ⟨m5, F2, k1, k2, k3, k4⟩ : ∃ m5, Fr h₀ L h1 m5 ∧ m5 (Str.ofString "asked") = some (.ref aa) ∧ m5 (Str.ofString "tape") = some (.ref td) ∧ m5 (Str.ofString "pool") = some (.ref pa) ∧ m5 (Str.ofString "some") = some (.ref sa) := ⟨_, F1, rfl, m2, m3, m4⟩
  clear F1
  refine for_range (JLaw4 w L n C sps S c aa td pa sa kl pl kd oP oR oG oT) rfl F2 hsm hsz2 ?heval ?turn ?done
  case heval =>
    walk_at "go"
    unfold Stop
    exact range_1 F2 N1 fun r t₀ u₀ v₀ h' tk hr F4 N4 => ⟨r, t₀, u₀, v₀, h', tk, _, _, rfl, rfl, hr, F4, (news_pick N4 ((List.Mem.tail _ (List.Mem.head _))) (news_pick N4 ((List.Mem.head _)) fun p hp => N4 p ((List.Mem.tail _ (List.Mem.tail _ hp))))), ⟨S, C, kvs, pvs, [], nk, np, _, ko, rfl, fun _ h => h, O, V, hW, .refl C, by omega, ownOff_ins hoS (allLt_notin aS), .zero, k1, k2, k3, k4⟩⟩
  case turn =>
    rintro i t mm _ I oI h3 tk3 hin ⟨S1, C1, kvs1, pvs1, avs, nk1, np1, na, ko1, rfl, hS, O1, V1, hW1, hE, hz, hoS1, hA, g1, g2, g3, g4⟩ hoI hoI2 F4 N4 Qt hQt
    simp only [Int.zero_add]
    have hsa1 := hS _ hsa
    have mC1 := hS _ mC
    have hSP1 := hSP.mono hS
    clear mC hsa N1 F2
    walk_at "go"
    unfold Stop
    rename_i D1 _ q1
    obtain ⟨b1, b2, b3, b4, b5, b6, b7, b8, b9, bS⟩ := q1
    obtain ⟨_, c1, c2, c3, c4, c5, c6, c7, c8, c9, cS⟩ := l1
    have hI6 : OwnOff S1 [td, aa, L + 1 + 1 + 1 + 1 + 1, L + 1 + 1 + 1 + 1, L + 1 + 1 + 1, I] := ownOff_app (b := [I]) hoS1 fun p hp b hb => by rw [List.mem_singleton.mp hb]; exact hoI2 p ((List.Mem.tail _ (List.Mem.tail _ (List.Mem.tail _ (List.Mem.tail _ (List.Mem.tail _ (List.Mem.tail _ (List.Mem.tail _ (List.Mem.tail _ hp)))))))))
    have hxI : ∀ b ∈ [kl, pl, kd], @Ne Nat I b := fun b hb => by
      simp only [List.mem_cons, List.not_mem_nil, or_false] at hb
      rcases hb with rfl | rfl | rfl
      · exact (hoI2 _ ((List.Mem.tail _ (List.Mem.tail _ (List.Mem.tail _ (List.Mem.tail _ (List.Mem.tail _ (List.Mem.head _)))))))).symm
      · exact (hoI2 _ ((List.Mem.tail _ (List.Mem.tail _ (List.Mem.tail _ (List.Mem.tail _ (List.Mem.tail _ (List.Mem.tail _ (List.Mem.head _))))))))).symm
      · exact (hoI2 _ ((List.Mem.tail _ (List.Mem.tail _ (List.Mem.tail _ (List.Mem.tail _ (List.Mem.tail _ (List.Mem.tail _ (List.Mem.tail _ (List.Mem.head _)))))))))).symm
    have hxA : ∀ b ∈ [kl, pl, kd], @Ne Nat aa b := by walk_at "nes"
    have hFx : ∀ oA : Obj, OwnOff [(td, oP), (aa, oA), (L + 1 + 1 + 1 + 1 + 1, oR), (L + 1 + 1 + 1 + 1, oG), (L + 1 + 1 + 1, oT), (I, oI)] [kl, pl, kd] := fun oA =>
      ownOff_cons (hoK _ ((List.Mem.head _))) (ownOff_cons hxA (ownOff_cons (hoK _ ((List.Mem.tail _ (List.Mem.head _)))) (ownOff_cons (hoK _ ((List.Mem.tail _ (List.Mem.tail _ (List.Mem.head _))))) (ownOff_cons (hoK _ ((List.Mem.tail _ (List.Mem.tail _ (List.Mem.tail _ (List.Mem.head _)))))) (ownOff_cons hxI fun _ h => nomatch h)))))
    have hE1 := hE.len
    have hav : avs.length ≤ 12 := by have := hA.len; omega
    have hAI : @Ne Nat aa I := hoI2 _ ((List.Mem.tail _ (List.Mem.head _)))
    have hIs : ∀ b ∈ [td, aa, L + 1 + 1 + 1 + 1 + 1, L + 1 + 1 + 1 + 1, L + 1 + 1 + 1, kl, pl, kd], @Ne Nat b I := fun b hb => by
      obtain ⟨p, hp, rfl⟩ := List.mem_map.mp (mem_fsts (A := [(td, oP), (aa, listOf avs.toArray na), (L + 1 + 1 + 1 + 1 + 1, oR), (L + 1 + 1 + 1 + 1, oG), (L + 1 + 1 + 1, oT), (kl, listOf kvs1.toArray nk1), (pl, listOf pvs1.toArray np1), (kd, ko1)]) (B := S1) hb)
      exact hoI2 p hp
    obtain ⟨S2, k1', k2', hS2, hD1, hD2, N2, hoS2, O2⟩ : ∃ S2 k1 k2, (∀ p ∈ S1, p ∈ S2) ∧ (D1, listOf (svs.take i).toArray k1) ∈ S2 ∧ (l', listOf (svs.take i).toArray k2) ∈ S2 ∧
        News h₀ L h' ([(td, oP), (aa, listOf avs.toArray na), (L + 1 + 1 + 1 + 1 + 1, oR), (L + 1 + 1 + 1 + 1, oG), (L + 1 + 1 + 1, oT), (I, oI)] ++ (kl, listOf kvs1.toArray nk1) :: (pl, listOf pvs1.toArray np1) :: (kd, ko1) :: S2) ∧ OwnOff S2 [td, aa, L + 1 + 1 + 1 + 1 + 1, L + 1 + 1 + 1 + 1, L + 1 + 1 + 1, I] ∧ CirO S2 c kl pl kd :=
      ⟨(l', _) :: (D1, _) :: S1, _, _, fun p hp => (List.Mem.tail _ (List.Mem.tail _ hp)), (List.Mem.tail _ (List.Mem.head _)), (List.Mem.head _),
        news_pick N' ((List.Mem.tail _ (List.Mem.tail _ (List.Mem.tail _ (List.Mem.head _))))) (news_pick N' ((List.Mem.tail _ (List.Mem.tail _ (List.Mem.tail _ (List.Mem.tail _ (List.Mem.head _)))))) (news_pick N' ((List.Mem.tail _ (List.Mem.tail _ (List.Mem.tail _ (List.Mem.tail _ (List.Mem.tail _ (List.Mem.head _))))))) (news_pick N' ((List.Mem.tail _ (List.Mem.tail _ (List.Mem.tail _ (List.Mem.tail _ (List.Mem.tail _ (List.Mem.tail _ (List.Mem.head _)))))))) (news_pick N' ((List.Mem.tail _ (List.Mem.tail _ (List.Mem.tail _ (List.Mem.tail _ (List.Mem.tail _ (List.Mem.tail _ (List.Mem.tail _ (List.Mem.head _))))))))) (news_pick N' ((List.Mem.tail _ (List.Mem.tail _ (List.Mem.head _)))) (news_pick N' ((List.Mem.tail _ (List.Mem.tail _ (List.Mem.tail _ (List.Mem.tail _ (List.Mem.tail _ (List.Mem.tail _ (List.Mem.tail _ (List.Mem.tail _ (List.Mem.head _)))))))))) (news_pick N' ((List.Mem.tail _ (List.Mem.tail _ (List.Mem.tail _ (List.Mem.tail _ (List.Mem.tail _ (List.Mem.tail _ (List.Mem.tail _ (List.Mem.tail _ (List.Mem.tail _ (List.Mem.head _))))))))))) (news_pick N' ((List.Mem.tail _ (List.Mem.tail _ (List.Mem.tail _ (List.Mem.tail _ (List.Mem.tail _ (List.Mem.tail _ (List.Mem.tail _ (List.Mem.tail _ (List.Mem.tail _ (List.Mem.tail _ (List.Mem.head _)))))))))))) (news_pick N' ((List.Mem.head _)) (news_pick N' ((List.Mem.tail _ (List.Mem.head _))) fun p hp => N' p ((List.Mem.tail _ (List.Mem.tail _ (List.Mem.tail _ (List.Mem.tail _ (List.Mem.tail _ (List.Mem.tail _ (List.Mem.tail _ (List.Mem.tail _ (List.Mem.tail _ (List.Mem.tail _ (List.Mem.tail _ hp)))))))))))))))))))))),
        ownOff_cons (by walk_at "nes") (ownOff_cons (by walk_at "nes") hI6), (O1.cons b7 b8 b9).cons c7 c8 c9⟩
    have hSPt := pairs_take i (hSP1.mono hS2)
    have htl : (svs.take i).length ≤ 5 := by simp; omega
    have hW2 := hW1
    have hSL1 : ∀ p ∈ sps.take i, LitIn C1.length p.1 ∧ LitIn C1.length p.2 := fun p hp => ⟨(hSL p (List.mem_of_mem_take hp)).1.mono hE1, (hSL p (List.mem_of_mem_take hp)).2.mono hE1⟩
    refine na_use [(td, oP), (aa, listOf avs.toArray na), (L + 1 + 1 + 1 + 1 + 1, oR), (L + 1 + 1 + 1 + 1, oG), (L + 1 + 1 + 1, oT), (I, oI)] O2 (V1.mono hS2) hD2 hSPt (by have := hSPt.1; omega) (hFx _) hoS2 (by k_asm) F' (by k_asm) N2 (by k_asm) (by first | exact rfl | assumption) (by ktr_room) (by ktr_units) fun S3 t3 kvs3 pvs3 nk3 np3 ko3 h5 tk5 hS3 F5 N5 hoS3 V3 O3 => ?_
    simp only [List.cons_append, List.nil_append] at N5
    have hsa3 := hS3 _ (hS2 _ hsa1)
    have mC3 := hS3 _ (hS2 _ mC1)
    have hSP3 := (hSP1.mono hS2).mono hS3
    have hD13 := hS3 _ hD1
    clear F' N' F4 N4 N2 hsa1 mC1 hoI2
    walk_at "go"
    rename_i D3 _ q1 _
    obtain ⟨b1, b2, b3, b4, b5, b6, b7, b8, b9, bS⟩ := q1
    obtain ⟨_, c1, c2, c3, c4, c5, c6, c7, c8, c9, cS⟩ := l1
    obtain ⟨S4, n3, hS4, hD3, hD4, N4, hoS4, O4⟩ : ∃ S4 n3, (∀ p ∈ S3, p ∈ S4) ∧ (D3, tupO [.ref D1, .int (notAboveG C1 (sps.take i)).2 t3] n3) ∈ S4 ∧ (l', listOf (svs.take i).toArray 0) ∈ S4 ∧
        News h₀ L h' ((td, oP) :: (aa, listOf (avs ++ [Value.ref D3]).toArray (na + 1)) :: (L + 1 + 1 + 1 + 1 + 1, oR) :: (L + 1 + 1 + 1 + 1, oG) :: (L + 1 + 1 + 1, oT) :: (I, oI) :: (kl, listOf kvs3.toArray nk3) :: (pl, listOf pvs3.toArray np3) :: (kd, ko3) :: S4) ∧ OwnOff S4 [td, aa, L + 1 + 1 + 1 + 1 + 1, L + 1 + 1 + 1 + 1, L + 1 + 1 + 1, I] ∧ CirO S4 c kl pl kd :=
      ⟨(l', _) :: (D3, _) :: S3, _, fun p hp => (List.Mem.tail _ (List.Mem.tail _ hp)), (List.Mem.tail _ (List.Mem.head _)), (List.Mem.head _),
        news_pick N' ((List.Mem.tail _ (List.Mem.tail _ (List.Mem.head _)))) (news_pick N' ((List.Mem.tail _ (List.Mem.tail _ (List.Mem.tail _ (List.Mem.head _))))) (news_pick N' ((List.Mem.tail _ (List.Mem.tail _ (List.Mem.tail _ (List.Mem.tail _ (List.Mem.head _)))))) (news_pick N' ((List.Mem.tail _ (List.Mem.tail _ (List.Mem.tail _ (List.Mem.tail _ (List.Mem.tail _ (List.Mem.head _))))))) (news_pick N' ((List.Mem.tail _ (List.Mem.tail _ (List.Mem.tail _ (List.Mem.tail _ (List.Mem.tail _ (List.Mem.tail _ (List.Mem.head _)))))))) (news_pick N' ((List.Mem.tail _ (List.Mem.tail _ (List.Mem.tail _ (List.Mem.tail _ (List.Mem.tail _ (List.Mem.tail _ (List.Mem.tail _ (List.Mem.head _))))))))) (news_pick N' ((List.Mem.tail _ (List.Mem.tail _ (List.Mem.tail _ (List.Mem.tail _ (List.Mem.tail _ (List.Mem.tail _ (List.Mem.tail _ (List.Mem.tail _ (List.Mem.head _)))))))))) (news_pick N' ((List.Mem.tail _ (List.Mem.tail _ (List.Mem.tail _ (List.Mem.tail _ (List.Mem.tail _ (List.Mem.tail _ (List.Mem.tail _ (List.Mem.tail _ (List.Mem.tail _ (List.Mem.head _))))))))))) (news_pick N' ((List.Mem.tail _ (List.Mem.tail _ (List.Mem.tail _ (List.Mem.tail _ (List.Mem.tail _ (List.Mem.tail _ (List.Mem.tail _ (List.Mem.tail _ (List.Mem.tail _ (List.Mem.tail _ (List.Mem.head _)))))))))))) (news_pick N' ((List.Mem.head _)) (news_pick N' ((List.Mem.tail _ (List.Mem.head _))) fun p hp => N' p ((List.Mem.tail _ (List.Mem.tail _ (List.Mem.tail _ (List.Mem.tail _ (List.Mem.tail _ (List.Mem.tail _ (List.Mem.tail _ (List.Mem.tail _ (List.Mem.tail _ (List.Mem.tail _ (List.Mem.tail _ hp)))))))))))))))))))))),
        ownOff_cons (by walk_at "nes") (ownOff_cons (by walk_at "nes") hoS3), (O3.cons b7 b8 b9).cons c7 c8 c9⟩
    have hSPu := (hSPt.mono hS3).mono hS4
    replace hD13 := hS4 _ hD13
    generalize hbs : (td, oP) :: (aa, listOf (avs ++ [Value.ref D3]).toArray (na + 1)) :: (L + 1 + 1 + 1 + 1 + 1, oR) :: (L + 1 + 1 + 1 + 1, oG) :: (L + 1 + 1 + 1, oT) :: (I, oI) :: (kl, listOf kvs3.toArray nk3) :: (pl, listOf pvs3.toArray np3) :: (kd, ko3) :: S4 = bs at N4
    have hSb : ∀ p ∈ S4, p ∈ bs := hbs ▸ fun p hp => (List.Mem.tail _ (List.Mem.tail _ (List.Mem.tail _ (List.Mem.tail _ (List.Mem.tail _ (List.Mem.tail _ (List.Mem.tail _ (List.Mem.tail _ (List.Mem.tail _ hp)))))))))
    refine srcP_listA (vs := svs.take i) (ps := sps.take i) (JSwap (sps.take i) bs) rfl F' N4 (by omega) ⟨[], rfl, (fun _ h => nomatch h), ⟨by simp, fun i v e => by simp at e⟩⟩
      (by rintro _ _ _ ⟨new, rfl, _, _⟩; exact List.mem_append_right _ (hSb _ hD4)) (by rintro _ _ _ ⟨new, rfl, _, _⟩; exact hSPu.mono fun q hq => List.mem_append_right _ (hSb _ hq)) ?t1 ?d1
    case t1 =>
      rintro j x y tx ty ys nx I2 oI2 C2 oC2 D2 m2 h6 tk6 E6 hj J6 hC hx hx2 F6 N6 off ap Qt2 hQt2
      clear F' N' N4
      walk_at "go"
      rename_i Dt _ F8 N8 lD
      obtain ⟨n1, n2, n3, n4⟩ := lD
      exact hQt2 _ _ _ (_ :: nx) F8 (news_pick N8 ((List.Mem.tail _ (List.Mem.head _))) (news_pick N8 ((List.Mem.tail _ (List.Mem.tail _ (List.Mem.head _)))) (news_pick N8 ((List.Mem.tail _ (List.Mem.tail _ (List.Mem.tail _ (List.Mem.head _))))) (news_pick N8 ((List.Mem.head _)) fun p hp => N8 p ((List.Mem.tail _ (List.Mem.tail _ (List.Mem.tail _ (List.Mem.tail _ hp))))))))) ⟨⟨Nat.ne_of_gt n1, Nat.ne_of_gt n2, Nat.ne_of_gt n3⟩, off⟩ (J6.step hj n4)
    case d1 =>
      rintro ys nx D5 h6 tk6 ⟨new, rfl, ho6, hp6⟩ F6 N6 off
      clear F' N' N4
      have hlen := hSPu.1
      rw [List.take_of_length_le (Nat.le_of_eq hlen.symm)] at hp6
      have off5 := off1_mem off
      subst hbs
      simp only [List.map_cons] at ho6
      obtain ⟨S5, hS5, hD5, hSPs, N7, hoS5, O5⟩ : ∃ S5, (∀ p ∈ S4, p ∈ S5) ∧ (D5, LCg.lst ys) ∈ S5 ∧ PairsAre S5 ys ((sps.take i).map swapP) ∧
          News h₀ L h6 ([(td, oP), (aa, listOf (avs ++ [Value.ref D3]).toArray (na + 1)), (L + 1 + 1 + 1 + 1 + 1, oR), (L + 1 + 1 + 1 + 1, oG), (L + 1 + 1 + 1, oT), (I, oI)] ++ (kl, listOf kvs3.toArray nk3) :: (pl, listOf pvs3.toArray np3) :: (kd, ko3) :: S5) ∧ OwnOff S5 [td, aa, L + 1 + 1 + 1 + 1 + 1, L + 1 + 1 + 1 + 1, L + 1 + 1 + 1, I] ∧ CirO S5 c kl pl kd := by
        have hk : ∀ b ∈ [td, aa, L + 1 + 1 + 1 + 1 + 1, L + 1 + 1 + 1 + 1, L + 1 + 1 + 1, I, kl, pl, kd], b ∈ ((td, oP) :: (aa, listOf (avs ++ [Value.ref D3]).toArray (na + 1)) :: (L + 1 + 1 + 1 + 1 + 1, oR) :: (L + 1 + 1 + 1 + 1, oG) :: (L + 1 + 1 + 1, oT) :: (I, oI) :: (kl, listOf kvs3.toArray nk3) :: (pl, listOf pvs3.toArray np3) :: (kd, ko3) :: S4).map (·.1) := fun b hb => mem_fsts (A := [(td, oP), (aa, listOf (avs ++ [Value.ref D3]).toArray (na + 1)), (L + 1 + 1 + 1 + 1 + 1, oR), (L + 1 + 1 + 1 + 1, oG), (L + 1 + 1 + 1, oT), (I, oI), (kl, listOf kvs3.toArray nk3), (pl, listOf pvs3.toArray np3), (kd, ko3)]) (B := S4) hb
        have hall : OwnOff ((D5, LCg.lst ys) :: (new ++ S4)) [td, aa, L + 1 + 1 + 1 + 1 + 1, L + 1 + 1 + 1 + 1, L + 1 + 1 + 1, I, kl, pl, kd] :=
          ownOff_cons (fun b hb e => by
            obtain ⟨p, hp, rfl⟩ := List.mem_map.mp (hk b hb)
            exact off5 p (List.mem_append_right _ hp) e.symm) fun p hp b hb => by
            rcases List.mem_append.mp hp with hp | hp
            · exact ho6 p hp b (hk b hb)
            · exact ownOff_app hoS4 O4.off p hp b hb
        exact ⟨_, fun p hp => .tail _ (List.mem_append_right _ hp), .head _, hp6.mono fun p hp => .tail _ (List.mem_append_left _ hp),
          (fun p hp => by
            rcases List.mem_append.mp hp with hp | hp
            · exact N6 p (.tail _ (List.mem_append_right _ (List.mem_append_left ((kl, listOf kvs3.toArray nk3) :: (pl, listOf pvs3.toArray np3) :: (kd, ko3) :: S4) hp)))
            · refine (news_pick N6 (.tail _ (List.mem_append_right _ ((List.Mem.tail _ (List.Mem.tail _ (List.Mem.tail _ (List.Mem.tail _ (List.Mem.tail _ (List.Mem.tail _ (List.Mem.head _)))))))))) (news_pick N6 (.tail _ (List.mem_append_right _ ((List.Mem.tail _ (List.Mem.tail _ (List.Mem.tail _ (List.Mem.tail _ (List.Mem.tail _ (List.Mem.tail _ (List.Mem.tail _ (List.Mem.head _))))))))))) (news_pick N6 (.tail _ (List.mem_append_right _ ((List.Mem.tail _ (List.Mem.tail _ (List.Mem.tail _ (List.Mem.tail _ (List.Mem.tail _ (List.Mem.tail _ (List.Mem.tail _ (List.Mem.tail _ (List.Mem.head _)))))))))))) (news_pick N6 (.head _) fun q hq => ?_)))) p hp
              rcases List.mem_append.mp hq with hq | hq
              · exact N6 q (.tail _ (List.mem_append_left _ hq))
              · exact N6 q (.tail _ (List.mem_append_right _ ((List.Mem.tail _ (List.Mem.tail _ (List.Mem.tail _ (List.Mem.tail _ (List.Mem.tail _ (List.Mem.tail _ (List.Mem.tail _ (List.Mem.tail _ (List.Mem.tail _ hq))))))))))))),
          ownOff_sub hall (by walk_at "subs"), ⟨O4.inst.mono fun p hp => .tail _ (List.mem_append_right _ hp), O4.ne1, O4.ne2, O4.ne3, ownOff_sub hall (by walk_at "subs")⟩⟩
      have mC5 := hS5 _ (hS4 _ mC3)
      have hll : ((sps.take i).map swapP).length ≤ 5 := by simp; omega
      have hna := na_len C1 (sps.take i)
      clear N6 off off5 ho6 hSb hp6
      walk_at "go"
      unfold Stop
      have hys := hSPs.1
      refine na_use [(td, oP), (aa, listOf (avs ++ [Value.ref D3]).toArray (na + 1)), (L + 1 + 1 + 1 + 1 + 1, oR), (L + 1 + 1 + 1 + 1, oG), (L + 1 + 1 + 1, oT), (I, oI)] O5 (V3.mono fun p hp => hS5 _ (hS4 _ hp)) hD5 hSPs (by omega) (hFx _) hoS5 (by k_asm) F6 (by k_asm) N7 (by k_asm) (by first | exact rfl | assumption) (by ktr_room) (by ktr_units) fun S6 t6 kvs6 pvs6 nk6 np6 ko6 h7 tk7 hS6 F8 N8 hoS6 V6 O6 => ?_
      simp only [List.cons_append, List.nil_append] at N8
      clear F6 N7
      walk_at "go"
      rename_i D6 _ q2 h8 F9 N9
      obtain ⟨d1, d2, d3, d4, d5, d6, d7, d8, d9, dS⟩ := q2
      have hq := swap_lit hSL1
      have o1 := na_ok hW1 hSL1
      have o2 := na_ok o1.wf fun p hp => ⟨(hq p hp).1.mono o1.ext.len, (hq p hp).2.mono o1.ext.len⟩
      have hz6 := na_len (notAboveG C1 (sps.take i)).1 ((sps.take i).map swapP)
      have hto : ∀ (o : Obj), ∀ p ∈ S4, p ∈ (D6, o) :: S6 := fun o p hp => .tail _ (hS6 _ (hS5 _ hp))
      have hoS7 : ∀ o : Obj, OwnOff ((D6, o) :: S6) _ := fun o => ownOff_cons (by walk_at "nes") hoS6
      refine hQt _ _ (TPost.next (TEnd.intro (its := [(I, oI)]) F9 (news_pick N9 ((List.Mem.tail _ (List.Mem.tail _ (List.Mem.tail _ (List.Mem.tail _ (List.Mem.tail _ (List.Mem.tail _ (List.Mem.head _)))))))) (news_pick N9 ((List.Mem.tail _ (List.Mem.head _))) (news_pick N9 ((List.Mem.tail _ (List.Mem.tail _ (List.Mem.head _)))) (news_pick N9 ((List.Mem.tail _ (List.Mem.tail _ (List.Mem.tail _ (List.Mem.head _))))) (news_pick N9 ((List.Mem.tail _ (List.Mem.tail _ (List.Mem.tail _ (List.Mem.tail _ (List.Mem.head _)))))) (news_pick N9 ((List.Mem.tail _ (List.Mem.tail _ (List.Mem.tail _ (List.Mem.tail _ (List.Mem.tail _ (List.Mem.head _))))))) (news_pick N9 ((List.Mem.tail _ (List.Mem.tail _ (List.Mem.tail _ (List.Mem.tail _ (List.Mem.tail _ (List.Mem.tail _ (List.Mem.tail _ (List.Mem.head _))))))))) (news_pick N9 ((List.Mem.tail _ (List.Mem.tail _ (List.Mem.tail _ (List.Mem.tail _ (List.Mem.tail _ (List.Mem.tail _ (List.Mem.tail _ (List.Mem.tail _ (List.Mem.head _)))))))))) (news_pick N9 ((List.Mem.tail _ (List.Mem.tail _ (List.Mem.tail _ (List.Mem.tail _ (List.Mem.tail _ (List.Mem.tail _ (List.Mem.tail _ (List.Mem.tail _ (List.Mem.tail _ (List.Mem.head _))))))))))) (news_pick N9 ((List.Mem.head _)) fun p hp => N9 p ((List.Mem.tail _ (List.Mem.tail _ (List.Mem.tail _ (List.Mem.tail _ (List.Mem.tail _ (List.Mem.tail _ (List.Mem.tail _ (List.Mem.tail _ (List.Mem.tail _ (List.Mem.tail _ hp)))))))))))))))))))))
        (off_led (A := [(td, oP), (aa, listOf (avs ++ [Value.ref D3] ++ [Value.ref D6]).toArray (na + 1 + 1)), (L + 1 + 1 + 1 + 1 + 1, oR), (L + 1 + 1 + 1 + 1, oG), (L + 1 + 1 + 1, oT), (kl, listOf kvs6.toArray nk6), (pl, listOf pvs6.toArray np6), (kd, ko6)]) hIs (ownOff_sub (hoS7 _) (by walk_at "subs")))
        ⟨_, _, kvs6, pvs6, avs ++ [Value.ref D3] ++ [Value.ref D6], nk6, np6, _, ko6, rfl, fun p hp => hto _ _ (hS4 _ (hS3 _ (hS2 _ (hS _ hp)))), O6.cons d7 d8 d9, V6.mono fun p hp => .tail _ hp, o2.wf, (hE.trans o1.ext).trans o2.ext, by omega, ownOff_sub (hoS7 _) (by walk_at "subs"),
          hA.step (fun p hp => hto _ _ (hS4 _ (hS3 _ (hS2 _ hp)))) hW1 (fun p hp => ⟨(hSL p hp).1.mono hE1, (hSL p hp).2.mono hE1⟩) hq (hto _ _ hD3) (hto _ _ hD13) (hSPu.mono (hto _)) (by omega) (.head _) (.tail _ (hS6 _ hD5)) (hSPs.mono fun p hp => .tail _ (hS6 _ hp)) (by omega), g1, g2, g3, g4⟩))
  case done =>
    rintro mm _ h3 tk3 ⟨S1, C1, kvs1, pvs1, avs, nk1, np1, na, ko1, rfl, hS, O1, V1, hW1, hE, hz, hoS1, hA, g1, g2, g3, g4⟩ F4 N4
    show wpAny _ _ (execs _ _) _ _ _
    have hal := hA.len
    obtain ⟨ft, v0, t1, nf, e0, hft⟩ := hA.first (by omega)
    obtain ⟨lt, v1, g, tl, nl, e1, hlt, hll, hagain⟩ := hA.last (by omega)
    rw [Nat.add_sub_cancel, hsl, List.take_length] at hagain
    have hxA : ∀ b ∈ [kl, pl, kd], @Ne Nat aa b := by walk_at "nes"
    have e2 : ((-2 : Int) + (avs.length : Int)).toNat = 2 * (svs.length + 1) - 2 := by omega
    exact law5 w L fa cd base h₀ mean mg mb s h3 tk3 mm S1 Q E B F4 X oR oG oT oI oC oP vR vG vT aa td c kl pl kd ia pa sa lt ft C1 kvs1 pvs1 ivs avs pls svs nk1 np1 ni na npl ns nl nf n spot ko1 ps sps v0 v1 g tl t1
      N4 T dR dG dT (hS _ mI) dI (hS _ mC) dC O1 V1 hW1 hn (by omega) (hS _ hi) hI (fun p hp b hb => hoS1 p hp b (by simp only [List.mem_cons] at hb ⊢; rcases hb with h | h | h; exact .inr (.inl h); exact .inl h; exact .inr (.inr h)))
      (ownOff_cons hxA hoK) (Nat.ne_of_gt a1) a2 htL
      (hTp.mono hS) hsp (hS _ hpa) hPI hp0 hp1 (fun p hp => (hPL p hp).mono hE.len) (hS _ hsa) (hSP.mono hS) (by omega) (fun p hp => ⟨(hSL p hp).1.mono hE.len, (hSL p hp).2.mono hE.len⟩)
      (e2 ▸ e1) (by omega) e0 (by omega) hlt hft hll hagain hA.all g1 g2 g3 g4 hret
section
variable {prog : Program} {w : World} {A : Around} {E : Value → Shared → Prop} {s : Shared} {env : Env} {h₀ : Heap} {body : List Stmt} {Q : Flow → Shared → Prop}
/-- a loop over a range whose end is known only behind its call -/
theorem for_rangeD {a₀ : Int} {x : Str} {px : Pos} {iter : Expr} {pos : Pos} {m₀ : Str → Option Value} (b₀ : Nat → Int) (P : Nat → Prop) (J : Nat → (Str → Option Value) → List (Addr × Obj) → Prop) (hh : A.handled = none) (F : Fr h₀ env.locals s.heap m₀)
    (hsmall : ∀ n, P n → Builtin.Range.small a₀ (b₀ n) 1 = true) (hn : ∀ n, P n → Builtin.Range.rangeSize a₀ (b₀ n) 1 = (n : Int))
    (heval : wpAny (model prog w) A (eval iter env) (fun xv s₁ => ∃ n r t₀ u₀ v₀ h tk m news, P n ∧ xv = .ref r ∧ s₁ = { s with heap := h, toks := tk } ∧ IsRange h r a₀ (b₀ n) 1 t₀ u₀ v₀ ∧ Fr h₀ env.locals h m ∧ News h₀ env.locals h news ∧ J 0 m news) (fun _ _ => False) s)
    (turn : ∀ n, P n → ∀ (i : Nat) t m news I oI h tk, i < n → J i m news → oI.cls = .type "range_iterator" → (∀ p ∈ news, p.1 ≠ I) → Fr h₀ env.locals h m → News h₀ env.locals h ((I, oI) :: news) →
      ∀ Qt : Flow → Shared → Prop, (∀ f s₂, TPost h₀ env.locals { s with heap := h, toks := tk } [(I, oI)] (J (i + 1)) Q f s₂ → Qt f s₂) → wpAny (model prog w) A (assign (.Name x px) env (.int (a₀ + i) t)) (fun _ s₂ => wpAny (model prog w) A (execs body env) Qt (fun _ _ => False) s₂) (fun _ _ => False) { s with heap := h, toks := tk })
    (done : ∀ n, P n → ∀ m news h tk, J n m news → Fr h₀ env.locals h m → News h₀ env.locals h news → Q .next { s with heap := h, toks := tk })
    (hs : ∀ x, foldedSetIterable iter env x = pure x := by intro _; rfl) :
    wpAny (model prog w) A (exec (.For (.Name x px) iter body [] pos) env) Q E s := by
  refine wpAny_noRaise (For_turns F (wpAny_mono heval (fun xv s₁ h1 => ?_) fun _ _ e => e) hs PassesOwn.never)
  obtain ⟨n, r, t₀, u₀, v₀, h, tk, m, news, hP, rfl, rfl, hr, F1, N1, hj⟩ := h1
  refine wpAny_pyIter_range hr (hsmall n hP) ?_
  have hfresh : ∀ p ∈ news, p.1 ∉ ([(h.objs.size, "range_iterator")] : List (Addr × String)).map (·.1) := by
    intro p hp hm
    simp at hm
    exact Nat.lt_irrefl _ (hm ▸ Heap.lt_size (N1 p hp).1)
  have W : Walks prog w A h.objs.size [h.objs.size] [h.objs.size] n (fun i v => i < n ∧ ∃ t, v = .int (a₀ + i * 1) t) (fun i h' => IsRangeIter h' h.objs.size (a₀ + (i : Nat) * 1) ((n : Int) - (i : Nat)) 1) := (Walks.range hh _ a₀ 1 n).bound
  refine ktu_core (tk0 := tk) (s := { s with heap := h, toks := tk }) (ws := [(h.objs.size, "range_iterator")]) (keep := []) (xs := (List.range n).map fun i => Itm.tok (fun t => .int (a₀ + (i : Nat)) t)) (KTurns.ofWalks W (fun i v s Q E st q => wpAny_pure q)) (by simp) ?_ ?_ ?_ ?_ ?_ ?_ ?_ ?_ (F1.push _) (fun p hp => ⟨Heap.get?_push_of_some _ (N1 p hp).1, (N1 p hp).2⟩) trivial ?_
  · rintro i v h ⟨hi, t, rfl⟩
    refine ⟨Itm.tok (fun t => .int (a₀ + (i : Nat)) t), by simp [hi], t, by simp⟩
  · intro i h' st
    exact ⟨[(h.objs.size, _)], ⟨⟨rfl, rfl⟩, trivial⟩, fun p hp => by rw [List.mem_singleton.mp hp]; exact st⟩
  · intro b hb
    have e : b = h.objs.size := by simpa using hb
    rw [e]
    exact ⟨List.mem_cons_self .., next_is_new F1⟩
  · intro b hb; simpa using hb
  · intro b hb; exact .inl (by simpa using hb)
  · intro hm
    exact absurd F1.ns.lt ((List.mem_singleton.mp hm) ▸ Nat.lt_irrefl _)
  · intro p hp hI; exact hfresh p hp (by simpa using hI)
  · show IsRangeIter _ _ _ _ _
    rw [hn n hP]
    simpa using Heap.get?_push_size _ rfl
  · refine items_inv (s := { s with heap := h, toks := tk }) (keep := []) J (fun i m nx h => trivial) ?_ ?_ n 0 m news (by simp) hj hfresh
    · intro i a v m news its h tk ha hv hj hits off F N
      match its, hits, N, off with
      | [(I', oI)], hits, N, off =>
        obtain ⟨⟨e1, e2⟩, _⟩ := hits
        have hlt : i < n := by
          have := (List.getElem?_eq_some_iff.mp ha).1
          simpa using this
        have hv' : ∃ t, v = .int (a₀ + (i : Nat)) t := by
          rw [List.getElem?_map, List.getElem?_range hlt] at ha
          cases ha
          exact hv
        obtain ⟨t, rfl⟩ := hv'
        exact turn n hP i t m news I' oI h tk hlt hj e2 (fun p hp => off p hp _ (.head _)) F N _ (fun _ _ h => h)
      | [], hits, _, _ => exact hits.elim
      | _ :: _ :: _, hits, _, _ => exact hits.2.elim
    · intro m news h tk hj F N
      exact done n hP m news h tk (by simpa using hj) F N
end
section
variable {w : World} {S : List (Addr × Obj)} {td pa : Addr} {o : Obj} {spot n : Nat} {pvs : List Value} {ps : List Int}
    {dp un : Nat} {gd : Option (List Code)} {cn : Str} {cs : Scope} {a : Addr} {ccd : Value} {cl : List (Str × Addr)} {outer : List Env} {A₀ : Around} {base h₀ : Heap} {L : Addr} {m : Str → Option Value} {s : Shared} {mean : ExcName → Option Value} {mg mb : Str → Option Value}
    {Q E : Value → Shared → Prop}
theorem lit_use (Fx : List (Addr × Obj)) (hT : TapeAt w S spot o) (hs : spot ≤ 900) (hp : (pa, listOf pvs.toArray n) ∈ S) (hI : IntsAre pvs ps) (h0 : 0 < pvs.length) (h1 : pvs.length ≤ 63) (hoff : OwnOff S [td]) (hx : ∀ p ∈ Fx, p.1 ∉ ([td] : List Addr))
    (B : Below A₀ base outer h₀) (F : Fr h₀ L s.heap m) (X : (A.heap_1 w.params).In h₀) (N : News h₀ L s.heap ((td, o) :: (Fx ++ S))) (T : Top V0 (looseW V0 []) mean mg mb h₀) (hk : cs.kind = .function)
    (hd : dp + 2 < recursionLimit) (hu : un + 8 * 2 < cLine)
    (ret : ∀ x t o' h' tk', LitOf ps x → TapeAt w S (spot + 2) o' → Fr h₀ L h' m → News h₀ L h' ((td, o') :: (Fx ++ S)) → Q (.int x t) { s with heap := h', toks := tk' }) :
    wpAny (model PySem.Challenge.rw_nz0381_01.prog w) (ktrTop dp un gd cn cs L a ccd cl outer) (call (.ref 185) [.ref td, .ref pa]) Q E s := by
  refine calls_useF Fx (lit_spec w S td pa o spot pvs ps n hT hs hp hI h0 h1 hoff) B F X N T hk hd hu (fun p hp => hp) hx ?_
  rintro r muts' new h' tk' F' N' _ _ ⟨x, t, o', hx, ho⟩
  exact ret x t o' h' tk' hx ho F' N'
theorem draw_use {many : Int} {tm : Tok} (Fx : List (Addr × Obj)) (hT : TapeAt w S spot o) (hs : spot ≤ 1000) (h0 : 0 < many) (h1 : many ≤ 1000) (hoff : OwnOff S [td]) (hx : ∀ p ∈ Fx, p.1 ∉ ([td] : List Addr))
    (B : Below A₀ base outer h₀) (F : Fr h₀ L s.heap m) (X : (A.heap_1 w.params).In h₀) (N : News h₀ L s.heap ((td, o) :: (Fx ++ S))) (T : Top V0 (looseW V0 []) mean mg mb h₀) (hk : cs.kind = .function)
    (hd : dp + 1 < recursionLimit) (hu : un + 8 * 1 < cLine)
    (ret : ∀ x t o' h' tk', 0 ≤ x → x < many → TapeAt w S (spot + 1) o' → Fr h₀ L h' m → News h₀ L h' ((td, o') :: (Fx ++ S)) → Q (.int x t) { s with heap := h', toks := tk' }) :
    wpAny (model PySem.Challenge.rw_nz0381_01.prog w) (ktrTop dp un gd cn cs L a ccd cl outer) (call (.ref 178) [.ref td, .int many tm]) Q E s := by
  refine calls_useF Fx (draw_spec w S td o spot many tm hT hs h0 h1 hoff) B F X N T hk hd hu (fun p hp => hp) hx ?_
  rintro r muts' new h' tk' F' N' _ _ ⟨x, t, o', h0, h1, ho⟩
  exact ret x t o' h' tk' h0 h1 ho F' N'
end
/-- the state of law ahead of the i-th pair of `some` -/
inductive JLaw3 (w : World) (L : Nat) (C : List Gate) (spot : Nat) (rest S0 : List (Addr × Obj)) (td pa sa : Addr) (i : Nat) (mm : Str → Option Value) (nx : List (Addr × Obj)) : Prop
  | mk (S : List (Addr × Obj)) (oP : Obj) (svs : List Value) (sps : List (Int × Int)) (sp ns : Nat) (hn : nx = (td, oP) :: (sa, listOf svs.toArray ns) :: (rest ++ S)) (hS : ∀ p ∈ S0, p ∈ S) (hoS : OwnOff S ([td, sa] ++ rest.map (·.1)))
    (hTp : TapeAt w S sp oP) (hsp : sp ≤ spot + 1 + 4 * i) (hSP : PairsAre S svs sps) (hl : svs.length = i) (hSL : ∀ p ∈ sps, LitIn C.length p.1 ∧ LitIn C.length p.2)
    (h2 : mm (Str.ofString "tape") = some (.ref td)) (h3 : mm (Str.ofString "pool") = some (.ref pa)) (h4 : mm (Str.ofString "some") = some (.ref sa)) : JLaw3 w L C spot rest S0 td pa sa i mm nx
set_option pp.deepTerms false in
set_option pp.deepTerms.threshold 3 in
theorem law3 (w : World) (L fa : Addr) (cd : Value) (base h₀ : Heap) (mean : ExcName → Option Value) (mg mb : Str → Option Value) (s : Shared) (h : Heap) (tk : Nat) (m : Str → Option Value) (S : List (Addr × Obj)) (Q : Flow → Shared → Prop) (E : Value → Shared → Prop)
    (B : Below callerA base [] h₀) (F : Fr h₀ L h m) (X : (A.heap_1 w.params).In h₀) (oR oG oT oI oC oP : Obj) (vR vG vT : Option Value)
    (td c kl pl kd ia pa : Addr) (C : List Gate) (kvs pvs ivs pls : List Value) (nk np ni npl n spot : Nat) (ko : Obj) (ps : List Int)
    (N : News h₀ L h ((td, oP) :: (L + 1 + 1 + 1 + 1 + 1, oR) :: (L + 1 + 1 + 1 + 1, oG) :: (L + 1 + 1 + 1, oT) :: (kl, listOf kvs.toArray nk) :: (pl, listOf pvs.toArray np) :: (kd, ko) :: S)) (T : Top V0 (looseW V0 []) mean mg mb h₀)
    (dR : oR.data = .cell vR) (dG : oG.data = .cell vG) (dT : oT.data = .cell vT) (mI : (L + 1 + 1, oI) ∈ S) (dI : oI.data = .cell (some (.ref ia))) (mC : (L + 1, oC) ∈ S) (dC : oC.data = .cell (some (.ref c)))
    (O : CirO S c kl pl kd) (V : CircV w S kd C kvs pvs ko) (hW : WFC n C) (hn : n ≤ 3) (hsz : C.length ≤ 70000) (hi : (ia, listOf ivs.toArray ni) ∈ S) (hI : IntsAre ivs (inpsOf n))
    (hoS : OwnOff S [td, L + 1 + 1 + 1 + 1 + 1, L + 1 + 1 + 1 + 1, L + 1 + 1 + 1])
    (hoK : OwnOff [(td, oP), (L + 1 + 1 + 1 + 1 + 1, oR), (L + 1 + 1 + 1 + 1, oG), (L + 1 + 1 + 1, oT)] [kl, pl, kd])
    (htL : @Ne Nat (L + 1 + 1 + 1 + 1 + 1) td ∧ @Ne Nat (L + 1 + 1 + 1 + 1) td ∧ @Ne Nat (L + 1 + 1 + 1) td)
    (hTp : TapeAt w S spot oP) (hsp : spot ≤ 700) (hpa : (pa, listOf pls.toArray npl) ∈ S) (hPI : IntsAre pls ps) (hp0 : 0 < pls.length) (hp1 : pls.length ≤ 63) (hPL : ∀ p ∈ ps, LitIn C.length p)
    (m2 : m (Str.ofString "tape") = some (.ref td)) (m3 : m (Str.ofString "pool") = some (.ref pa))
    (hret : ∀ h' tk m', Fr h₀ L h' m' → Q (.ret (.bool true)) { s with heap := h', toks := tk }) :
    wpAny (model PySem.Challenge.rw_nz0381_01.prog w) (lawAr L fa cd) (execs (lawFn.body.drop 4) (lawEnv L fa cd)) Q E { s with heap := h, toks := tk } := by
  revert X; k_fill; intro X
  unfold lawAr lawEnv lawFn dOf
  dsimp only [List.drop]
  walk_at "go"
  unfold Stop
  rename_i h1 F1 N1
  obtain ⟨sa, rfl⟩ : ∃ x, x = l' := ⟨_, rfl⟩
  obtain ⟨a1, a2, a3, a4, a5, a6, a7, aS⟩ := l1
  obtain ⟨m5, F2, k2, k3, k4⟩ : ∃ m5, Fr h₀ L h1 m5 ∧ m5 (Str.ofString "tape") = some (.ref td) ∧ m5 (Str.ofString "pool") = some (.ref pa) ∧ m5 (Str.ofString "some") = some (.ref sa) := ⟨_, F1, m2, m3, rfl⟩
  clear F1
  have hk0 := hoK _ ((List.Mem.head _))
  have hx : ∀ oA : Obj, ∀ p ∈ [(sa, oA), (L + 1 + 1 + 1 + 1 + 1, oR), (L + 1 + 1 + 1 + 1, oG), (L + 1 + 1 + 1, oT), (kl, listOf kvs.toArray nk), (pl, listOf pvs.toArray np), (kd, ko)], p.1 ∉ ([td] : List Addr) := by
    intro oA p hp hm
    have e := List.mem_singleton.mp hm
    simp only [List.mem_cons, List.not_mem_nil, or_false] at hp
    rcases hp with rfl | rfl | rfl | rfl | rfl | rfl | rfl
    · exact Nat.ne_of_gt a1 e
    · exact htL.1 e
    · exact absurd e (by change ¬ (@Eq Nat _ _); omega)
    · exact absurd e (by change ¬ (@Eq Nat _ _); omega)
    · exact hk0 kl (by simp) e.symm
    · exact hk0 pl (by simp) e.symm
    · exact hk0 kd (by simp) e.symm
  have hoA : OwnOff S [td, sa, L + 1 + 1 + 1 + 1 + 1, L + 1 + 1 + 1 + 1, L + 1 + 1 + 1, kl, pl, kd] := ownOff_ins (ownOff_app hoS O.off) (allLt_notin aS)
  refine for_rangeD (fun n => (n : Int)) (fun n => n ≤ 5) (JLaw3 w L C spot [(L + 1 + 1 + 1 + 1 + 1, oR), (L + 1 + 1 + 1 + 1, oG), (L + 1 + 1 + 1, oT), (kl, listOf kvs.toArray nk), (pl, listOf pvs.toArray np), (kd, ko)] S td pa sa) rfl F2 (fun n hn => (range_size (n := n) (by omega)).1) (fun n hn => (range_size (n := n) (by omega)).2) ?heval ?turn ?done
  case heval =>
    walk_at "go"
    unfold Stop
    refine draw_use [(sa, _), (L + 1 + 1 + 1 + 1 + 1, oR), (L + 1 + 1 + 1 + 1, oG), (L + 1 + 1 + 1, oT), (kl, listOf kvs.toArray nk), (pl, listOf pvs.toArray np), (kd, ko)] hTp (by omega) (by decide) (by decide) (ownOff_sub hoA (by walk_at "subs")) (hx _) (by k_asm) F2 (by k_asm) (news_pick N1 ((List.Mem.tail _ (List.Mem.head _))) (news_pick N1 ((List.Mem.head _)) fun p hp => N1 p ((List.Mem.tail _ (List.Mem.tail _ hp))))) (by k_asm) (by first | exact rfl | assumption) (by ktr_room) (by ktr_units) fun x t o' h2 tk2 hx0 hx1 ho F3 N3 => ?_
    obtain ⟨k, rfl⟩ := Int.eq_ofNat_of_zero_le hx0
    clear N1 F2
    walk_at "go"
    unfold Stop
    exact range_1 F3 N3 fun r t₀ u₀ v₀ h' tk hr F4 N4 => ⟨k, r, t₀, u₀, v₀, h', tk, _, _, by omega, rfl, rfl, hr, F4, N4, ⟨S, o', [], [], spot + 1, _, rfl, fun _ h => h, hoA, ho, by omega, ⟨rfl, fun i v e => by simp at e⟩, rfl, (fun p hp => by cases hp), k2, k3, k4⟩⟩
  case turn =>
    rintro n hn i t mm _ I oI h3 tk3 hin ⟨S1, oP1, svs, sps, sp, ns, rfl, hS, hoS1, hTp1, hsp1, hSP1, hl1, hSL1, g2, g3, g4⟩ hoI hoI2 F4 N4 Qt hQt
    simp only [Int.zero_add]
    simp only [List.cons_append, List.nil_append, List.map_cons, List.map_nil] at N4 hoI2 hoS1
    clear F2 N1
    have hIs : ∀ b ∈ [td, sa, L + 1 + 1 + 1 + 1 + 1, L + 1 + 1 + 1 + 1, L + 1 + 1 + 1, kl, pl, kd], @Ne Nat b I := fun b hb => by
      obtain ⟨p, hp, rfl⟩ := List.mem_map.mp (mem_fsts (A := [(td, oP1), (sa, listOf svs.toArray ns), (L + 1 + 1 + 1 + 1 + 1, oR), (L + 1 + 1 + 1 + 1, oG), (L + 1 + 1 + 1, oT), (kl, listOf kvs.toArray nk), (pl, listOf pvs.toArray np), (kd, ko)]) (B := S1) hb)
      exact hoI2 p hp
    replace hoS1 : OwnOff S1 [td, sa, L + 1 + 1 + 1 + 1 + 1, L + 1 + 1 + 1 + 1, L + 1 + 1 + 1, kl, pl, kd, I] := ownOff_app (b := [I]) hoS1 fun p hp b hb => by rw [List.mem_singleton.mp hb]; exact hoI2 p ((List.Mem.tail _ (List.Mem.tail _ (List.Mem.tail _ (List.Mem.tail _ (List.Mem.tail _ (List.Mem.tail _ (List.Mem.tail _ (List.Mem.tail _ hp)))))))))
    have hsI : @Ne Nat sa I := hIs _ ((List.Mem.tail _ (List.Mem.head _)))
    have hx2 : ∀ oA : Obj, ∀ p ∈ [(I, oI), (sa, oA), (L + 1 + 1 + 1 + 1 + 1, oR), (L + 1 + 1 + 1 + 1, oG), (L + 1 + 1 + 1, oT), (kl, listOf kvs.toArray nk), (pl, listOf pvs.toArray np), (kd, ko)], p.1 ∉ ([td] : List Addr) := fun oA p hp hm => by
      rcases List.mem_cons.mp hp with rfl | hp
      · exact hIs td ((List.Mem.head _)) (List.mem_singleton.mp hm).symm
      · exact hx oA p hp hm
    have hpa1 := hS _ hpa
    have hsvl : svs.length ≤ 5 := by omega
    clear hoI2
    walk_at "go"
    unfold Stop
    rename_i h4 F5 N5
    refine lit_use [(I, oI), (sa, listOf svs.toArray ns), (L + 1 + 1 + 1 + 1 + 1, oR), (L + 1 + 1 + 1 + 1, oG), (L + 1 + 1 + 1, oT), (kl, listOf kvs.toArray nk), (pl, listOf pvs.toArray np), (kd, ko)] hTp1 (by omega) hpa1 hPI hp0 hp1 (ownOff_sub hoS1 (by walk_at "subs")) (hx2 _) (by k_asm) F5 (by k_asm) (news_pick N5 ((List.Mem.tail _ (List.Mem.head _))) (news_pick N5 ((List.Mem.head _)) fun p hp => N5 p ((List.Mem.tail _ (List.Mem.tail _ hp))))) (by k_asm) (by first | exact rfl | assumption) (by ktr_room) (by ktr_units) fun x tx o2 h5 tk5 hlx ho2 F6 N6 => ?_
    simp only [List.cons_append, List.nil_append] at N6
    clear F4 N4 F5 N5
    walk_at "go"
    unfold Stop
    rename_i h6 F7 N7
    refine lit_use [(I, oI), (sa, listOf svs.toArray ns), (L + 1 + 1 + 1 + 1 + 1, oR), (L + 1 + 1 + 1 + 1, oG), (L + 1 + 1 + 1, oT), (kl, listOf kvs.toArray nk), (pl, listOf pvs.toArray np), (kd, ko)] ho2 (by omega) hpa1 hPI hp0 hp1 (ownOff_sub hoS1 (by walk_at "subs")) (hx2 _) (by k_asm) F7 (by k_asm) N7 (by k_asm) (by first | exact rfl | assumption) (by ktr_room) (by ktr_units) fun y ty o3 h7 tk7 hly ho3 F8 N8 => ?_
    simp only [List.cons_append, List.nil_append] at N8
    clear F7 N7
    walk_at "go"
    rename_i D _ q1 h8 F9 N9
    obtain ⟨d1, d2, d3, d4, d5, d6, d7, d8, d9, dS⟩ := q1
    refine hQt _ _ (TPost.next (TEnd.intro (its := [(I, oI)]) F9 (news_pick N9 ((List.Mem.tail _ (List.Mem.tail _ (List.Mem.head _)))) (news_pick N9 ((List.Mem.tail _ (List.Mem.head _))) (news_pick N9 ((List.Mem.tail _ (List.Mem.tail _ (List.Mem.tail _ (List.Mem.head _))))) (news_pick N9 ((List.Mem.tail _ (List.Mem.tail _ (List.Mem.tail _ (List.Mem.tail _ (List.Mem.head _)))))) (news_pick N9 ((List.Mem.tail _ (List.Mem.tail _ (List.Mem.tail _ (List.Mem.tail _ (List.Mem.tail _ (List.Mem.head _))))))) (news_pick N9 ((List.Mem.tail _ (List.Mem.tail _ (List.Mem.tail _ (List.Mem.tail _ (List.Mem.tail _ (List.Mem.tail _ (List.Mem.head _)))))))) (news_pick N9 ((List.Mem.tail _ (List.Mem.tail _ (List.Mem.tail _ (List.Mem.tail _ (List.Mem.tail _ (List.Mem.tail _ (List.Mem.tail _ (List.Mem.head _))))))))) (news_pick N9 ((List.Mem.tail _ (List.Mem.tail _ (List.Mem.tail _ (List.Mem.tail _ (List.Mem.tail _ (List.Mem.tail _ (List.Mem.tail _ (List.Mem.tail _ (List.Mem.head _)))))))))) (news_pick N9 ((List.Mem.tail _ (List.Mem.tail _ (List.Mem.tail _ (List.Mem.tail _ (List.Mem.tail _ (List.Mem.tail _ (List.Mem.tail _ (List.Mem.tail _ (List.Mem.tail _ (List.Mem.head _))))))))))) (news_pick N9 ((List.Mem.head _)) fun p hp => N9 p ((List.Mem.tail _ (List.Mem.tail _ (List.Mem.tail _ (List.Mem.tail _ (List.Mem.tail _ (List.Mem.tail _ (List.Mem.tail _ (List.Mem.tail _ (List.Mem.tail _ (List.Mem.tail _ hp)))))))))))))))))))))
      (off_led (A := [(td, o3), (sa, listOf (svs ++ [Value.ref D]).toArray (ns + 1)), (L + 1 + 1 + 1 + 1 + 1, oR), (L + 1 + 1 + 1 + 1, oG), (L + 1 + 1 + 1, oT), (kl, listOf kvs.toArray nk), (pl, listOf pvs.toArray np), (kd, ko)]) hIs (ownOff_cons (by walk_at "nes") (ownOff_sub hoS1 (by walk_at "subs"))))
      ⟨_, o3, svs ++ [Value.ref D], sps ++ [(x, y)], sp + 2 + 2, _, rfl, fun p hp => .tail _ (hS p hp), ownOff_cons (by walk_at "nes") (ownOff_sub hoS1 (by walk_at "subs")), ho3.mono fun p hp => .tail _ hp, by omega, pairs_app (hSP1.mono fun p hp => .tail _ hp) (pairs_one (.head _)), by simp; omega, fun p hp => ?_, g2, g3, g4⟩))
    rcases List.mem_append.mp hp with hp | hp
    · exact hSL1 p hp
    · rw [List.mem_singleton.mp hp]
      exact ⟨hlx.lit hPL, hly.lit hPL⟩
  case done =>
    rintro n2 hn2 mm _ h3 tk3 ⟨S1, oP1, svs, sps, sp, ns, rfl, hS, hoS1, hTp1, hsp1, hSP1, hl1, hSL1, g2, g3, g4⟩ F4 N4
    simp only [List.cons_append, List.nil_append, List.map_cons, List.map_nil] at N4 hoS1
    show wpAny _ _ (execs _ _) _ _ _
    have hS' : ∀ p ∈ S, p ∈ (sa, listOf svs.toArray ns) :: S1 := fun p hp => .tail _ (hS p hp)
    exact law4 w L fa cd base h₀ mean mg mb s h3 tk3 mm ((sa, listOf svs.toArray ns) :: S1) Q E B F4 X oR oG oT oI oC oP1 vR vG vT td c kl pl kd ia pa sa C kvs pvs ivs pls svs nk np ni npl ns n sp ko ps sps
      (news_pick N4 ((List.Mem.head _)) (news_pick N4 ((List.Mem.tail _ (List.Mem.tail _ (List.Mem.head _)))) (news_pick N4 ((List.Mem.tail _ (List.Mem.tail _ (List.Mem.tail _ (List.Mem.head _))))) (news_pick N4 ((List.Mem.tail _ (List.Mem.tail _ (List.Mem.tail _ (List.Mem.tail _ (List.Mem.head _)))))) (news_pick N4 ((List.Mem.tail _ (List.Mem.tail _ (List.Mem.tail _ (List.Mem.tail _ (List.Mem.tail _ (List.Mem.head _))))))) (news_pick N4 ((List.Mem.tail _ (List.Mem.tail _ (List.Mem.tail _ (List.Mem.tail _ (List.Mem.tail _ (List.Mem.tail _ (List.Mem.head _)))))))) (news_pick N4 ((List.Mem.tail _ (List.Mem.tail _ (List.Mem.tail _ (List.Mem.tail _ (List.Mem.tail _ (List.Mem.tail _ (List.Mem.tail _ (List.Mem.head _))))))))) (news_pick N4 ((List.Mem.tail _ (List.Mem.head _))) fun p hp => N4 p ((List.Mem.tail _ (List.Mem.tail _ (List.Mem.tail _ (List.Mem.tail _ (List.Mem.tail _ (List.Mem.tail _ (List.Mem.tail _ (List.Mem.tail _ hp))))))))))))))))) T dR dG dT (hS' _ mI) dI (hS' _ mC) dC
      ⟨O.inst.mono hS', O.ne1, O.ne2, O.ne3, ownOff_cons (by walk_at "nes") (ownOff_sub hoS1 (by walk_at "subs"))⟩ (V.mono hS') hW hn hsz (hS' _ hi) hI (ownOff_cons (by walk_at "nes") (ownOff_sub hoS1 (by walk_at "subs"))) (ownOff_cons (hoK _ ((List.Mem.head _))) fun p hp => hoK p (.tail _ hp)) htL
      (hTp1.mono fun p hp => .tail _ hp) (by omega) (hS' _ hpa) hPI hp0 hp1 hPL (.head _) (hSP1.mono fun p hp => .tail _ hp) (by omega) hSL1 g2 g3 g4 hret
section
variable {w : World} {S : List (Addr × Obj)} {c kl pl kd td pa : Addr} {C : List Gate} {kvs pvs vs : List Value} {nk np n spot : Nat} {ko o : Obj} {ps : List Int}
    {dp un : Nat} {gd : Option (List Code)} {cn : Str} {cs : Scope} {a : Addr} {ccd : Value} {cl : List (Str × Addr)} {outer : List Env} {A₀ : Around} {base h₀ : Heap} {L : Addr} {m : Str → Option Value} {s : Shared} {mean : ExcName → Option Value} {mg mb : Str → Option Value}
    {Q E : Value → Shared → Prop}
theorem fresh_off {H h₀ : Heap} {L b : Addr} {led new : List (Addr × Obj)} {ob : Obj} (N : News h₀ L H led) (hm : (b, ob) ∈ led) (fr : ∀ p ∈ new, H.get? p.1 = none) : ∀ p ∈ new, p.1 ≠ b := fun p hp e => by
  have z := (N _ hm).1
  have y := fr p hp
  rw [e, z] at y
  cases y
theorem more_use (Fx : List (Addr × Obj)) (O : CirO S c kl pl kd) (V : CircV w S kd C kvs pvs ko) (hsz : C.length ≤ 90000) (hT : TapeAt w S spot o) (hs : spot ≤ 800) (hp : (pa, listOf vs.toArray n) ∈ S) (hI : IntsAre vs ps) (h0 : 0 < vs.length) (h1 : vs.length ≤ 63)
    (d1 : @Ne Nat td kl) (d2 : @Ne Nat td pl) (d3 : @Ne Nat td kd) (hx : ∀ p ∈ Fx, p.1 ∉ [td, kl, pl, kd]) (hS : OwnOff S [td])
    (B : Below A₀ base outer h₀) (F : Fr h₀ L s.heap m) (X : (A.heap_1 w.params).In h₀) (N : News h₀ L s.heap ((td, o) :: (kl, listOf kvs.toArray nk) :: (pl, listOf pvs.toArray np) :: (kd, ko) :: (Fx ++ S))) (T : Top V0 (looseW V0 []) mean mg mb h₀) (hk : cs.kind = .function)
    (hd : dp + 5 < recursionLimit) (hu : un + 8 * 5 < cLine)
    (ret : ∀ new R t o' kvs' pvs' nk' np' ko' sp h' tk', (∀ b ob, (b, ob) ∈ (td, o) :: (kl, listOf kvs.toArray nk) :: (pl, listOf pvs.toArray np) :: (kd, ko) :: (Fx ++ S) → ∀ p ∈ new, p.1 ≠ b) → MoreRes C ps R → sp ≤ spot + 7 → TapeAt w (new ++ S) sp o' → Fr h₀ L h' m → News h₀ L h' ((td, o') :: (kl, listOf (List.toArray kvs') nk') :: (pl, listOf (List.toArray pvs') np') :: (kd, ko') :: (Fx ++ (new ++ S))) →
      CircV w (new ++ S) kd R.1 kvs' pvs' ko' → CirO (new ++ S) c kl pl kd → Q (.int R.2 t) { s with heap := h', toks := tk' }) :
    wpAny (model PySem.Challenge.rw_nz0381_01.prog w) (ktrTop dp un gd cn cs L a ccd cl outer) (call (.ref 192) [.ref td, .ref c, .ref pa]) Q E s := by
  refine calls_useF Fx (more_spec w S c kl pl kd td pa C kvs pvs vs nk np n ko o spot ps O V hsz hT hs hp hI h0 h1 hS d1 d2 d3) B F X N T hk hd hu (fun p hp => hp) hx ?_
  rintro r muts' new h' tk' F' N' fr _ ⟨R, t, o', sp, kvs', pvs', nk', np', ko', rfl, rfl, hs', hT', V', hR⟩
  exact ret new R t o' kvs' pvs' nk' np' ko' sp h' tk' (fun b ob hm => fresh_off N hm fr) hR hs' hT' F' N' V' (O.grow N fr (.tail _ (.head _)) (.tail _ (.tail _ (.head _))) (.tail _ (.tail _ (.tail _ (.head _)))))
end
theorem implies_len (C : List Gate) (a b : Int) : (impliesG C a b).1.length ≤ C.length + 1 := (allOf_len C a (-b)).2
theorem MoreRes.len {C : List Gate} {ps : List Int} {R : List Gate × Int} (h : MoreRes C ps R) : R.1.length ≤ C.length + 3 := by
  cases h with
  | both x y _ _ => exact Nat.le_trans (allOf_len C x y).2 (by omega)
  | either x y _ _ => exact Nat.le_trans (either_len C x y).2 (by omega)
  | iff x y _ _ =>
    have h1 := implies_len C x y
    have h2 := implies_len (impliesG C x y).1 y x
    exact Nat.le_trans (allOf_len _ _ _).2 (by omega)
  | choose x y z _ _ _ =>
    have h1 := implies_len C x y
    have h2 := implies_len (impliesG C x y).1 (-x) z
    exact Nat.le_trans (allOf_len _ _ _).2 (by omega)
theorem CircV.restrict {w : World} {S S' : List (Addr × Obj)} {kd : Addr} {C : List Gate} {kvs pvs : List Value} {ko : Obj} (V : CircV w S kd C kvs pvs ko) (h : ∀ p ∈ S, p ∈ S' ∨ ∃ vs n, p.2 = listOf vs n) : CircV w S' kd C kvs pvs ko where
  klen := V.klen
  plen := V.plen
  kinds := V.kinds
  parts := fun i g e => by
    obtain ⟨a, us, n, x, y, z⟩ := V.parts i g e
    rcases h _ y with y | ⟨vs, k, y⟩
    · exact ⟨a, us, n, x, y, z⟩
    · exact absurd (congrArg Obj.cls y) (by simp [W.listOf])
  known := by
    obtain ⟨D, ⟨lo, o, es, ep, xs, hm, hc, hd, he, hn, hk, hf⟩, hl, hg⟩ := V.known
    refine ⟨D, ⟨lo, o, es, ep, xs, ?_, hc, hd, he, hn, fun x hx => ?_, hf⟩, hl, hg⟩
    · rcases List.mem_cons.mp hm with hm | hm
      · exact hm ▸ .head _
      · rcases h _ hm with y | ⟨vs, k, y⟩
        · exact .tail _ y
        · have y' : o = listOf vs k := y
          rw [y'] at hd
          exact absurd hd (by simp [W.listOf])
    · obtain ⟨ok, a, t⟩ := hk x hx
      refine ⟨ok, ?_, t⟩
      rcases List.mem_cons.mp a with a | a
      · exact a ▸ .head _
      · rcases h _ a with y | ⟨vs, k, y⟩
        · exact .tail _ y
        · have y' : ok = listOf vs k := y
          have t1 := t.1
          rw [y'] at t1
          exact absurd t1 (by simp [W.listOf])
theorem CircS.restrict {S S' : List (Addr × Obj)} {c kl pl kd : Addr} (x : CircS S c kl pl kd) (h : ∀ p ∈ S, p ∈ S' ∨ ∃ vs n, p.2 = listOf vs n) : CircS S' c kl pl kd := by
  obtain ⟨dc, e1, e2, e3, t1, t2, t3, a, b⟩ := x
  refine ⟨dc, e1, e2, e3, t1, t2, t3, ?_, ?_⟩
  · rcases h _ a with y | ⟨vs, k, y⟩
    · exact y
    · exact absurd (congrArg Obj.cls y) (by simp [W.listOf])
  · rcases h _ b with y | ⟨vs, k, y⟩
    · exact y
    · exact absurd (congrArg Obj.data y) (by simp [circD, W.listOf])
theorem TapeAt.swap {w : World} {S S' : List (Addr × Obj)} {sp : Nat} {o : Obj} {pa : Addr} {pls pls' : List Value} {n n' : Nat} {ps' : List Int} (h : TapeAt w S sp o) (k : ∀ p ∈ S, p ∈ S' ∨ p = (pa, listOf pls.toArray n)) (hm : (pa, listOf pls'.toArray n') ∈ S') (hI : IntsAre pls' ps') (hl : pls'.length ≤ 63) : TapeAt w S' sp o := by
  obtain ⟨ca, cvs, m, cs, t, ho, hc, hJ, hz⟩ := h
  rcases k _ hc with y | y
  · exact ⟨ca, cvs, m, cs, t, ho, y, hJ, hz⟩
  · have e : ca = pa := congrArg Prod.fst y
    subst e
    exact ⟨ca, pls', n', ps', t, ho, hm, hI, hl⟩
/-- the state of law ahead of the i-th drawn gate -/
inductive JLaw2 (w : World) (L : Nat) (n : Nat) (C0 : List Gate) (spot len0 : Nat) (S0 : List (Addr × Obj)) (c td pa kl pl kd : Addr) (oR oG oT : Obj) (i : Nat) (mm : Str → Option Value) (nx : List (Addr × Obj)) : Prop
  | mk (S : List (Addr × Obj)) (oP ko : Obj) (C : List Gate) (kvs pvs pls : List Value) (ps : List Int) (nk np npl sp : Nat)
    (hn : nx = (td, oP) :: (pa, listOf pls.toArray npl) :: (L + 1 + 1 + 1 + 1 + 1, oR) :: (L + 1 + 1 + 1 + 1, oG) :: (L + 1 + 1 + 1, oT) :: (kl, listOf kvs.toArray nk) :: (pl, listOf pvs.toArray np) :: (kd, ko) :: S)
    (hS : ∀ p ∈ S0, p ∈ S) (O : CirO S c kl pl kd) (V : CircV w S kd C kvs pvs ko) (hW : WFC n C) (hz : C.length ≤ C0.length + 3 * i) (hoS : OwnOff S [td, pa, L + 1 + 1 + 1 + 1 + 1, L + 1 + 1 + 1 + 1, L + 1 + 1 + 1])
    (hTp : TapeAt w ((pa, listOf pls.toArray npl) :: S) sp oP) (hsp : sp ≤ spot + 7 * i) (hPI : IntsAre pls ps) (hl : pls.length = len0 + i) (hPL : ∀ p ∈ ps, LitIn C.length p)
    (h2 : mm (Str.ofString "tape") = some (.ref td)) (h3 : mm (Str.ofString "pool") = some (.ref pa)) : JLaw2 w L n C0 spot len0 S0 c td pa kl pl kd oR oG oT i mm nx
set_option pp.deepTerms false in
set_option pp.deepTerms.threshold 3 in
theorem law2 (w : World) (L fa : Addr) (cd : Value) (base h₀ : Heap) (mean : ExcName → Option Value) (mg mb : Str → Option Value) (s : Shared) (h : Heap) (tk : Nat) (m : Str → Option Value) (S : List (Addr × Obj)) (Q : Flow → Shared → Prop) (E : Value → Shared → Prop)
    (B : Below callerA base [] h₀) (F : Fr h₀ L h m) (X : (A.heap_1 w.params).In h₀) (oR oG oT oI oC oP : Obj) (vR vG vT : Option Value)
    (td c kl pl kd ia pa : Addr) (C : List Gate) (kvs pvs ivs pls : List Value) (nk np ni npl n spot : Nat) (ko : Obj) (ps : List Int)
    (N : News h₀ L h ((td, oP) :: (pa, listOf pls.toArray npl) :: (L + 1 + 1 + 1 + 1 + 1, oR) :: (L + 1 + 1 + 1 + 1, oG) :: (L + 1 + 1 + 1, oT) :: (kl, listOf kvs.toArray nk) :: (pl, listOf pvs.toArray np) :: (kd, ko) :: S)) (T : Top V0 (looseW V0 []) mean mg mb h₀)
    (dR : oR.data = .cell vR) (dG : oG.data = .cell vG) (dT : oT.data = .cell vT) (mI : (L + 1 + 1, oI) ∈ S) (dI : oI.data = .cell (some (.ref ia))) (mC : (L + 1, oC) ∈ S) (dC : oC.data = .cell (some (.ref c)))
    (O : CirO S c kl pl kd) (V : CircV w S kd C kvs pvs ko) (hW : WFC n C) (hn : n ≤ 3) (hsz : C.length ≤ 60000) (hi : (ia, listOf ivs.toArray ni) ∈ S) (hI : IntsAre ivs (inpsOf n))
    (hoS : OwnOff S [td, pa, L + 1 + 1 + 1 + 1 + 1, L + 1 + 1 + 1 + 1, L + 1 + 1 + 1])
    (hoK : OwnOff [(td, oP), (L + 1 + 1 + 1 + 1 + 1, oR), (L + 1 + 1 + 1 + 1, oG), (L + 1 + 1 + 1, oT)] [kl, pl, kd]) (hpK : ∀ b ∈ [kl, pl, kd], @Ne Nat pa b)
    (htL : @Ne Nat (L + 1 + 1 + 1 + 1 + 1) td ∧ @Ne Nat (L + 1 + 1 + 1 + 1) td ∧ @Ne Nat (L + 1 + 1 + 1) td) (hpt : @Ne Nat pa td) (hpL : @LT.lt Nat _ (L + 1 + 1 + 1 + 1 + 1) pa)
    (hTp : TapeAt w S spot oP) (hsp : spot ≤ 600) (hPI : IntsAre pls ps) (hp0 : 0 < pls.length) (hp1 : pls.length ≤ 10) (hPL : ∀ p ∈ ps, LitIn C.length p)
    (m2 : m (Str.ofString "tape") = some (.ref td)) (m3 : m (Str.ofString "pool") = some (.ref pa))
    (hret : ∀ h' tk m', Fr h₀ L h' m' → Q (.ret (.bool true)) { s with heap := h', toks := tk }) :
    wpAny (model PySem.Challenge.rw_nz0381_01.prog w) (lawAr L fa cd) (execs (lawFn.body.drop 3) (lawEnv L fa cd)) Q E { s with heap := h, toks := tk } := by
  obtain ⟨hsm, hsz2⟩ := range_size (n := 3) (by omega)
  have hk0 := hoK _ ((List.Mem.head _))
  have hk1 := hoK _ ((List.Mem.tail _ (List.Mem.head _)))
  have hk2 := hoK _ ((List.Mem.tail _ (List.Mem.tail _ (List.Mem.head _))))
  have hk3 := hoK _ ((List.Mem.tail _ (List.Mem.tail _ (List.Mem.tail _ (List.Mem.head _)))))
  revert X; k_fill; intro X
  unfold lawAr lawEnv lawFn dOf
  dsimp only [List.drop]
  walk_at "go"
  unfold Stop
  refine for_range (JLaw2 w L n C spot pls.length S c td pa kl pl kd oR oG oT) rfl F hsm hsz2 ?heval ?turn ?done
  case heval =>
    walk_at "go"
    unfold Stop
    exact range_1 F N fun r t₀ u₀ v₀ h' tk hr F4 N4 => ⟨r, t₀, u₀, v₀, h', tk, _, _, rfl, rfl, hr, F4, N4, ⟨S, oP, ko, C, kvs, pvs, pls, ps, nk, np, npl, spot, rfl, fun _ h => h, O, V, hW, by omega, hoS, hTp.mono fun p hp => .tail _ hp, by omega, hPI, rfl, hPL, m2, m3⟩⟩
  case turn =>
    rintro i t mm _ I oI h3 tk3 hin ⟨S1, oP1, ko1, C1, kvs1, pvs1, pls1, ps1, nk1, np1, npl1, sp, rfl, hS, O1, V1, hW1, hz, hoS1, hTp1, hsp1, hPI1, hl1, hPL1, g2, g3⟩ hoI hoI2 F4 N4 Qt hQt
    simp only [Int.zero_add]
    clear N F
    have hIs : ∀ b ∈ [td, pa, L + 1 + 1 + 1 + 1 + 1, L + 1 + 1 + 1 + 1, L + 1 + 1 + 1, kl, pl, kd], @Ne Nat b I := fun b hb => by
      obtain ⟨p, hp, rfl⟩ := List.mem_map.mp (mem_fsts (A := [(td, oP1), (pa, listOf pls1.toArray npl1), (L + 1 + 1 + 1 + 1 + 1, oR), (L + 1 + 1 + 1 + 1, oG), (L + 1 + 1 + 1, oT), (kl, listOf kvs1.toArray nk1), (pl, listOf pvs1.toArray np1), (kd, ko1)]) (B := S1) hb)
      exact hoI2 p hp
    replace hoS1 : OwnOff S1 [td, pa, L + 1 + 1 + 1 + 1 + 1, L + 1 + 1 + 1 + 1, L + 1 + 1 + 1, I] := ownOff_app (b := [I]) hoS1 fun p hp b hb => by rw [List.mem_singleton.mp hb]; exact hoI2 p ((List.Mem.tail _ (List.Mem.tail _ (List.Mem.tail _ (List.Mem.tail _ (List.Mem.tail _ (List.Mem.tail _ (List.Mem.tail _ (List.Mem.tail _ hp)))))))))
    have hpI : @Ne Nat pa I := hIs _ ((List.Mem.tail _ (List.Mem.head _)))
    have mC1 := hS _ mC
    clear hoI2 mC
    walk_at "go"
    unfold Stop
    rename_i h5 F5 N5
    have hx : ∀ p ∈ [(L + 1 + 1 + 1 + 1 + 1, oR), (L + 1 + 1 + 1 + 1, oG), (L + 1 + 1 + 1, oT), (I, oI)], p.1 ∉ [td, kl, pl, kd] := by
      intro p hp hm
      have hI1 := hIs td ((List.Mem.head _))
      simp only [List.mem_cons, List.not_mem_nil, or_false] at hp
      rcases hp with rfl | rfl | rfl | rfl
      · rcases List.mem_cons.mp hm with e | hm
        · exact htL.1 e
        · exact hk1 _ hm rfl
      · rcases List.mem_cons.mp hm with e | hm
        · exact absurd e (by change ¬ (@Eq Nat _ _); omega)
        · exact hk2 _ hm rfl
      · rcases List.mem_cons.mp hm with e | hm
        · exact absurd e (by change ¬ (@Eq Nat _ _); omega)
        · exact hk3 _ hm rfl
      · rcases List.mem_cons.mp hm with e | hm
        · exact hI1 e.symm
        · exact hIs _ ((List.Mem.tail _ (List.Mem.tail _ (List.Mem.tail _ (List.Mem.tail _ (List.Mem.tail _ hm)))))) rfl
    have hin' : ∀ p ∈ S1, p ∈ (pa, listOf pls1.toArray npl1) :: S1 := fun p hp => .tail _ hp
    refine more_use [(L + 1 + 1 + 1 + 1 + 1, oR), (L + 1 + 1 + 1 + 1, oG), (L + 1 + 1 + 1, oT), (I, oI)] (S := (pa, listOf pls1.toArray npl1) :: S1) ⟨O1.inst.mono hin', O1.ne1, O1.ne2, O1.ne3, ownOff_cons hpK O1.off⟩ (V1.mono hin') (by omega) hTp1 (by omega) (.head _) hPI1 (by omega) (by omega)
      (hk0 kl (by simp)) (hk0 pl (by simp)) (hk0 kd (by simp)) hx (ownOff_cons (by simpa using hpt) (ownOff_sub hoS1 (by walk_at "subs"))) (by k_asm) F5 (by k_asm)
      (news_pick N5 ((List.Mem.tail _ (List.Mem.head _))) (news_pick N5 ((List.Mem.tail _ (List.Mem.tail _ (List.Mem.tail _ (List.Mem.tail _ (List.Mem.tail _ (List.Mem.tail _ (List.Mem.head _)))))))) (news_pick N5 ((List.Mem.tail _ (List.Mem.tail _ (List.Mem.tail _ (List.Mem.tail _ (List.Mem.tail _ (List.Mem.tail _ (List.Mem.tail _ (List.Mem.head _))))))))) (news_pick N5 ((List.Mem.tail _ (List.Mem.tail _ (List.Mem.tail _ (List.Mem.tail _ (List.Mem.tail _ (List.Mem.tail _ (List.Mem.tail _ (List.Mem.tail _ (List.Mem.head _)))))))))) (news_pick N5 ((List.Mem.tail _ (List.Mem.tail _ (List.Mem.tail _ (List.Mem.head _))))) (news_pick N5 ((List.Mem.tail _ (List.Mem.tail _ (List.Mem.tail _ (List.Mem.tail _ (List.Mem.head _)))))) (news_pick N5 ((List.Mem.tail _ (List.Mem.tail _ (List.Mem.tail _ (List.Mem.tail _ (List.Mem.tail _ (List.Mem.head _))))))) (news_pick N5 ((List.Mem.head _)) (news_pick N5 ((List.Mem.tail _ (List.Mem.tail _ (List.Mem.head _)))) fun p hp => N5 p ((List.Mem.tail _ (List.Mem.tail _ (List.Mem.tail _ (List.Mem.tail _ (List.Mem.tail _ (List.Mem.tail _ (List.Mem.tail _ (List.Mem.tail _ (List.Mem.tail _ hp)))))))))))))))))))
      (by k_asm) (by first | exact rfl | assumption) (by ktr_room) (by ktr_units) fun new R t6 oP6 kvs6 pvs6 nk6 np6 ko6 sp6 h6 tk6 hf hR hs6 hT6 F6 N6 V6 O6 => ?_
    have G := hR.grow hW1 hPL1
    have hRl := hR.len
    have hsw : ∀ p ∈ new ++ (pa, listOf pls1.toArray npl1) :: S1, p ∈ new ++ S1 ∨ p = (pa, listOf pls1.toArray npl1) := fun p hp => by
      rcases List.mem_append.mp hp with hp | hp
      · exact .inl (List.mem_append_left _ hp)
      · rcases List.mem_cons.mp hp with hp | hp
        · exact .inr hp
        · exact .inl (List.mem_append_right _ hp)
    have hsv : ∀ p ∈ new ++ (pa, listOf pls1.toArray npl1) :: S1, p ∈ new ++ S1 ∨ ∃ vs n, p.2 = listOf vs n := fun p hp => (hsw p hp).imp id fun e => ⟨_, _, congrArg Prod.snd e⟩
    have V7 := V6.restrict hsv
    have I7 := O6.inst.restrict hsv
    have hoN : OwnOff (new ++ S1) [td, pa, L + 1 + 1 + 1 + 1 + 1, L + 1 + 1 + 1 + 1, L + 1 + 1 + 1, I] := fun p hp b hb => by
      rcases List.mem_append.mp hp with hp | hp
      · simp only [List.mem_cons, List.not_mem_nil, or_false] at hb
        rcases hb with rfl | rfl | rfl | rfl | rfl | rfl
        · exact hf _ _ ((List.Mem.head _)) p hp
        · exact hf _ _ ((List.Mem.tail _ (List.Mem.tail _ (List.Mem.tail _ (List.Mem.tail _ (List.Mem.tail _ (List.Mem.tail _ (List.Mem.tail _ (List.Mem.tail _ (List.Mem.head _)))))))))) p hp
        · exact hf _ _ ((List.Mem.tail _ (List.Mem.tail _ (List.Mem.tail _ (List.Mem.tail _ (List.Mem.head _)))))) p hp
        · exact hf _ _ ((List.Mem.tail _ (List.Mem.tail _ (List.Mem.tail _ (List.Mem.tail _ (List.Mem.tail _ (List.Mem.head _))))))) p hp
        · exact hf _ _ ((List.Mem.tail _ (List.Mem.tail _ (List.Mem.tail _ (List.Mem.tail _ (List.Mem.tail _ (List.Mem.tail _ (List.Mem.head _)))))))) p hp
        · exact hf _ _ ((List.Mem.tail _ (List.Mem.tail _ (List.Mem.tail _ (List.Mem.tail _ (List.Mem.tail _ (List.Mem.tail _ (List.Mem.tail _ (List.Mem.head _))))))))) p hp
      · exact hoS1 p hp b hb
    have O7 : CirO (new ++ S1) c kl pl kd := ⟨I7, O6.ne1, O6.ne2, O6.ne3, fun p hp => by
      rcases List.mem_append.mp hp with hp | hp
      · exact O6.off p (List.mem_append_left _ hp)
      · exact O6.off p (List.mem_append_right _ (.tail _ hp))⟩
    have hpa6 : (pa, listOf pls1.toArray npl1) ∈ new ++ (pa, listOf pls1.toArray npl1) :: S1 := List.mem_append_right _ (.head _)
    have hin6 : ∀ p ∈ new ++ S1, p ∈ new ++ (pa, listOf pls1.toArray npl1) :: S1 := fun p hp => by
      rcases List.mem_append.mp hp with hp | hp
      · exact List.mem_append_left _ hp
      · exact List.mem_append_right _ (.tail _ hp)
    obtain ⟨S7, hS7, N7, hsw7⟩ : ∃ S7, S7 = new ++ S1 ∧ News h₀ L h6 ((td, oP6) :: (pa, listOf pls1.toArray npl1) :: (L + 1 + 1 + 1 + 1 + 1, oR) :: (L + 1 + 1 + 1 + 1, oG) :: (L + 1 + 1 + 1, oT) :: (I, oI) :: (kl, listOf (List.toArray kvs6) nk6) :: (pl, listOf (List.toArray pvs6) np6) :: (kd, ko6) :: S7) ∧ ∀ p ∈ S1, p ∈ S7 :=
      ⟨_, rfl, news_pick N6 ((List.Mem.head _)) (news_pick N6 ((List.Mem.tail _ (List.Mem.tail _ (List.Mem.tail _ (List.Mem.tail _ (List.Mem.tail _ (List.Mem.tail _ (List.Mem.tail _ (List.Mem.tail _ hpa6))))))))) (news_pick N6 ((List.Mem.tail _ (List.Mem.tail _ (List.Mem.tail _ (List.Mem.tail _ (List.Mem.head _)))))) (news_pick N6 ((List.Mem.tail _ (List.Mem.tail _ (List.Mem.tail _ (List.Mem.tail _ (List.Mem.tail _ (List.Mem.head _))))))) (news_pick N6 ((List.Mem.tail _ (List.Mem.tail _ (List.Mem.tail _ (List.Mem.tail _ (List.Mem.tail _ (List.Mem.tail _ (List.Mem.head _)))))))) (news_pick N6 ((List.Mem.tail _ (List.Mem.tail _ (List.Mem.tail _ (List.Mem.tail _ (List.Mem.tail _ (List.Mem.tail _ (List.Mem.tail _ (List.Mem.head _))))))))) (news_pick N6 ((List.Mem.tail _ (List.Mem.head _))) (news_pick N6 ((List.Mem.tail _ (List.Mem.tail _ (List.Mem.head _)))) (news_pick N6 ((List.Mem.tail _ (List.Mem.tail _ (List.Mem.tail _ (List.Mem.head _))))) fun p hp => N6 p ((List.Mem.tail _ (List.Mem.tail _ (List.Mem.tail _ (List.Mem.tail _ (List.Mem.tail _ (List.Mem.tail _ (List.Mem.tail _ (List.Mem.tail _ (hin6 p hp)))))))))))))))))), fun p hp => List.mem_append_right _ hp⟩
    rw [← hS7] at V7 O7 hoN
    clear N6 F5 N5 V6 O6 hoS1 F4 N4 hsv I7 hf hTp1 V1 O1
    have hkl2 : @Ne Nat pa kl := hpK kl (by simp)
    have hpl2 : @Ne Nat pa pl := hpK pl (by simp)
    have hkd2 : @Ne Nat pa kd := hpK kd (by simp)
    walk_at "go"
    rename_i h7 F7 N8
    refine hQt _ _ (TPost.next (TEnd.intro (its := [(I, oI)]) F7 (news_pick N8 ((List.Mem.tail _ (List.Mem.tail _ (List.Mem.tail _ (List.Mem.tail _ (List.Mem.tail _ (List.Mem.head _))))))) (news_pick N8 ((List.Mem.head _)) (news_pick N8 ((List.Mem.tail _ (List.Mem.head _))) (news_pick N8 ((List.Mem.tail _ (List.Mem.tail _ (List.Mem.head _)))) (news_pick N8 ((List.Mem.tail _ (List.Mem.tail _ (List.Mem.tail _ (List.Mem.head _))))) (news_pick N8 ((List.Mem.tail _ (List.Mem.tail _ (List.Mem.tail _ (List.Mem.tail _ (List.Mem.head _)))))) (news_pick N8 ((List.Mem.tail _ (List.Mem.tail _ (List.Mem.tail _ (List.Mem.tail _ (List.Mem.tail _ (List.Mem.tail _ (List.Mem.head _)))))))) (news_pick N8 ((List.Mem.tail _ (List.Mem.tail _ (List.Mem.tail _ (List.Mem.tail _ (List.Mem.tail _ (List.Mem.tail _ (List.Mem.tail _ (List.Mem.head _))))))))) (news_pick N8 ((List.Mem.tail _ (List.Mem.tail _ (List.Mem.tail _ (List.Mem.tail _ (List.Mem.tail _ (List.Mem.tail _ (List.Mem.tail _ (List.Mem.tail _ (List.Mem.head _)))))))))) fun p hp => N8 p ((List.Mem.tail _ (List.Mem.tail _ (List.Mem.tail _ (List.Mem.tail _ (List.Mem.tail _ (List.Mem.tail _ (List.Mem.tail _ (List.Mem.tail _ (List.Mem.tail _ hp)))))))))))))))))))
      (off_led (A := [(td, oP6), (pa, listOf (pls1 ++ [Value.int R.2 t6]).toArray (npl1 + 1)), (L + 1 + 1 + 1 + 1 + 1, oR), (L + 1 + 1 + 1 + 1, oG), (L + 1 + 1 + 1, oT), (kl, listOf (List.toArray kvs6) nk6), (pl, listOf (List.toArray pvs6) np6), (kd, ko6)]) hIs (ownOff_sub hoN (by walk_at "subs")))
      ⟨S7, oP6, ko6, R.1, kvs6, pvs6, pls1 ++ [Value.int R.2 t6], ps1 ++ [R.2], nk6, np6, _, sp6, rfl, fun p hp => hsw7 _ (hS p hp), O7, V7, G.wf, by omega, ownOff_sub hoN (by walk_at "subs"),
        hT6.swap (pls' := pls1 ++ [Value.int R.2 t6]) (fun p hp => (hsw p hp).imp (fun h => .tail _ (hS7 ▸ h)) id) (.head _) (ints_snoc hPI1) (by simp; omega), by omega, ints_snoc hPI1, by simp; omega, fun p hp => ?_, g2, g3⟩))
    rcases List.mem_append.mp hp with hp | hp
    · exact (hPL1 p hp).mono G.ext.len
    · rw [List.mem_singleton.mp hp]
      exact G.lit
  case done =>
    rintro mm _ h3 tk3 ⟨S1, oP1, ko1, C1, kvs1, pvs1, pls1, ps1, nk1, np1, npl1, sp, rfl, hS, O1, V1, hW1, hz, hoS1, hTp1, hsp1, hPI1, hl1, hPL1, g2, g3⟩ F4 N4
    show wpAny _ _ (execs _ _) _ _ _
    have hS' : ∀ p ∈ S, p ∈ (pa, listOf pls1.toArray npl1) :: S1 := fun p hp => .tail _ (hS p hp)
    exact law3 w L fa cd base h₀ mean mg mb s h3 tk3 mm ((pa, listOf pls1.toArray npl1) :: S1) Q E B F4 X oR oG oT oI oC oP1 vR vG vT td c kl pl kd ia pa C1 kvs1 pvs1 ivs pls1 nk1 np1 ni npl1 n sp ko1 ps1
      (news_pick N4 ((List.Mem.head _)) (news_pick N4 ((List.Mem.tail _ (List.Mem.tail _ (List.Mem.head _)))) (news_pick N4 ((List.Mem.tail _ (List.Mem.tail _ (List.Mem.tail _ (List.Mem.head _))))) (news_pick N4 ((List.Mem.tail _ (List.Mem.tail _ (List.Mem.tail _ (List.Mem.tail _ (List.Mem.head _)))))) (news_pick N4 ((List.Mem.tail _ (List.Mem.tail _ (List.Mem.tail _ (List.Mem.tail _ (List.Mem.tail _ (List.Mem.head _))))))) (news_pick N4 ((List.Mem.tail _ (List.Mem.tail _ (List.Mem.tail _ (List.Mem.tail _ (List.Mem.tail _ (List.Mem.tail _ (List.Mem.head _)))))))) (news_pick N4 ((List.Mem.tail _ (List.Mem.tail _ (List.Mem.tail _ (List.Mem.tail _ (List.Mem.tail _ (List.Mem.tail _ (List.Mem.tail _ (List.Mem.head _))))))))) (news_pick N4 ((List.Mem.tail _ (List.Mem.head _))) fun p hp => N4 p ((List.Mem.tail _ (List.Mem.tail _ (List.Mem.tail _ (List.Mem.tail _ (List.Mem.tail _ (List.Mem.tail _ (List.Mem.tail _ (List.Mem.tail _ hp))))))))))))))))) T dR dG dT (hS' _ mI) dI (hS' _ mC) dC
      ⟨O1.inst.mono fun p hp => .tail _ hp, O1.ne1, O1.ne2, O1.ne3, ownOff_cons hpK O1.off⟩ (V1.mono fun p hp => .tail _ hp) hW1 hn (by omega) (hS' _ hi) hI (ownOff_cons (by walk_at "nes") (ownOff_sub hoS1 (by walk_at "subs"))) (ownOff_cons hk0 fun p hp => hoK p (.tail _ hp)) htL
      hTp1 (by omega) (.head _) hPI1 (by omega) (by omega) hPL1 g2 g3 hret
/-- the circuit of n inputs -/
def inC (n : Nat) : List Gate := [.dummy, .tru] ++ List.replicate n .inp
theorem inC_succ (n : Nat) : inC (n + 1) = inC n ++ [.inp] := by
  unfold inC
  rw [List.replicate_succ', List.append_assoc]
theorem inC_len (n : Nat) : (inC n).length = n + 2 := by simp [inC]
theorem inC_get {n i : Nat} (h2 : 2 ≤ i) : (inC n)[i]? = if i < n + 2 then some .inp else none := by
  obtain ⟨k, rfl⟩ : ∃ k, i = k + 2 := ⟨i - 2, by omega⟩
  show (List.replicate n Gate.inp)[k]? = _
  rw [List.getElem?_replicate]
  by_cases h : k < n
  · rw [if_pos h, if_pos (by omega)]
  · rw [if_neg h, if_neg (by omega)]
theorem inC_wf (n : Nat) : WFC n (inC n) where
  c0 := rfl
  c1 := rfl
  ci := fun i a b => by rw [inC_get a, if_pos b]
  ca := fun i g a e => by rw [inC_get (by omega), if_neg (by omega)] at e; cases e
  ok := fun i g e => by
    rcases Nat.lt_or_ge i 2 with h | h
    · have : i = 0 ∨ i = 1 := by omega
      rcases this with rfl | rfl
      · cases e; trivial
      · cases e; trivial
    · rw [inC_get h] at e
      split at e
      · cases e; trivial
      · cases e
  len := by rw [inC_len]; exact Nat.le_refl _
theorem idxOf_inC (n : Nat) (ps : List Int) : idxOf (inC n) ps = none := by
  unfold idxOf
  rw [List.findIdx?_eq_none_iff]
  intro g hg
  simp only [inC, List.mem_append, List.mem_cons, List.mem_replicate, List.not_mem_nil, or_false] at hg
  rcases hg with (rfl | rfl) | ⟨_, rfl⟩ <;> rfl
theorem known_inC {w : World} {S : List (Addr × Obj)} {kd : Addr} {ko : Obj} {n : Nat} (T : TupTab (intKind PySem.Challenge.rw_nz0381_01.prog w) PyData.int ((kd, ko) :: S) kd []) :
    ∃ D, TupTab (intKind PySem.Challenge.rw_nz0381_01.prog w) PyData.int ((kd, ko) :: S) kd D ∧ D.length ≤ (inC n).length ∧ ∀ ps, Spec.lookup (encTuple PyData.int ps) D = (idxOf (inC n) ps).map fun (i : Nat) => PyData.int (i : Int) :=
  ⟨[], T, Nat.zero_le _, fun ps => by rw [idxOf_inC]; rfl⟩
theorem ints_inps_snoc {ys : List Value} {n : Nat} {t : Tok} (h : IntsAre ys (inpsOf n)) : IntsAre (ys ++ [.int ((n : Int) + 2) t]) (inpsOf (n + 1)) := by
  have e : inpsOf (n + 1) = inpsOf n ++ [((n : Int) + 2)] := by
    unfold inpsOf
    rw [List.range_succ, List.map_append]
    rfl
  rw [e]
  exact ints_snoc h
theorem off_allLt {a : Addr} {S : List (Addr × Obj)} (h : AllLt a S) : OwnOff S [a] := fun p hp b hb e => by
  rw [List.mem_singleton.mp hb] at e
  exact allLt_notin h (e ▸ List.mem_map.mpr ⟨p, hp, rfl⟩)
theorem circ0 {w : World} {S : List (Addr × Obj)} {kd T1 T2 : Addr} {ko : Obj} {t1 t2 : Tok} {n1 n2 : Nat} (lo : (kd == sysModules) = false) (hi : ko.IsDictOf (intKind PySem.Challenge.rw_nz0381_01.prog w) []) (h1 : (T1, tupO [] n1) ∈ S) (h2 : (T2, tupO [] n2) ∈ S) :
    CircV w S kd (inC 0) [.str (Str.ofString "") t1, .str (Str.ofString "true") t2] [.ref T1, .ref T2] ko where
  klen := rfl
  plen := rfl
  kinds := fun i g e => by
    match i, e with
    | 0, e => cases e; exact ⟨t1, rfl⟩
    | 1, e => cases e; exact ⟨t2, rfl⟩
  parts := fun i g e => by
    match i, e with
    | 0, e => cases e; exact ⟨T1, [], n1, rfl, h1, .nil⟩
    | 1, e => cases e; exact ⟨T2, [], n2, rfl, h2, .nil⟩
  known := known_inC (.ofEmpty (.head _) lo hi)
/-- the inputs, under way -/
inductive JInp (w : World) (L : Nat) (S0 : List (Addr × Obj)) (c kl pl kd td : Addr) (ko oP oR oG oT oI : Obj) (i : Nat) (ys : List Value) (nx : List (Addr × Obj)) : Prop
  | mk (S : List (Addr × Obj)) (kvs pvs : List Value) (nk np : Nat)
    (hn : nx = (kl, listOf kvs.toArray nk) :: (pl, listOf pvs.toArray np) :: (kd, ko) :: (td, oP) :: (L + 1 + 1 + 1 + 1 + 1, oR) :: (L + 1 + 1 + 1 + 1, oG) :: (L + 1 + 1 + 1, oT) :: (L + 1 + 1, oI) :: S)
    (hS : ∀ p ∈ S0, p ∈ S) (O : CirO S c kl pl kd) (V : CircV w S kd (inC i) kvs pvs ko) (hoS : OwnOff S [td, L + 1 + 1 + 1 + 1 + 1, L + 1 + 1 + 1 + 1, L + 1 + 1 + 1, L + 1 + 1]) (hI : IntsAre ys (inpsOf i)) : JInp w L S0 c kl pl kd td ko oP oR oG oT oI i ys nx
theorem circ_inp {w : World} {S S' : List (Addr × Obj)} {kd pt : Addr} {i n : Nat} {kvs pvs : List Value} {ko : Obj} {tz : Tok} (V : CircV w S kd (inC i) kvs pvs ko) (hs : ∀ p ∈ S, p ∈ S') (hp : (pt, tupO [] n) ∈ S') :
    CircV w S' kd (inC (i + 1)) (kvs ++ [.str (Str.ofString "input") tz]) (pvs ++ [.ref pt]) ko := by
  rw [inC_succ]
  refine V.snoc (g := .inp) hs hp .nil ?_
  obtain ⟨D, T, l, k⟩ := V.known
  refine ⟨D, tupTab_mono T fun p hp => ?_, by simp; omega, fun ps => ?_⟩
  · rcases List.mem_cons.mp hp with rfl | hp
    · exact .head _
    · exact .tail _ (hs _ hp)
  · rw [k, ← inC_succ, idxOf_inC, idxOf_inC]
set_option pp.deepTerms false in
set_option pp.deepTerms.threshold 3 in
theorem law1 (w : World) (L fa : Addr) (cd : Value) (base h₀ : Heap) (mean : ExcName → Option Value) (mg mb : Str → Option Value) (s : Shared) (h : Heap) (tk : Nat) (m : Str → Option Value) (Q : Flow → Shared → Prop) (E : Value → Shared → Prop)
    (B : Below callerA base [] h₀) (F : Fr h₀ L h m) (X : (A.heap_1 w.params).In h₀) (oR oG oT oI oC : Obj) (vR vG vT vI vC : Option Value) (sa : Addr) (vs : List Value) (ns : List Int)
    (N : News h₀ L h [(L + 1 + 1 + 1 + 1 + 1, oR), (L + 1 + 1 + 1 + 1, oG), (L + 1 + 1 + 1, oT), (L + 1 + 1, oI), (L + 1, oC)]) (T : Top V0 (looseW V0 []) mean mg mb h₀)
    (dR : oR.data = .cell vR) (dG : oG.data = .cell vG) (dT : oT.data = .cell vT) (dI : oI.data = .cell vI) (dC : oC.data = .cell vC)
    (hL : base.IsList sa vs.toArray) (hV : IntsAre vs ns) (hl : vs.length ≤ 63) (m1 : m (Str.ofString "script") = some (.ref sa))
    (hret : ∀ h' tk m', Fr h₀ L h' m' → Q (.ret (.bool true)) { s with heap := h', toks := tk }) :
    wpAny (model PySem.Challenge.rw_nz0381_01.prog w) (lawAr L fa cd) (execs (lawFn.body.drop 0) (lawEnv L fa cd)) Q E { s with heap := h, toks := tk } := by
  revert X; k_fill; intro X
  unfold lawAr lawEnv lawFn dOf
  dsimp only [List.drop]
  walk_at "go"
  unfold Stop
  refine tape_spec w _ sa vs ns hV hl _ _ _ _ _ _ _ _ _ _ _ _ _ _ _ _ _ _ _ _ B hL F X N T rfl (by decide) (by decide) fun r new h2 tk2 F2 N2 off2 P2 => ?_
  obtain ⟨td, oP, S, rfl, rfl, hoT, hTp⟩ := P2
  have hoS : OwnOff S [td, L + 1 + 1 + 1 + 1 + 1, L + 1 + 1 + 1 + 1, L + 1 + 1 + 1, L + 1 + 1, L + 1] := fun p hp b hb => by
    simp only [List.mem_cons, List.not_mem_nil, or_false] at hb
    rcases hb with rfl | rfl | rfl | rfl | rfl | rfl
    · exact hoT p hp _ (.head _)
    · exact off2 p (.tail _ hp) _ ((List.Mem.head _))
    · exact off2 p (.tail _ hp) _ ((List.Mem.tail _ (List.Mem.head _)))
    · exact off2 p (.tail _ hp) _ ((List.Mem.tail _ (List.Mem.tail _ (List.Mem.head _))))
    · exact off2 p (.tail _ hp) _ ((List.Mem.tail _ (List.Mem.tail _ (List.Mem.tail _ (List.Mem.head _)))))
    · exact off2 p (.tail _ hp) _ ((List.Mem.tail _ (List.Mem.tail _ (List.Mem.tail _ (List.Mem.tail _ (List.Mem.head _))))))
  have n5 : @Ne Nat (L + 1 + 1 + 1 + 1 + 1) td := (off2 _ (.head _) _ ((List.Mem.head _))).symm
  have n4 : @Ne Nat (L + 1 + 1 + 1 + 1) td := (off2 _ (.head _) _ ((List.Mem.tail _ (List.Mem.head _)))).symm
  have n3 : @Ne Nat (L + 1 + 1 + 1) td := (off2 _ (.head _) _ ((List.Mem.tail _ (List.Mem.tail _ (List.Mem.head _))))).symm
  have n2 : @Ne Nat (L + 1 + 1) td := (off2 _ (.head _) _ ((List.Mem.tail _ (List.Mem.tail _ (List.Mem.tail _ (List.Mem.head _)))))).symm
  have n1 : @Ne Nat (L + 1) td := (off2 _ (.head _) _ ((List.Mem.tail _ (List.Mem.tail _ (List.Mem.tail _ (List.Mem.tail _ (List.Mem.head _))))))).symm
  replace N2 : News h₀ L h2 ((td, oP) :: (L + 1 + 1 + 1 + 1 + 1, oR) :: (L + 1 + 1 + 1 + 1, oG) :: (L + 1 + 1 + 1, oT) :: (L + 1 + 1, oI) :: (L + 1, oC) :: S) := fun p hp => N2 p (by
    simp only [List.mem_cons, List.mem_append, List.not_mem_nil, or_false] at hp ⊢
    grind)
  clear off2 hoT N F
  walk_at "go"
  unfold Stop
  rename_i x dc _ q1 q2 _ _ _ _ _ _ tk2 kl _ q3 _ tk1 T1 _ q4 T2 _ q5 _ tk0 kd _ ko lo _ _ hio _ q6 _ _ _ _ _ D _ q7 _ _ h3 oC2 F3 N3 dC2
  obtain ⟨ga0, ga1, ga2, ga3, ga4, ga5, gaS⟩ := q1
  obtain ⟨gb0, gb1, gb2, gb3, gb4, gb5, gb6, gb7, gbS⟩ := q3
  obtain ⟨gc0, gc1, gc2, gc3, gc4, gc5, gc6, gc7, gc8, gcS⟩ := q4
  obtain ⟨gd0, gd1, gd2, gd3, gd4, gd5, gd6, gd7, gd8, gd9, gdS⟩ := q5
  obtain ⟨ge0, ge1, ge2, ge3, ge4, ge5, ge6, ge7, ge8, ge9, ge10, geS⟩ := l1
  obtain ⟨gf0, gf1, gf2, gf3, gf4, gf5, gf6, gf7, gf8, gf9, gf10, gf11, gfS⟩ := q6
  obtain ⟨gg0, gg1, gg2, gg3, gg4, gg5, gg6, gg7, gg8, gg9, gg10, gg11, gg12, ggS⟩ := q7
  obtain ⟨pl, rfl⟩ : ∃ y, y = l' := ⟨_, rfl⟩
  obtain ⟨S1, hS1, hx1, hT1, hT2, mC, e1, e2, e3, u1, u2, u3, hdc, N4, hoS1, O1⟩ : ∃ S1, (∀ p ∈ S, p ∈ S1) ∧ (x, instObj 136 dc) ∈ S1 ∧ (T1, tupO [] 0) ∈ S1 ∧ (T2, tupO [] 0) ∈ S1 ∧ (L + 1, oC2) ∈ S1 ∧ ∃ e1 e2 e3 u1 u2 u3, (dc, circD e1 e2 e3 u1 u2 u3 kl pl kd) ∈ S1 ∧
      News h₀ L h3 ((td, oP) :: (kl, listOf [Value.str (Str.ofString "") tk2, Value.str (Str.ofString "true") (tk2 + 1)].toArray 0) :: (pl, listOf [Value.ref T1, Value.ref T2].toArray 0) :: (kd, ko) :: (L + 1 + 1 + 1 + 1 + 1, oR) :: (L + 1 + 1 + 1 + 1, oG) :: (L + 1 + 1 + 1, oT) :: (L + 1 + 1, oI) :: S1) ∧
      OwnOff S1 [td, L + 1 + 1 + 1 + 1 + 1, L + 1 + 1 + 1 + 1, L + 1 + 1 + 1, L + 1 + 1] ∧ CirO S1 x kl pl kd := by
    exact ⟨(D, _) :: (T2, tupO [] 0) :: (T1, tupO [] 0) :: (x, _) :: (dc, _) :: (L + 1, oC2) :: S, fun p hp => (List.Mem.tail _ (List.Mem.tail _ (List.Mem.tail _ (List.Mem.tail _ (List.Mem.tail _ (List.Mem.tail _ hp)))))), (List.Mem.tail _ (List.Mem.tail _ (List.Mem.tail _ (List.Mem.head _)))), (List.Mem.tail _ (List.Mem.tail _ (List.Mem.head _))), (List.Mem.tail _ (List.Mem.head _)), (List.Mem.tail _ (List.Mem.tail _ (List.Mem.tail _ (List.Mem.tail _ (List.Mem.tail _ (List.Mem.head _)))))), _, _, _, _, _, _, (List.Mem.tail _ (List.Mem.tail _ (List.Mem.tail _ (List.Mem.tail _ (List.Mem.head _))))),
      news_pick N3 ((List.Mem.tail _ (List.Mem.tail _ (List.Mem.tail _ (List.Mem.tail _ (List.Mem.tail _ (List.Mem.tail _ (List.Mem.tail _ (List.Mem.tail _ (List.Mem.head _)))))))))) (news_pick N3 ((List.Mem.tail _ (List.Mem.tail _ (List.Mem.tail _ (List.Mem.tail _ (List.Mem.tail _ (List.Mem.head _))))))) (news_pick N3 ((List.Mem.tail _ (List.Mem.tail _ (List.Mem.head _)))) (news_pick N3 ((List.Mem.tail _ (List.Mem.head _))) (news_pick N3 ((List.Mem.tail _ (List.Mem.tail _ (List.Mem.tail _ (List.Mem.tail _ (List.Mem.tail _ (List.Mem.tail _ (List.Mem.tail _ (List.Mem.tail _ (List.Mem.tail _ (List.Mem.head _))))))))))) (news_pick N3 ((List.Mem.tail _ (List.Mem.tail _ (List.Mem.tail _ (List.Mem.tail _ (List.Mem.tail _ (List.Mem.tail _ (List.Mem.tail _ (List.Mem.tail _ (List.Mem.tail _ (List.Mem.tail _ (List.Mem.head _)))))))))))) (news_pick N3 ((List.Mem.tail _ (List.Mem.tail _ (List.Mem.tail _ (List.Mem.tail _ (List.Mem.tail _ (List.Mem.tail _ (List.Mem.tail _ (List.Mem.tail _ (List.Mem.tail _ (List.Mem.tail _ (List.Mem.tail _ (List.Mem.head _))))))))))))) (news_pick N3 ((List.Mem.tail _ (List.Mem.tail _ (List.Mem.tail _ (List.Mem.tail _ (List.Mem.tail _ (List.Mem.tail _ (List.Mem.tail _ (List.Mem.tail _ (List.Mem.tail _ (List.Mem.tail _ (List.Mem.tail _ (List.Mem.tail _ (List.Mem.head _)))))))))))))) (news_pick N3 ((List.Mem.head _)) (news_pick N3 ((List.Mem.tail _ (List.Mem.tail _ (List.Mem.tail _ (List.Mem.head _))))) (news_pick N3 ((List.Mem.tail _ (List.Mem.tail _ (List.Mem.tail _ (List.Mem.tail _ (List.Mem.head _)))))) (news_pick N3 ((List.Mem.tail _ (List.Mem.tail _ (List.Mem.tail _ (List.Mem.tail _ (List.Mem.tail _ (List.Mem.tail _ (List.Mem.head _)))))))) (news_pick N3 ((List.Mem.tail _ (List.Mem.tail _ (List.Mem.tail _ (List.Mem.tail _ (List.Mem.tail _ (List.Mem.tail _ (List.Mem.tail _ (List.Mem.head _))))))))) (news_pick N3 ((List.Mem.tail _ (List.Mem.tail _ (List.Mem.tail _ (List.Mem.tail _ (List.Mem.tail _ (List.Mem.tail _ (List.Mem.tail _ (List.Mem.tail _ (List.Mem.tail _ (List.Mem.tail _ (List.Mem.tail _ (List.Mem.tail _ (List.Mem.tail _ (List.Mem.head _))))))))))))))) fun p hp => N3 p ((List.Mem.tail _ (List.Mem.tail _ (List.Mem.tail _ (List.Mem.tail _ (List.Mem.tail _ (List.Mem.tail _ (List.Mem.tail _ (List.Mem.tail _ (List.Mem.tail _ (List.Mem.tail _ (List.Mem.tail _ (List.Mem.tail _ (List.Mem.tail _ (List.Mem.tail _ hp)))))))))))))))))))))))))))),
      ownOff_cons (by walk_at "nes") (ownOff_cons (by walk_at "nes") (ownOff_cons (by walk_at "nes") (ownOff_cons (by walk_at "nes") (ownOff_cons (by walk_at "nes") (ownOff_cons (by walk_at "nes") (ownOff_sub hoS (by walk_at "subs"))))))),
      ⟨⟨dc, _, _, _, _, _, _, (List.Mem.tail _ (List.Mem.tail _ (List.Mem.tail _ (List.Mem.head _)))), (List.Mem.tail _ (List.Mem.tail _ (List.Mem.tail _ (List.Mem.tail _ (List.Mem.head _)))))⟩, Nat.ne_of_lt ge2, Nat.ne_of_lt gf3, Nat.ne_of_lt gf0,
        ownOff_cons (by walk_at "nes") (ownOff_cons (by walk_at "nes") (ownOff_cons (by walk_at "nes") (ownOff_cons (by walk_at "nes") (ownOff_cons (by walk_at "nes") (ownOff_cons (by walk_at "nes") (ownOff_app (a := [kl]) (off_allLt gbS) (ownOff_app (a := [pl]) (off_allLt geS) (off_allLt gfS))))))))⟩⟩
  have hk0 : ∀ b ∈ [kl, pl, kd], @Ne Nat td b := by walk_at "nes"
  have hk1 : ∀ b ∈ [kl, pl, kd], @Ne Nat (L + 1 + 1 + 1 + 1 + 1) b := by walk_at "nes"
  have hk2 : ∀ b ∈ [kl, pl, kd], @Ne Nat (L + 1 + 1 + 1 + 1) b := by walk_at "nes"
  have hk3 : ∀ b ∈ [kl, pl, kd], @Ne Nat (L + 1 + 1 + 1) b := by walk_at "nes"
  have hk4 : ∀ b ∈ [kl, pl, kd], @Ne Nat (L + 1 + 1) b := by walk_at "nes"
  have V1 := circ0 (w := w) (t1 := tk2) (t2 := tk2 + 1) lo hio hT1 hT2
  replace hTp := hTp.mono hS1
  clear N3 q2 ga0 ga1 ga2 ga3 ga4 ga5 gb0 gb1 gb2 gb3 gb4 gb5 gb6 gb7 gc0 gc1 gc2 gc3 gc4 gc5 gc6 gc7 gc8 gd0 gd1 gd2 gd3 gd4 gd5 gd6 gd7 gd8 gd9 ge0 ge1 ge2 ge3 ge4 ge5 ge6 ge7 ge8 ge9 ge10 gf0 gf1 gf2 gf3 gf4 gf5 gf6 gf7 gf8 gf9 gf10 gf11 gg0 gg1 gg2 gg3 gg4 gg5 gg6 gg7 gg8 gg9 gg10 gg11 gg12 gaS gbS gcS gdS geS gfS ggS lo hio hT1 hT2 hS1 hoS hdc hx1
  have hxd : ∀ p ∈ [(kl, listOf [Value.str (Str.ofString "") tk2, Value.str (Str.ofString "true") (tk2 + 1)].toArray 0), (pl, listOf [Value.ref T1, Value.ref T2].toArray 0), (kd, ko), (L + 1 + 1 + 1 + 1 + 1, oR), (L + 1 + 1 + 1 + 1, oG), (L + 1 + 1 + 1, oT), (L + 1 + 1, oI)], p.1 ∉ ([td] : List Addr) := by
    intro p hp hm
    have e := List.mem_singleton.mp hm
    simp only [List.mem_cons, List.not_mem_nil, or_false] at hp
    rcases hp with rfl | rfl | rfl | rfl | rfl | rfl | rfl
    · exact hk0 kl (by simp) e.symm
    · exact hk0 pl (by simp) e.symm
    · exact hk0 kd (by simp) e.symm
    · exact n5 e
    · exact n4 e
    · exact n3 e
    · exact n2 e
  refine draw_use [(kl, listOf [Value.str (Str.ofString "") tk2, Value.str (Str.ofString "true") (tk2 + 1)].toArray 0), (pl, listOf [Value.ref T1, Value.ref T2].toArray 0), (kd, ko), (L + 1 + 1 + 1 + 1 + 1, oR), (L + 1 + 1 + 1 + 1, oG), (L + 1 + 1 + 1, oT), (L + 1 + 1, oI)] hTp (by decide) (by decide) (by decide) (ownOff_sub hoS1 (by walk_at "subs")) hxd (by k_asm) F3 (by k_asm) N4 (by k_asm) (by first | exact rfl | assumption) (by ktr_room) (by ktr_units) fun xd td1 oP1 h4 tk4 hx0 hx2 hTp1 F6 N6 => ?_
  obtain ⟨k, rfl⟩ := Int.eq_ofNat_of_zero_le hx0
  simp only [List.cons_append, List.nil_append] at N6
  clear F3 N4 hTp hxd
  walk_at "go"
  unfold Stop
  refine range_1 F6 N6 fun r t₀ u₀ v₀ h5 tk5 hr F7 N7 => ?_
  have hsm : Builtin.Range.small 0 (2 + (k : Int)) 1 = true := (range_size (n := 2 + k) (by omega)).1
  have hsz : Builtin.Range.rangeSize 0 (2 + (k : Int)) 1 = ((2 + k : Nat) : Int) := (range_size (n := 2 + k) (by omega)).2
  clear F6 N6
  refine srcU_range (JInp w L S1 x kl pl kd td ko oP1 oR oG oT oI) rfl F7 (nx := (kl, listOf [Value.str (Str.ofString "") tk2, Value.str (Str.ofString "true") (tk2 + 1)].toArray 0) :: (pl, listOf [Value.ref T1, Value.ref T2].toArray 0) :: (kd, ko) :: (td, oP1) :: (L + 1 + 1 + 1 + 1 + 1, oR) :: (L + 1 + 1 + 1 + 1, oG) :: (L + 1 + 1 + 1, oT) :: (L + 1 + 1, oI) :: S1)
    (news_pick N7 ((List.Mem.tail _ (List.Mem.head _))) (news_pick N7 ((List.Mem.tail _ (List.Mem.tail _ (List.Mem.head _)))) (news_pick N7 ((List.Mem.tail _ (List.Mem.tail _ (List.Mem.tail _ (List.Mem.head _))))) (news_pick N7 ((List.Mem.head _)) fun p hp => N7 p ((List.Mem.tail _ (List.Mem.tail _ (List.Mem.tail _ (List.Mem.tail _ hp))))))))) hr hsm hsz (by omega) ⟨S1, _, _, _, _, rfl, fun _ h => h, O1, V1, hoS1, .nil⟩ ?t1 ?d1
  case t1 =>
    rintro i t ys nx I oI1 C1 oC1 D1 m2 h6 tk6 E6 hi ⟨S2, kvs, pvs, nk, np, rfl, hS2, O2, V2, hoS2, hI2⟩ hC hx F8 N8 off ap Qt hQt
    have mC2 := hS2 _ mC
    clear F7 N7
    obtain ⟨dc2, e1, e2, e3, u1, u2, u3, hxm, hdm⟩ := O2.inst
    walk_at "go"
    unfold Stop
    dsimp only [List.cons_append, List.nil_append]
    simp only [LCg.Off3] at off
    obtain ⟨f1, f2, f3, f4, f5, f6, f7, f8, fS⟩ := off
    have hkl := V2.klen
    have hpl := V2.plen
    rw [inC_len] at hkl hpl
    have N9 : News h₀ L h6 ((kl, listOf kvs.toArray nk) :: (pl, listOf pvs.toArray np) :: (I, oI1) :: (C1, oC1) :: (D1, LCg.lst ys) :: (kd, ko) :: (td, oP1) :: (L + 1 + 1 + 1 + 1 + 1, oR) :: (L + 1 + 1 + 1 + 1, oG) :: (L + 1 + 1 + 1, oT) :: (L + 1 + 1, oI) :: S2) :=
      news_pick N8 ((List.Mem.tail _ (List.Mem.tail _ (List.Mem.tail _ (List.Mem.head _))))) (news_pick N8 ((List.Mem.tail _ (List.Mem.tail _ (List.Mem.tail _ (List.Mem.tail _ (List.Mem.head _)))))) (news_pick N8 ((List.Mem.head _)) (news_pick N8 ((List.Mem.tail _ (List.Mem.head _))) (news_pick N8 ((List.Mem.tail _ (List.Mem.tail _ (List.Mem.head _)))) fun p hp => N8 p ((List.Mem.tail _ (List.Mem.tail _ (List.Mem.tail _ (List.Mem.tail _ (List.Mem.tail _ hp))))))))))
    have hfx : ∀ p ∈ [(I, oI1), (C1, oC1), (D1, LCg.lst ys), (kd, ko), (td, oP1), (L + 1 + 1 + 1 + 1 + 1, oR), (L + 1 + 1 + 1 + 1, oG), (L + 1 + 1 + 1, oT), (L + 1 + 1, oI)], p.1 ∉ ([kl, pl] : List Addr) := by
      intro p hp hm
      simp only [List.mem_cons, List.not_mem_nil, or_false] at hp hm
      have r2 := O2.ne2
      have r3 := O2.ne3
      simp only [List.mem_cons, List.not_mem_nil, or_false, forall_eq_or_imp, forall_eq] at hk0 hk1 hk2 hk3 hk4
      rcases hp with rfl | rfl | rfl | rfl | rfl | rfl | rfl | rfl | rfl <;> rcases hm with e | e
      · exact f1.1 e.symm
      · exact f2.1 e.symm
      · exact f1.2.1 e.symm
      · exact f2.2.1 e.symm
      · exact f1.2.2 e.symm
      · exact f2.2.2 e.symm
      · exact r2 e.symm
      · exact r3 e.symm
      · exact hk0.1 e
      · exact hk0.2.1 e
      · exact hk1.1 e
      · exact hk1.2.1 e
      · exact hk2.1 e
      · exact hk2.2.1 e
      · exact hk3.1 e
      · exact hk3.2.1 e
      · exact hk4.1 e
      · exact hk4.2.1 e
    refine calls_useF [(I, oI1), (C1, oC1), (D1, LCg.lst ys), (kd, ko), (td, oP1), (L + 1 + 1 + 1 + 1 + 1, oR), (L + 1 + 1 + 1 + 1, oG), (L + 1 + 1 + 1, oT), (L + 1 + 1, oI)] (new_input_spec w S2 x dc2 kl pl kd e1 e2 e3 u1 u2 u3 kvs pvs nk np (by omega) (by omega) hxm hdm O2.ne1 (ownOff_sub O2.off (by walk_at "subs"))) (by k_asm) F8 (by k_asm) N9 (by k_asm) (by first | exact rfl | assumption) (by ktr_room) (by ktr_units) (fun p hp => hp) hfx ?_
    rintro r muts' new h7 tk7 F9 N10 fr _ ⟨t7, tz, pt, nn, rfl, rfl, rfl⟩
    have hfr : ∀ {b ob}, (b, ob) ∈ (kl, listOf kvs.toArray nk) :: (pl, listOf pvs.toArray np) :: (I, oI1) :: (C1, oC1) :: (D1, LCg.lst ys) :: (kd, ko) :: (td, oP1) :: (L + 1 + 1 + 1 + 1 + 1, oR) :: (L + 1 + 1 + 1 + 1, oG) :: (L + 1 + 1 + 1, oT) :: (L + 1 + 1, oI) :: S2 → @Ne Nat pt b := fun hm => fresh_off N9 hm fr _ (.head _)
    have y0 := hfr ((List.Mem.head _))
    have y1 := hfr ((List.Mem.tail _ (List.Mem.head _)))
    have y2 := hfr ((List.Mem.tail _ (List.Mem.tail _ (List.Mem.head _))))
    have y3 := hfr ((List.Mem.tail _ (List.Mem.tail _ (List.Mem.tail _ (List.Mem.head _)))))
    have y4 := hfr ((List.Mem.tail _ (List.Mem.tail _ (List.Mem.tail _ (List.Mem.tail _ (List.Mem.head _))))))
    have y5 := hfr ((List.Mem.tail _ (List.Mem.tail _ (List.Mem.tail _ (List.Mem.tail _ (List.Mem.tail _ (List.Mem.head _)))))))
    have y6 := hfr ((List.Mem.tail _ (List.Mem.tail _ (List.Mem.tail _ (List.Mem.tail _ (List.Mem.tail _ (List.Mem.tail _ (List.Mem.head _))))))))
    have y7 := hfr ((List.Mem.tail _ (List.Mem.tail _ (List.Mem.tail _ (List.Mem.tail _ (List.Mem.tail _ (List.Mem.tail _ (List.Mem.tail _ (List.Mem.head _)))))))))
    have y8 := hfr ((List.Mem.tail _ (List.Mem.tail _ (List.Mem.tail _ (List.Mem.tail _ (List.Mem.tail _ (List.Mem.tail _ (List.Mem.tail _ (List.Mem.tail _ (List.Mem.head _))))))))))
    have y9 := hfr ((List.Mem.tail _ (List.Mem.tail _ (List.Mem.tail _ (List.Mem.tail _ (List.Mem.tail _ (List.Mem.tail _ (List.Mem.tail _ (List.Mem.tail _ (List.Mem.tail _ (List.Mem.head _)))))))))))
    have y10 := hfr ((List.Mem.tail _ (List.Mem.tail _ (List.Mem.tail _ (List.Mem.tail _ (List.Mem.tail _ (List.Mem.tail _ (List.Mem.tail _ (List.Mem.tail _ (List.Mem.tail _ (List.Mem.tail _ (List.Mem.head _))))))))))))
    simp only [List.cons_append, List.nil_append] at N10
    refine hQt _ _ _ ((kl, listOf (kvs ++ [Value.str (Str.ofString "input") tz]).toArray (nk + 1)) :: (pl, listOf (pvs ++ [Value.ref pt]).toArray (np + 1)) :: (kd, ko) :: (td, oP1) :: (L + 1 + 1 + 1 + 1 + 1, oR) :: (L + 1 + 1 + 1 + 1, oG) :: (L + 1 + 1 + 1, oT) :: (L + 1 + 1, oI) :: (pt, tupO [] nn) :: S2) F9
      (news_pick N10 ((List.Mem.tail _ (List.Mem.tail _ (List.Mem.head _)))) (news_pick N10 ((List.Mem.tail _ (List.Mem.tail _ (List.Mem.tail _ (List.Mem.head _))))) (news_pick N10 ((List.Mem.tail _ (List.Mem.tail _ (List.Mem.tail _ (List.Mem.tail _ (List.Mem.head _)))))) (news_pick N10 ((List.Mem.head _)) (news_pick N10 ((List.Mem.tail _ (List.Mem.head _))) fun p hp => N10 p ((List.Mem.tail _ (List.Mem.tail _ (List.Mem.tail _ (List.Mem.tail _ (List.Mem.tail _ hp)))))))))))
      ⟨f1, f2, f3, f4, f5, f6, f7, f8, ⟨y2, y3, y4⟩, fS⟩
      ⟨(pt, tupO [] nn) :: S2, _, _, _, _, rfl, fun p hp => .tail _ (hS2 p hp), ⟨O2.inst.mono fun p hp => .tail _ hp, O2.ne1, O2.ne2, O2.ne3, ownOff_cons (by walk_at "nes") O2.off⟩, circ_inp V2 (fun p hp => .tail _ hp) (.head _), ownOff_cons (by walk_at "nes") hoS2, ?_⟩
    have e : ((kvs.length : Nat) : Int) = (i : Int) + 2 := by omega
    rw [e]
    exact ints_inps_snoc hI2
  case d1 =>
    rintro ys nx D1 h6 tk6 ⟨S2, kvs, pvs, nk, np, rfl, hS2, O2, V2, hoS2, hI2⟩ F8 N8 off
    clear F7 N7
    simp only [LCg.Off1] at off
    obtain ⟨f1, f2, f3, f4, f5, f6, f7, f8, fS⟩ := off
    have hoS3 : OwnOff S2 [td, L + 1 + 1 + 1 + 1 + 1, L + 1 + 1 + 1 + 1, L + 1 + 1 + 1, L + 1 + 1, D1] := ownOff_app (b := [D1]) hoS2 fun p hp b hb => by rw [List.mem_singleton.mp hb]; exact off1_mem fS p hp
    clear hoS2 hoS1 O1
    have y1 := hk4 kl ((List.Mem.head _))
    have y2 := hk4 pl ((List.Mem.tail _ (List.Mem.head _)))
    have y3 := hk4 kd ((List.Mem.tail _ (List.Mem.tail _ (List.Mem.head _))))
    have hys := hI2.length
    rw [inpsOf_len] at hys
    have mC2 := hS2 _ mC
    walk_at "goFor"
    unfold Stop
    rename_i _ oI2 dI2 o1 _ r1 h9 F10 N10
    obtain ⟨r0, r1', r2, r3, r4, r5, r6, r7, r8, rS⟩ := r1
    obtain ⟨w0, w1, w2, w3, w4, w5, w6, w7, w8, w9, aS⟩ := l1
    have hto : ∀ oA oB : Obj, ∀ p ∈ S2, p ∈ (o1, oA) :: (D1, LCg.lst ys) :: (L + 1 + 1, oB) :: S2 := fun _ _ p hp => (List.Mem.tail _ (List.Mem.tail _ (List.Mem.tail _ hp)))
    refine law2 w L fa cd base h₀ mean mg mb s h9 _ _ _ Q E B F10 X oR oG oT oI2 oC2 oP1 vR vG vT td x kl pl kd D1 l' (inC (2 + k)) kvs pvs ys ([Value.int 1 _] ++ ys) nk np ys.length 0 (2 + k) (0 + 1) ko ([1] ++ inpsOf (2 + k))
      (news_pick N10 ((List.Mem.tail _ (List.Mem.tail _ (List.Mem.tail _ (List.Mem.tail _ (List.Mem.tail _ (List.Mem.tail _ (List.Mem.head _)))))))) (news_pick N10 ((List.Mem.head _)) (news_pick N10 ((List.Mem.tail _ (List.Mem.tail _ (List.Mem.tail _ (List.Mem.tail _ (List.Mem.tail _ (List.Mem.tail _ (List.Mem.tail _ (List.Mem.head _))))))))) (news_pick N10 ((List.Mem.tail _ (List.Mem.tail _ (List.Mem.tail _ (List.Mem.tail _ (List.Mem.tail _ (List.Mem.tail _ (List.Mem.tail _ (List.Mem.tail _ (List.Mem.head _)))))))))) (news_pick N10 ((List.Mem.tail _ (List.Mem.tail _ (List.Mem.tail _ (List.Mem.tail _ (List.Mem.tail _ (List.Mem.tail _ (List.Mem.tail _ (List.Mem.tail _ (List.Mem.tail _ (List.Mem.head _))))))))))) (news_pick N10 ((List.Mem.tail _ (List.Mem.tail _ (List.Mem.tail _ (List.Mem.head _))))) (news_pick N10 ((List.Mem.tail _ (List.Mem.tail _ (List.Mem.tail _ (List.Mem.tail _ (List.Mem.head _)))))) (news_pick N10 ((List.Mem.tail _ (List.Mem.tail _ (List.Mem.tail _ (List.Mem.tail _ (List.Mem.tail _ (List.Mem.head _))))))) (news_pick N10 ((List.Mem.tail _ (List.Mem.head _))) (news_pick N10 ((List.Mem.tail _ (List.Mem.tail _ (List.Mem.head _)))) (news_pick N10 ((List.Mem.tail _ (List.Mem.tail _ (List.Mem.tail _ (List.Mem.tail _ (List.Mem.tail _ (List.Mem.tail _ (List.Mem.tail _ (List.Mem.tail _ (List.Mem.tail _ (List.Mem.tail _ (List.Mem.head _)))))))))))) fun p hp => N10 p ((List.Mem.tail _ (List.Mem.tail _ (List.Mem.tail _ (List.Mem.tail _ (List.Mem.tail _ (List.Mem.tail _ (List.Mem.tail _ (List.Mem.tail _ (List.Mem.tail _ (List.Mem.tail _ (List.Mem.tail _ hp))))))))))))))))))))))) T dR dG dT ((List.Mem.tail _ (List.Mem.tail _ (List.Mem.head _)))) dI2 ((List.Mem.tail _ (List.Mem.tail _ (List.Mem.tail _ mC2)))) dC2
      ⟨O2.inst.mono (hto _ _), O2.ne1, O2.ne2, O2.ne3, ownOff_cons (by walk_at "nes") (ownOff_cons (by walk_at "nes") (ownOff_cons (by walk_at "nes") O2.off))⟩ (V2.mono (hto _ _)) (inC_wf _) (by omega) (by rw [inC_len]; omega) ((List.Mem.tail _ (List.Mem.head _))) hI2
      (ownOff_cons (by walk_at "nes") (ownOff_cons (by walk_at "nes") (ownOff_cons (by walk_at "nes") (ownOff_ins (ownOff_sub hoS3 (by walk_at "subs")) (allLt_notin aS)))))
      (ownOff_cons hk0 (ownOff_cons hk1 (ownOff_cons hk2 (ownOff_cons hk3 fun p hp => by cases hp)))) (by walk_at "nes") ⟨n5, n4, n3⟩ (Nat.ne_of_gt w5) w6
      ((hTp1.mono hS2).mono (hto _ _)) (by decide) (ints_append (.cons 1 _ .nil) hI2) (by simp) (by simp; omega) (fun p hp => ?_) rfl rfl hret
    rcases List.mem_append.mp hp with hp | hp
    · rw [List.mem_singleton.mp hp]
      exact ⟨by decide, by rw [inC_len]; simp⟩
    · obtain ⟨j, hj⟩ := List.mem_iff_getElem?.mp hp
      obtain ⟨hj1, rfl⟩ := inpsOf_get hj
      exact ⟨by omega, by rw [inC_len]; omega⟩
def B.tw10121488049193348415 : Unit := ()
def B.tw9973512840307740377 : Unit := ()
def B.tw2645368319940720274 : Unit := ()
def B.tw9855409992181866910 : Unit := ()
def B.tw17279107770630834808 : Unit := ()
def B.tw7579142968654235135 : Unit := ()
def B.tw18150203184352882577 : Unit := ()
def B.tw3231466710271520797 : Unit := ()
def B.tw8720139501271006233 : Unit := ()
def B.tw8923617744729575287 : Unit := ()
def B.tw5623074868269971083 : Unit := ()
def B.tw2119263768909654219 : Unit := ()
def B.tw4647211571890189512 : Unit := ()
def B.tw13250765234917723968 : Unit := ()
def B.tw2589974865622641164 : Unit := ()
def B.tw12926552706288030389 : Unit := ()
def B.tw6188248243093622265 : Unit := ()
def B.tw12464197759220812154 : Unit := ()
def B.tw1693826267820852418 : Unit := ()
def B.tw15255829766570438945 : Unit := ()
def B.tw9768745252814628950 : Unit := ()
def B.tw562139208012569715 : Unit := ()
def B.tw10972009193065733447 : Unit := ()
def B.tw16373472458488436389 : Unit := ()
def B.tw12443526568746757953 : Unit := ()
def B.tw2775632382588173776 : Unit := ()
def B.tw2713378872033851384 : Unit := ()
def B.tw13003428201065828441 : Unit := ()
def B.tw9626174638144951009 : Unit := ()
def B.tw8637287590567985906 : Unit := ()
def B.tw12790320986199629506 : Unit := ()
def B.tw3244320632414502457 : Unit := ()
def B.tw15092223295337064537 : Unit := ()
def B.tw15942162802399773787 : Unit := ()
def B.tw3632645068159774715 : Unit := ()
def B.tw12093040125211992878 : Unit := ()
def B.tw16386264621075785428 : Unit := ()
def B.tw14101248159020529259 : Unit := ()
def B.tw6580132824849791666 : Unit := ()
def B.tw12415342000644777788 : Unit := ()
def B.tw11660002050070091056 : Unit := ()
def B.tw971365215477860692 : Unit := ()
def B.tw15144860129335850766 : Unit := ()
def B.tw968808759760053051 : Unit := ()
def B.tw18118588493380314346 : Unit := ()
def B.tw9650675860710402623 : Unit := ()
def B.tw16225484194433597879 : Unit := ()
def B.tw15009185033193485950 : Unit := ()
def B.tw17005790581115992509 : Unit := ()
def B.tw294430975077547897 : Unit := ()
def B.tw5698334274227438152 : Unit := ()
def B.tw4466108362477558907 : Unit := ()
def B.tw4734046712296378740 : Unit := ()
def B.tw11724867453517339193 : Unit := ()
def B.tw11990339435055608759 : Unit := ()
def B.tw1851583929188031288 : Unit := ()
def B.tw15638377566525582802 : Unit := ()
def B.tw10489588589657508781 : Unit := ()
def B.tw2874097509446653005 : Unit := ()
def B.tw7844656838453875454 : Unit := ()
def B.tw8168639443913480595 : Unit := ()
def B.tw13389796384553682785 : Unit := ()
def B.tw14744458457070637898 : Unit := ()
def B.tw10285295670597603176 : Unit := ()
def B.tw11661611564221125545 : Unit := ()
def B.tw2224804083160101231 : Unit := ()
def B.tw12794192770124627291 : Unit := ()
def B.tw1789192341097581846 : Unit := ()
def B.tw18270698251450568053 : Unit := ()
def B.tw6423173141260718100 : Unit := ()
def B.tw9120760051428613909 : Unit := ()
def B.tw15768207990414036992 : Unit := ()
def B.tw6800390191112045333 : Unit := ()
def B.tw1177718885715681615 : Unit := ()
def B.tw1319771030785509501 : Unit := ()
def B.tw10717045092395526309 : Unit := ()
def B.tw4767627068509862618 : Unit := ()
def B.tw15833650749820897501 : Unit := ()
def B.tw12480454397427654 : Unit := ()
def B.tw15904113643705789787 : Unit := ()
def B.tw15337599410363728951 : Unit := ()
def B.tw14659476131200527668 : Unit := ()
set_option Elab.async true in
theorem B : PySem.Challenge.rw_nz0381_01.Holds := by
  w_on; o_law; k_head; (case hw => w_witness2)
  k_go0
  all_goals try k_fold
  rename_i hL _ _ _ hI _ hc _ K0 _ h1 tk1 F oR oG oT oI oC dR dG dT dI dC N0 X0
  refine law1 _ _ _ _ _ _ _ _ _ _ _ _ _ qk ek K0 F (by assumption) oR oG oT oI oC _ _ _ _ _ _ _ _ N0 (by assumption) dR dG dT dI dC hL hI ?_ ?_ ?_
  · have := hI.length
    omega
  · rfl
  · intro h' tk m' F'
    dsimp only [qk]
    refine goodW_bool F' (by assumption) (raisesW_false ?_) ?_
    · wrow_none_raised
    · wrow_post
end Mine
theorem PySem.Challenge.cw_nz0381_01_holds : PySem.Challenge.rw_nz0381_01.Holds := by
  exact Mine.B
