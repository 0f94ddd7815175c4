import PyProof.Rows.All
import Wide.All
import OpenK.AllK
import Wide.FinOn
import PyProof.ExcBaseAll.Exception
import PyProof.InstStoreFacts
import PyProof.InstLoad
import PyProof.ExcAttrAll.Exception
import PySem.Challenge.RW_og0230_02
set_option Elab.async false
set_option maxRecDepth 100000
set_option rowWalk.seconds 0
set_option compiler.extract_closed false
open PySem PySem.W PyProof.Rows PySem.Calls PySem.Spec
namespace Mine

section
/-- a nominal surrounding: so deep, so many units, these frames -/
abbrev nomA (d u : Nat) (envs : List Env) : Around := { handled := none, depth := d, frames := some envs, guards := none, units := u }

theorem in_nom {Γ : PySem.Ctx} {A : Around} {d u : Nat} {envs : List Env} (h : Γ.In A) (hh : A.handled = none) (hd : A.depth ≤ d) (hf : A.frames = some envs) (hu : A.units ≤ u) : Γ.In (nomA d u envs) :=
  ⟨h.1.trans hh, Nat.le_trans h.2.1 hd, fun l hl => h.2.2.1 l (hf.trans hl), (fun g hg => nomatch hg), Nat.le_trans h.2.2.2.2 hu⟩
theorem wp_nom {α : Type} {M : Model} {A : Around} {t : Sem α} {Q : α → Shared → Prop} {E : Value → Shared → Prop} {s : Shared} {d u : Nat} {envs : List Env}
    (h : wpAny M (nomA d u envs) t Q E s) (hh : A.handled = none) (hd : A.depth ≤ d) (hf : A.frames = some envs) (hu : A.units ≤ u) : wpAny M A t Q E s :=
  fun Γ p hΓ => h Γ p (in_nom hΓ hh hd hf hu)

def Grown (h h' : Heap) : Prop := ∀ b o, h.get? b = some o → h'.get? b = some o
theorem Grown.refl (h : Heap) : Grown h h := fun _ _ e => e
theorem Grown.trans {a b c : Heap} (x : Grown a b) (y : Grown b c) : Grown a c := fun k o e => y k o (x k o e)

/-- the end of a pure def's body -/
def PureEnd (g : Heap) (r : Value → Heap → Prop) (s : Shared) (f : Flow) (s' : Shared) : Prop :=
  ∃ h' tk L m, s' = { s with heap := h', toks := tk } ∧ Fr g L h' m ∧ r (match f with | .ret v => v | _ => .none) h'
theorem PureEnd.intro {g : Heap} {r : Value → Heap → Prop} {s : Shared} {f : Flow} {h' : Heap} {tk : Nat} {L : Addr} {m : Str → Option Value} (F : Fr g L h' m) (hr : r (match f with | .ret v => v | _ => .none) h') :
    PureEnd g r s f { s with heap := h', toks := tk } := ⟨h', tk, L, m, rfl, F, hr⟩
/-- an answer that is one value -/
def isV (v : Value) : Value → Heap → Prop := fun x _ => x = v

section
variable (prog : Program) (w : World) (K : Frag) (p : Program) (loose : List Str)
/-- a def that only reads: what it hands back, the heap only grows -/
def PureF (d u : Nat) (f : Addr) (args : List Value) (P : Heap → Prop) (r : Value → Heap → Prop) : Prop :=
  ∀ (mean : ExcName → Option Value) (mg mb : Str → Option Value) (envs : List Env) (base : Heap) (s : Shared) (Q E : Value → Shared → Prop),
    Below (nomA d u envs) base envs s.heap → K.In s.heap → Top p loose mean mg mb s.heap → P s.heap →
    (∀ v h' tk, Grown s.heap h' → r v h' → Q v { s with heap := h', toks := tk }) →
    wpAny (model prog w) (nomA d u envs) (call (.ref f) args) Q E s

/-- what is to be walked of a pure def -/
def PureBody (d u : Nat) (f : Addr) (qual : Str) (scope : Scope) (cdv : Value) (body : List Stmt) (binds : List (Str × Value)) (P : Heap → Prop) (r : Value → Heap → Prop) : Prop :=
  ∀ (mean : ExcName → Option Value) (mg mb : Str → Option Value) (outer : List Env) (base g : Heap) (L : Addr) (s : Shared),
    Below (nomA d u outer) base outer g → Fr g L s.heap (fun y => binds.reverse.lookup y) → News g L s.heap [] → K.In g → Top p loose mean mg mb g → P g →
    wpAny (model prog w) ((nomA d u outer).deeper (envOf qual scope L f cdv)) (execs body (envOf qual scope L f cdv)) (PureEnd g r s) (fun _ _ => False) s
end

section
variable {prog : Program} {w : World} {K : Frag} {p : Program} {loose : List Str} {d u : Nat} {f : Addr} {args : List Value} {P : Heap → Prop} {r : Value → Heap → Prop}
theorem PureF.mono {P' : Heap → Prop} {r' : Value → Heap → Prop} (S : PureF prog w K p loose d u f args P r) (hP : ∀ h, P' h → P h) (hr : ∀ v h, r v h → r' v h) : PureF prog w K p loose d u f args P' r' :=
  fun mean mg mb envs base s Q E B X T hp hq => S mean mg mb envs base s Q E B X T (hP _ hp) fun v h' tk hg hv => hq v h' tk hg (hr v h' hv)

theorem belowNow {A A₀ : Around} {env : Env} {outer : List Env} {base h₀ : Heap} {s : Shared} {L : Addr} {m : Str → Option Value} (B : Below A₀ base outer h₀) (F : Fr h₀ L s.heap m) (hA : A.frames = some (env :: outer))
    (hf : env.frame = some L) (hk : env.scope.kind = .function) : Below A base (env :: outer) s.heap :=
  (groundX (A := A) (R := fun _ _ => True) B F (News.nil (h₀ := h₀) (h := s.heap) (L := L)) hA hf hk).2.1

theorem PureF.use (S : PureF prog w K p loose d u f args P r) {A A₀ : Around} {mean : ExcName → Option Value} {mg mb : Str → Option Value} {env : Env} {outer : List Env} {base h₀ : Heap} {L : Addr} {m : Str → Option Value} {news : List (Addr × Obj)} {s : Shared} {Q E : Value → Shared → Prop}
    (B : Below A₀ base outer h₀) (F : Fr h₀ L s.heap m) (X : K.In h₀) (N : News h₀ L s.heap news) (T : Top p loose mean mg mb h₀) (hA : A.frames = some (env :: outer)) (hh : A.handled = none) (hd : A.depth ≤ d) (hu : A.units ≤ u)
    (hf : env.frame = some L) (hk : env.scope.kind = .function) (hp : P s.heap)
    (ret : ∀ v h' tk, Grown s.heap h' → Fr h₀ L h' m → News h₀ L h' news → r v h' → Q v { s with heap := h', toks := tk }) :
    wpAny (model prog w) A (call (.ref f) args) Q E s :=
  wp_nom (S mean mg mb (env :: outer) base s Q E (belowNow B F rfl hf hk) (X.keeps F.keep) (T.keeps F.keep) hp fun v h' tk hg hr => ret v h' tk hg (F.keeps hg) (N.grown hg) hr) hh hd hA hu

theorem PureF.enter {name qual : Str} {params : Arguments} {body : List Stmt} {scope : Scope} {dV kV doc pm cdv ct oc : Value} {an od : Option Addr} {osl : Array (Option Value)} {binds : List (Str × Value)}
    (ho : K.lookup f = some ⟨oc, od, .func (fnOf name qual params body scope dV kV doc pm an cdv ct), osl⟩) (hcd : codeIn K cdv qual = true) (hroom : d < recursionLimit)
    (hbind : bindArgs (fnOf name qual params body scope dV kV doc pm an cdv ct) ⟨args, []⟩ = pure binds) (hloc : ∀ y ∈ binds, scope.names.lookup y.1 = some .local)
    (hco : scope.isCoroutine = false) (hgen : scope.isGenerator = false) (hk : scope.kind = .function) (hcell : ∀ x ∈ scope.names, x.2 ≠ .cell)
    (h : PureBody prog w K p loose d u f qual scope cdv body binds P r) : PureF prog w K p loose d u f args P r := by
  intro mean mg mb envs base s Q E B X T hp hq
  refine wpAny_call (codeAny_call_def (fd := fnX name qual params body scope [] dV kV doc pm an cdv ct) (body := body) (binds := binds) hroom (X _ _ ho) rfl T.nolimit (codeRec_of X hcd) rfl (.of_eq hbind) hcell hloc (fun h₁ hns hk₁ => ?_) hco hgen hk)
  have F₁ : Fr s.heap s.heap.objs.size h₁ (fun y => binds.reverse.lookup y) := ⟨hns, fun b o e => hk₁ b o e, Nat.le_refl _⟩
  refine wpAny_mono (h mean mg mb envs base s.heap s.heap.objs.size { s with heap := h₁, toks := s.toks + binds.length } B F₁ News.nil X T hp) (fun fl s' he => ?_) fun _ _ y => y.elim
  obtain ⟨h', tk, L', m', rfl, F', hr⟩ := he
  exact hq _ h' tk F'.keep hr
end

/-- a breakpoint of the walk -/
def Halt (P : Prop) : Prop := P
theorem Halt.mk {P : Prop} (h : Halt P) : P := h
theorem Halt.go {P : Prop} (h : P) : Halt P := h

/-- data in the heap -/
def PairV (h : Heap) (v : Value) (p : Int × Int) : Prop := ∃ a t u, v = .ref a ∧ IsTup h a #[.int p.1 t, .int p.2 u]
theorem PairV.grown {h h' : Heap} {v : Value} {p : Int × Int} (x : PairV h v p) (k : Grown h h') : PairV h' v p := by
  obtain ⟨a, t, u, e, r⟩ := x
  exact ⟨a, t, u, e, r.keeps k⟩
def RangesV (h : Heap) (l : Addr) (vs : List Value) (ps : List (Int × Int)) : Prop := h.IsList l vs.toArray ∧ vs.length = ps.length ∧ (∀ (i : Nat) (p : Int × Int), ps[i]? = some p → ∃ v, vs[i]? = some v ∧ PairV h v p) ∧ ps.length ≤ 1000
theorem isList_grown {h h' : Heap} {l : Addr} {its : Array Value} (x : h.IsList l its) (k : Grown h h') : h'.IsList l its := let ⟨o, ho, r⟩ := x; ⟨o, k l o ho, r⟩
theorem RangesV.grown {h h' : Heap} {l : Addr} {vs : List Value} {ps : List (Int × Int)} (x : RangesV h l vs ps) (k : Grown h h') : RangesV h' l vs ps :=
  ⟨isList_grown x.1 k, x.2.1, fun i p e => let ⟨v, a, b⟩ := x.2.2.1 i p e; ⟨v, a, b.grown k⟩, x.2.2.2⟩
def Ranges (h : Heap) (l : Addr) (ps : List (Int × Int)) : Prop := ∃ vs, RangesV h l vs ps
theorem Ranges.grown {h h' : Heap} {l : Addr} {ps : List (Int × Int)} (x : Ranges h l ps) (k : Grown h h') : Ranges h' l ps := let ⟨vs, r⟩ := x; ⟨vs, r.grown k⟩

section
variable {prog : Program} {w : World} {A : Around} {E : Value → Shared → Prop} {s : Shared} {h₀ : Heap} {L : Addr} {m : Str → Option Value}
theorem RangesV.item {l : Addr} {vs : List Value} {ps : List (Int × Int)} {value slice : Expr} {k : Int} {u : Tok} {Q : Value → Shared → Prop} (F : Fr h₀ L s.heap m) (R : RangesV h₀ l vs ps) (h0 : 0 ≤ k) (h1 : k < (ps.length : Int))
    (h : ∀ a t t', IsTup h₀ a #[.int (ps.getD k.toNat (0, 0)).1 t, .int (ps.getD k.toNat (0, 0)).2 t'] → Q (.ref a) s)
    (hs : subscripted slice false (.ref l) (.int k u) = operate [.ref l, .int k u] (getItem (.ref l) (.int k u)) := by with_unfolding_all rfl) (hg : ∀ r, letTemporaryGo value (.ref l) r = pure () := by intro _; with_unfolding_all rfl) :
    wpAny (model prog w) A (subscriptTail value slice (.ref l) (.int k u)) Q E s := by
  have hlt : k.toNat < ps.length := by omega
  obtain ⟨v, hv, a, t, t', rfl, ht⟩ := R.2.2.1 k.toNat ps[k.toNat] (by simp [hlt])
  have e : ps.getD k.toNat (0, 0) = ps[k.toNat] := by simp [hlt]
  have hb := R.2.2.2
  exact item_listL (isList_grown R.1 F.keep) h0 (by omega) hv (h a t t' (by rw [e]; exact ht)) hs hg
end
theorem RangesV.len_call {prog : Program} {w : World} {A : Around} {E : Value → Shared → Prop} {s : Shared} {h₀ : Heap} {L : Addr} {m : Str → Option Value} {l : Addr} {vs : List Value} {ps : List (Int × Int)} {Q : Value → Shared → Prop}
    (F : Fr h₀ L s.heap m) (R : RangesV h₀ l vs ps) (h : ∀ t tk, Q (.int (ps.length : Int) t) { s with toks := tk }) : wpAny (model prog w) A (call (.builtin "len") [.ref l]) Q E s := by
  have e : (vs.toArray.size : Int) = (ps.length : Int) := by rw [List.size_toArray, R.2.1]
  have hb := R.2.2.2
  refine call_len_list (isList_grown R.1 F.keep) (by omega) ?_
  rw [e]
  exact h _ _
theorem RangesV.len {h : Heap} {l : Addr} {vs : List Value} {ps : List (Int × Int)} (R : RangesV h l vs ps) : vs.length = ps.length ∧ ps.length ≤ 1000 := ⟨R.2.1, R.2.2.2⟩

/-- names known of a frame, written out -/
def over (ps : List (Str × Value)) (m : Str → Option Value) : Str → Option Value := fun y => match ps.lookup y with | some v => some v | none => m y
theorem over_eq {ps : List (Str × Value)} {m : Str → Option Value} (e : ∀ p ∈ ps, m p.1 = some p.2) : over ps m = m := by
  funext y
  unfold over
  split
  · rename_i v h
    induction ps with
    | nil => cases h
    | cons p r ih =>
      rw [List.lookup_cons] at h
      by_cases hy : (y == p.1) = true
      · rw [hy] at h
        rw [beq_iff_eq.mp hy, e p List.mem_cons_self]
        exact h.symm
      · simp only [hy] at h
        exact ih (fun q hq => e q (List.mem_cons_of_mem _ hq)) h
  · rfl
theorem frOver {h₀ h : Heap} {L : Addr} {m : Str → Option Value} (F : Fr h₀ L h m) (ps : List (Str × Value)) (e : ∀ p ∈ ps, m p.1 = some p.2) : Fr h₀ L h (over ps m) := by rw [over_eq e]; exact F
theorem allNil {α : Type} {P : α → Prop} : ∀ p ∈ ([] : List α), P p := fun _ h => nomatch h
theorem allCons {α : Type} {P : α → Prop} {a : α} {l : List α} (h : P a) (r : ∀ p ∈ l, P p) : ∀ p ∈ a :: l, P p := fun p hp => by
  rcases List.mem_cons.mp hp with rfl | hp
  · exact h
  · exact r p hp

/-! loops -/
theorem ltS {h : Heap} {a : Addr} {o : Obj} (e : h.get? a = some o) : @LT.lt Nat _ a h.objs.size := Heap.lt_size e
theorem nsLt {h₀ h : Heap} {L : Addr} {m : Str → Option Value} (F : Fr h₀ L h m) : @LT.lt Nat _ L h.objs.size := F.ns.lt
theorem neA {a b : Nat} (h : a ≠ b) : @Ne Addr a b := h

section
variable {prog : Program} {w : World} {A : Around} {E : Value → Shared → Prop} {s : Shared} {env : Env} {h₀ : Heap} {Q : Flow → Shared → Prop}

/-- the end of a loop's turn, where the loop's own things alone are made beside the frame's -/
def TurnEnd (h₀ : Heap) (L : Addr) (own : List (Addr × Obj)) (J : (Str → Option Value) → Prop) (s : Shared) (Q : Flow → Shared → Prop) (f : Flow) (s₂ : Shared) : Prop :=
  match f with
  | .ret v => Q (.ret v) s₂
  | .brk => Q .next s₂
  | _ => ∃ h' tk m', s₂ = { s with heap := h', toks := tk } ∧ Fr h₀ L h' m' ∧ News h₀ L h' own ∧ J m'

theorem frBut {h h' : Heap} {L : Addr} {m : Str → Option Value} {P : Addr → Prop} (F : Fr h₀ L h m) (k : ∀ b o, ¬ P b → h.get? b = some o → h'.get? b = some o) (hL : ¬ P L) (h0 : ∀ b o, h₀.get? b = some o → ¬ P b) : Fr h₀ L h' m :=
  ⟨F.ns.at' fun o e => k L o hL e, fun b o e => k b o (h0 b o e) (F.keep b o e), F.above⟩

theorem for_enum {target : Expr} {elts : List Expr} {x1 : Nat} {pt : Pos} {body : List Stmt} {l : Addr} {items : Array Value} {m₀ : Str → Option Value} (J : Nat → (Str → Option Value) → Prop) (ht : target = .Tuple elts x1 pt)
    (hh : A.handled = none) (hl : h₀.IsList l items) (F : Fr h₀ env.locals s.heap m₀) (h0 : J 0 m₀)
    (turn : ∀ i v m₁ h tk T own t, items[i]? = some v → J i m₁ → Fr h₀ env.locals h m₁ → News h₀ env.locals h ((T, ({ cls := .type "tuple", data := .seq #[.int (i : Int) t, v] } : Obj)) :: own) → (∀ p ∈ own, p.1 ≠ T) →
      wpAny (model prog w) A (assign target env (.ref T)) (fun _ s₂ => wpAny (model prog w) A (execs body env) (TurnEnd h₀ env.locals own (J (i + 1)) s Q) E s₂) E { s with heap := h, toks := tk })
    (done : ∀ h tk m, J items.size m → Fr h₀ env.locals h m → Q .next { s with heap := h, toks := tk })
    (hE : PassesOwn (model prog w) A env E) :
    wpAny (model prog w) A (call (.type "enumerate") [.ref l]) (fun xv s₁ => wpAny (model prog w) A (pyIter xv) (fun it s₂ => codeAny (model prog w) A (.forLoop target it body [] env) (fun r s' => match r with | .ok f => Q f s' | .error e => cameBackBy (model prog w) A env E e s') s₂) E s₁) E s := by
  subst ht
  have hls := isList_grown hl F.keep
  have hlt : @LT.lt Nat _ l s.heap.objs.size := by obtain ⟨_, e, _⟩ := hls; exact ltS e
  refine call_enumerate_list hls fun h' he hit hz hk => ?_
  generalize hit0 : s.heap.objs.size = it at he hit hz
  have hei : it + 1 ≠ it := by omega
  generalize he0 : it + 1 = e at he hei
  have hL : @LT.lt Nat _ env.locals it := by have := nsLt F; omega
  have hli : @LT.lt Nat _ l it := by omega
  have hnI : h₀.get? it = none := by
    cases q : h₀.get? it with
    | none => rfl
    | some o => have := ltS (F.keep it o q); omega
  have hnE : h₀.get? e = none := by
    cases q : h₀.get? e with
    | none => rfl
    | some o => have := ltS (F.keep e o q); omega
  have old : ∀ b o, h₀.get? b = some o → ¬ (b = e ∨ b = it) := fun b o q z => by
    rcases z with rfl | rfl
    · rw [hnE] at q; cases q
    · rw [hnI] at q; cases q
  have F' : Fr h₀ env.locals h' m₀ := F.keeps hk
  refine wpAny_pyIter_enum he ?_
  refine codeAny_forLoop_any (R := fun r s' => match r with | .ok f => Q f s' | .error e => cameBackBy (model prog w) A env E e s')
    (fun k s' => ∃ h₁ tk₁ m₁ i old, s' = { s with heap := h₁, toks := tk₁ } ∧ IsEnum h₁ e it ((i : Nat) : Int) old ∧ h₁.IsListIter it l i ∧ Fr h₀ env.locals h₁ m₁ ∧ J i m₁ ∧ i ≤ items.size ∧ k = items.size + 1 - i) ?_ (items.size + 1)
    ⟨h', s.toks, m₀, 0, .none, rfl, he, hit, F', h0, Nat.zero_le _, rfl⟩
  rintro k s' ⟨h₁, tk₁, m₁, i, ov, rfl, he₁, hit₁, F₁, hJ, hi, rfl⟩
  have hl₁ := isList_grown hl F₁.keep
  cases hv : items[i]? with
  | none =>
    have hsz : i = items.size := Nat.le_antisymm hi (by simpa using hv)
    refine wpAny_pyNext_enum_end hh he₁ hit₁ hl₁ hv fun h₂ hx => wpAny_execs_nil ?_
    exact done h₂ tk₁ m₁ (hsz ▸ hJ) (frBut (P := fun b => b = it) F₁ (fun b o n q => hx b o n q) (neA (by omega)) fun b o q z => old b o q (.inr z))
  | some v =>
    have hlt' : i < items.size := (Array.getElem?_eq_some_iff.mp hv).1
    have heH : @LT.lt Nat _ e h₁.objs.size := ltS he₁
    have hiH : @LT.lt Nat _ it h₁.objs.size := by obtain ⟨_, q, _⟩ := id hit₁; exact ltS q
    refine wpAny_pyNext_enum_item he₁ hit₁ hl₁ hv hei fun h₂ heo hit₂ hT hz₂ hk₂ => ?_
    have F₂ : Fr h₀ env.locals h₂ m₁ := frBut (P := fun b => b = e ∨ b = it) F₁ (fun b o n q => hk₂ b o (fun z => n (.inl z)) (fun z => n (.inr z)) q) (fun z => z.elim (neA (by omega)) (neA (by omega))) old
    refine wpAny_letOwnedTupleGo_enum heo fun h₃ he₃ hs₃ => ?_
    have F₃ : Fr h₀ env.locals h₃ m₁ := frBut (P := fun b => b = e) F₂ (fun b o n q => (hs₃.2 b n).trans q) (neA (by omega)) fun b o q z => old b o q (.inl z)
    have hT₃ : h₃.get? h₁.objs.size = some { cls := .type "tuple", data := .seq #[.int i tk₁, v] } := (hs₃.2 _ (Nat.ne_of_gt heH)).trans hT
    have hit₃ : h₃.IsListIter it l (i + 1) := hit₂.extBut hs₃.extBut (Ne.symm hei)
    obtain ⟨oi, hoi, hoc, hod⟩ := id hit₃
    have hnT : h₀.get? h₁.objs.size = none := by
      cases q : h₀.get? h₁.objs.size with
      | none => rfl
      | some o => exact absurd (Heap.lt_size (F₁.keep _ o q)) (Nat.lt_irrefl _)
    have he₃' : IsEnum h₃ e it ((i : Int) + 1) v := he₃
    have N₃ : News h₀ env.locals h₃ ((h₁.objs.size, ({ cls := .type "tuple", data := .seq #[.int (i : Int) tk₁, v] } : Obj)) ::
        [(e, ({ cls := .type "enumerate", dict := none, data := .fields #[.none, .bool false, .ref it, rawInt ((i : Int) + 1), .none, v], slots := #[] } : Obj)), (it, oi)]) := by
      intro p hp
      rcases List.mem_cons.mp hp with rfl | hp
      · exact ⟨hT₃, neA (by have := nsLt F₁; omega), hnT⟩
      · rcases List.mem_cons.mp hp with rfl | hp
        · exact ⟨he₃', neA (by omega), hnE⟩
        · rw [List.mem_singleton.mp hp]
          exact ⟨hoi, neA (by omega), hnI⟩
    refine wpAny_mono (turn i v m₁ h₃ (tk₁ + 1) h₁.objs.size _ tk₁ hv hJ F₃ N₃ (fun p hp => ?_)) (fun _ s₂ h₂ => wpAny_mono h₂ (fun f s₃ h₃ => ?_) hE) hE
    · rcases List.mem_cons.mp hp with rfl | hp
      · exact neA (by omega)
      · rw [List.mem_singleton.mp hp]; exact neA (by omega)
    · have fin : (∃ h' tk m', s₃ = { s with heap := h', toks := tk } ∧ Fr h₀ env.locals h' m' ∧ News h₀ env.locals h'
          [(e, ({ cls := .type "enumerate", dict := none, data := .fields #[.none, .bool false, .ref it, rawInt ((i : Int) + 1), .none, v], slots := #[] } : Obj)), (it, oi)] ∧ J (i + 1) m') →
          ∃ m, m < items.size + 1 - i ∧ ∃ h₁ tk₁ m₁ i old, s₃ = { s with heap := h₁, toks := tk₁ } ∧ IsEnum h₁ e it ((i : Nat) : Int) old ∧ h₁.IsListIter it l i ∧ Fr h₀ env.locals h₁ m₁ ∧ J i m₁ ∧ i ≤ items.size ∧ m = items.size + 1 - i := by
        rintro ⟨h₄, tk₄, m₄, rfl, F₄, N₄, J₄⟩
        refine ⟨items.size + 1 - (i + 1), by omega, h₄, tk₄, m₄, i + 1, v, rfl, ?_, ⟨oi, (N₄ (it, oi) (by simp)).1, hoc, hod⟩, F₄, J₄, hlt', rfl⟩
        have := (N₄ _ List.mem_cons_self).1
        rw [show ((i + 1 : Nat) : Int) = (i : Int) + 1 by omega]
        exact this
      cases f with
      | ret v => exact h₃
      | brk => exact h₃
      | next => exact fin h₃
      | cont => exact fin h₃
end

/-! ranges, in plain Lean -/
def wrongAt : Int → Nat → List (Int × Int) → Option Nat
  | _, _, [] => none
  | b, i, p :: r => if b < p.1 ∧ p.1 ≤ p.2 then wrongAt p.2 (i + 1) r else some i
def ValidR (ps : List (Int × Int)) : Prop := wrongAt (-1) 0 ps = none
def holdsR (ps : List (Int × Int)) (c : Int) : Bool := ps.any fun p => decide (p.1 ≤ c) && decide (c ≤ p.2)

theorem wrongAt_none {ps : List (Int × Int)} : ∀ {b : Int} {k : Nat}, wrongAt b k ps = none → ∀ i, i < ps.length → b < (ps.getD i (0, 0)).1 ∧ (ps.getD i (0, 0)).1 ≤ (ps.getD i (0, 0)).2 ∧ ∀ j, i < j → j < ps.length → (ps.getD i (0, 0)).2 < (ps.getD j (0, 0)).1 := by
  induction ps with
  | nil => intro b k _ i hi; simp at hi
  | cons p r ih =>
    intro b k h i hi
    unfold wrongAt at h
    split at h
    · rename_i hp
      cases i with
      | zero =>
        refine ⟨hp.1, hp.2, fun j h0 hj => ?_⟩
        obtain ⟨j', rfl⟩ : ∃ j', j = j' + 1 := ⟨j - 1, by omega⟩
        simp only [List.length_cons] at hj
        have := (ih h j' (by omega)).1
        simpa using this
      | succ i =>
        simp only [List.length_cons] at hi
        have z := ih h i (by omega)
        refine ⟨by have := z.1; simp only [List.getD_cons_succ]; omega, by simpa using z.2.1, fun j h0 hj => ?_⟩
        obtain ⟨j', rfl⟩ : ∃ j', j = j' + 1 := ⟨j - 1, by omega⟩
        simp only [List.length_cons] at hj
        simpa using z.2.2 j' (by omega) (by omega)
    · cases h

theorem holdsR_iff {ps : List (Int × Int)} {c : Int} : holdsR ps c = true ↔ ∃ i, i < ps.length ∧ (ps.getD i (0, 0)).1 ≤ c ∧ c ≤ (ps.getD i (0, 0)).2 := by
  unfold holdsR
  rw [List.any_eq_true]
  constructor
  · rintro ⟨p, hp, e⟩
    obtain ⟨i, hi, rfl⟩ := List.mem_iff_getElem.mp hp
    simp only [Bool.and_eq_true, decide_eq_true_eq] at e
    exact ⟨i, hi, by simpa [hi] using e.1, by simpa [hi] using e.2⟩
  · rintro ⟨i, hi, a, b⟩
    refine ⟨ps[i], List.getElem_mem hi, ?_⟩
    simp only [List.getD_eq_getElem?_getD, List.getElem?_eq_getElem hi, Option.getD_some] at a b
    simp [a, b]

/-- what a binary search knows when it ends -/
theorem search_end {ps : List (Int × Int)} {c lo : Int} (hv : ValidR ps) (h0 : 0 ≤ lo) (hlo : ∀ i : Nat, (i : Int) < lo → i < ps.length → (ps.getD i (0, 0)).2 < c)
    (hhi : ∀ i : Nat, lo ≤ (i : Int) → i < ps.length → c ≤ (ps.getD i (0, 0)).2) : holdsR ps c = if lo < (ps.length : Int) then decide ((ps.getD lo.toNat (0, 0)).1 ≤ c) else false := by
  split
  · rename_i hl
    rw [Bool.eq_iff_iff, holdsR_iff, decide_eq_true_eq]
    constructor
    · rintro ⟨i, hi, a, b⟩
      by_cases h : (i : Int) < lo
      · have := hlo i h hi; omega
      · by_cases e : (i : Int) = lo
        · have : lo.toNat = i := by omega
          rw [this]; exact a
        · have := (wrongAt_none hv lo.toNat (by omega))
          have := this.2.2 i (by omega) hi
          have := this
          have z := (wrongAt_none hv lo.toNat (by omega)).2.1
          omega
    · intro a
      exact ⟨lo.toNat, by omega, a, hhi lo.toNat (by omega) (by omega)⟩
  · rename_i hl
    cases hq : holdsR ps c with
    | false => rfl
    | true =>
      obtain ⟨i, hi, a, b⟩ := holdsR_iff.mp hq
      have := hlo i (by omega) hi
      omega

/-- both sides of a turn of the search: what the item in the middle says of the others -/
theorem search_low {ps : List (Int × Int)} {c mid : Int} (hv : ValidR ps) (h0 : 0 ≤ mid) (h1 : mid < (ps.length : Int)) (hc : (ps.getD mid.toNat (0, 0)).2 < c) : ∀ i : Nat, (i : Int) < mid + 1 → i < ps.length → (ps.getD i (0, 0)).2 < c := by
  intro i hi hl
  by_cases e : (i : Int) = mid
  · have : mid.toNat = i := by omega
    rw [this] at hc; exact hc
  · have z := (wrongAt_none hv i hl).2.2 mid.toNat (by omega) (by omega)
    have z2 := (wrongAt_none hv mid.toNat (by omega)).2.1
    omega
theorem search_high {ps : List (Int × Int)} {c mid : Int} (hv : ValidR ps) (h0 : 0 ≤ mid) (h1 : mid < (ps.length : Int)) (hc : ¬ (ps.getD mid.toNat (0, 0)).2 < c) : ∀ i : Nat, mid ≤ (i : Int) → i < ps.length → c ≤ (ps.getD i (0, 0)).2 := by
  intro i hi hl
  by_cases e : (i : Int) = mid
  · have : mid.toNat = i := by omega
    rw [this] at hc; omega
  · have z := (wrongAt_none hv mid.toNat (by omega)).2.2 i (by omega) hl
    have z2 := (wrongAt_none hv i hl).2.1
    omega

/-- the bound that the check of the item number i holds it to -/
def beforeR (ps : List (Int × Int)) (i : Nat) : Int := if i = 0 then -1 else (ps.getD (i - 1) (0, 0)).2
theorem before_valid {ps : List (Int × Int)} (h : ValidR ps) {i : Nat} (hi : i < ps.length) : beforeR ps i < (ps.getD i (0, 0)).1 ∧ (ps.getD i (0, 0)).1 ≤ (ps.getD i (0, 0)).2 := by
  have z := wrongAt_none h i hi
  refine ⟨?_, z.2.1⟩
  unfold beforeR
  split
  · exact z.1
  · exact (wrongAt_none h (i - 1) (by omega)).2.2 i (by omega) hi
theorem beforeR_succ (ps : List (Int × Int)) (i : Nat) : beforeR ps (i + 1) = (ps.getD i (0, 0)).2 := by simp [beforeR]
theorem RangesV.at {h : Heap} {l : Addr} {vs : List Value} {ps : List (Int × Int)} (R : RangesV h l vs ps) {i : Nat} {v : Value} (e : vs.toArray[i]? = some v) : i < ps.length ∧ ∃ a t u, v = .ref a ∧ IsTup h a #[.int (ps.getD i (0, 0)).1 t, .int (ps.getD i (0, 0)).2 u] := by
  have e' : vs[i]? = some v := by simpa using e
  have hi : i < ps.length := by rw [← R.2.1]; exact (List.getElem?_eq_some_iff.mp e').1
  obtain ⟨v', a, b⟩ := R.2.2.1 i ps[i] (by simp [hi])
  rw [e'] at a
  cases a
  obtain ⟨a, t, u, rfl, r⟩ := b
  exact ⟨hi, a, t, u, rfl, by simpa [hi] using r⟩

/-! the table -/
def isI (n : Int) : Value → Heap → Prop := fun x _ => ∃ t, x = .int n t
def TabAt (h : Heap) (t : Addr) (W M J : List (Int × Int)) : Prop :=
  ∃ dx lw lm lj h1 h2 h3 k1 k2 k3, h.get? t = some (instObj 100 dx) ∧
    h.get? dx = some (dictOf [⟨h1, .str (Str.ofString "wide") k1, .ref lw⟩, ⟨h2, .str (Str.ofString "marks") k2, .ref lm⟩, ⟨h3, .str (Str.ofString "joiners") k3, .ref lj⟩] 3) ∧ Ranges h lw W ∧ Ranges h lm M ∧ Ranges h lj J
theorem TabAt.grown {h h' : Heap} {t : Addr} {W M J : List (Int × Int)} (x : TabAt h t W M J) (k : Grown h h') : TabAt h' t W M J := by
  obtain ⟨dx, lw, lm, lj, h1, h2, h3, k1, k2, k3, a, b, c, d, e⟩ := x
  exact ⟨dx, lw, lm, lj, h1, h2, h3, k1, k2, k3, k _ _ a, k _ _ b, c.grown k, d.grown k, e.grown k⟩
theorem instBase {h₀ h : Heap} {L x C dx : Addr} {m : Str → Option Value} {od : Obj} (F : Fr h₀ L h m) (h1 : h₀.get? x = some (instObj C dx)) (h2 : h₀.get? dx = some od) : InstAt h x (instObj C dx) C (some od) :=
  ⟨F.keep _ _ h1, rfl, rfl, F.keep _ _ h2⟩
def widthR (W M : List (Int × Int)) (c : Int) : Int := if holdsR M c then 0 else if holdsR W c then 2 else 1

/-! comprehensions over a list or a tuple that stands -/
section
variable {prog : Program} {w : World} {A : Around} {E : Value → Shared → Prop} {s : Shared} {h₀ : Heap} {L : Addr} {m : Str → Option Value} {env : Env}
def SeqAt (h : Heap) (a : Addr) (its : Array Value) : Prop := h.IsList a its ∨ IsTup h a its
theorem SeqAt.grown {h h' : Heap} {a : Addr} {its : Array Value} (x : SeqAt h a its) (k : Grown h h') : SeqAt h' a its := x.elim (fun z => .inl (isList_grown z k)) fun z => .inr (z.keeps k)
def NoFilter (_ : Unit) : Prop := True

theorem comp_seqT {ct elt iter : Expr} {x : Str} {px : Pos} {scope : Scope} {cl : List (Str × Addr)} {pos : Pos} {Q : Value → Shared → Prop} (F₀ : Fr h₀ L s.heap m)
    (hclos : closureFor scope env = pure cl) (hcell : ∀ y ∈ scope.names, y.2 ≠ .cell) (hkind : scope.kind = .function)
    (hnames : ∀ y ∈ scope.names, y.2 = .local → scope.names.lookup y.1 = some .local) (hx : scope.names.lookup x = some .local)
    (h : wpAny (model prog w) A (eval iter env) (fun xv s₁ => ∃ ax its news, xv = .ref ax ∧ A.handled = none ∧ Fr h₀ L s₁.heap m ∧ News h₀ L s₁.heap news ∧ SeqAt h₀ ax its ∧ its.size ≤ sizeLine ∧
      ∀ g (S : List (Addr × Obj) → Prop), (∀ nw, S nw) → LCt.CompRestT prog w A h₀ L m env ct elt x scope cl { s₁ with heap := g } S (fun i v => its[i]? = some v) (LCg.FinE h₀ L m { s₁ with heap := g } Q) its.size 0 [] news) E s)
    (hs : ∀ x, foldedSetIterable iter env x = pure x := by intro _; rfl) :
    wpAny (model prog w) A (eval (.ListComp elt [⟨.Name x px, iter, [ct], 0⟩] scope pos) env) Q E s := by
  rw [eval_ListComp]
  refine wpAny_comprehension_free (use := none) rfl hs hclos hkind hnames (wpAny_mono h (fun xv s₁ h₁ => ?_) fun _ _ e => e)
  obtain ⟨ax, its, news, rfl, hh, F, N, S, hsz, R⟩ := h₁
  have endOf : ∀ s₂ : Shared, (∀ D C h tk (m' : Str → Option Value) ys news', Fr h₀ L h m → News h₀ L h ((D, LCg.lst ys) :: news') → LCg.Off1 D news' → h.Ns C m' → h₀.get? C = none → h₀.get? D = none → C ≠ L → D ≠ L → C ≠ D → (∀ p ∈ news', p.1 ≠ C) → LCg.FinE h₀ L m s₂ Q ys news' →
      compPost (model prog w) A E none Q (.ref D) C (.ok .next) { s₂ with heap := h, toks := tk }) := by
    intro s₂ D C h tk m' ys news' F' N' o1 hn hC₀ hD₀ hCL hDL hCD offC fin
    refine ⟨m', hn, fun h'' hs'' => fin D h'' tk (F'.change hs'' hCL hC₀) (fun p hp => ?_) o1⟩
    refine ⟨hs''.extBut _ _ ?_ (N' p hp).1, (N' p hp).2⟩
    rcases List.mem_cons.mp hp with rfl | hp
    · exact Ne.symm hCD
    · exact offC p hp
  rcases S with hl₀ | ht₀
  · have hl := isList_grown hl₀ F.keep
    have hlt : @LT.lt Nat _ ax s₁.heap.objs.size := by obtain ⟨_, e, _⟩ := hl; exact ltS e
    refine wpAny_pyIter_list hl ?_
    have up : Grown s₁.heap (s₁.heap.push { cls := .type "list_iterator", data := .fields #[.ref ax, .int 0 0] }) := fun b o e => Heap.get?_push_of_some _ e
    refine LCt.block_T (Walks.list hh s₁.heap.objs.size ax (Nat.ne_of_lt hlt) its) hsz (fun i h st => by obtain ⟨o, e, _⟩ := st.1; exact ⟨o, e⟩) LCg.list_st hcell hkind hx ⟨⟨_, Heap.get?_push_size _ rfl, rfl, rfl⟩, hl.push _⟩ (fun b hb => ?_)
      (F.keeps up) (N.grown up) (Nat.ne_of_lt F.ns.lt) (next_is_new F) (fun p hp => Nat.ne_of_lt (Heap.lt_size (N p hp).1)) (show LCg.SrcAt h₀ ax its news from .inl hl₀) (R _ _ fun _ => .inl hl₀) (endOf _)
    show b < (s₁.heap.push _).objs.size
    rw [Heap.size_push]
    rcases List.mem_cons.mp hb with rfl | hb
    · exact Nat.lt_succ_self _
    · rw [List.mem_singleton.mp hb]; exact Nat.lt_succ_of_lt hlt
  · have hl : s₁.heap.IsTuple ax its := ht₀.keeps F.keep
    have hlt : @LT.lt Nat _ ax s₁.heap.objs.size := by obtain ⟨_, e, _⟩ := hl; exact ltS e
    refine wpAny_pyIter_tuple hl ?_
    have up : Grown s₁.heap (s₁.heap.push { cls := .type "tuple_iterator", data := .fields #[.ref ax, .int 0 0] }) := fun b o e => Heap.get?_push_of_some _ e
    refine LCt.block_T (S := fun _ => True) (Walks.tuple hh s₁.heap.objs.size ax (Nat.ne_of_lt hlt) its) hsz (fun i h st => by obtain ⟨o, e, _⟩ := st.1; exact ⟨o, e⟩)
      (fun i h h' o nw st e e' k _ _ => ⟨by obtain ⟨o', q, r⟩ := st.1; rw [e] at q; cases q; exact ⟨o, e', r⟩, ht₀.keeps k⟩) hcell hkind hx ⟨⟨_, Heap.get?_push_size _ rfl, rfl, rfl⟩, hl.at fun o e => up _ o e⟩ (fun b hb => ?_)
      (F.keeps up) (N.grown up) (Nat.ne_of_lt F.ns.lt) (next_is_new F) (fun p hp => Nat.ne_of_lt (Heap.lt_size (N p hp).1)) trivial (R _ _ fun _ => trivial) (endOf _)
    show b < (s₁.heap.push _).objs.size
    rw [Heap.size_push]
    rcases List.mem_cons.mp hb with rfl | hb
    · exact Nat.lt_succ_self _
    · rw [List.mem_singleton.mp hb]; exact Nat.lt_succ_of_lt hlt

/-- the test of a comprehension that keeps its ints: what it says, and that it changes nothing -/
def TestEnd (h₀ : Heap) (L : Addr) (m : Str → Option Value) (nw : List (Addr × Obj)) (s : Shared) (b ok : Bool) (s' : Shared) : Prop := ok = b ∧ ∃ h' tk, s' = { s with heap := h', toks := tk } ∧ Fr h₀ L h' m ∧ News h₀ L h' nw
theorem TestEnd.intro {nw nw' : List (Addr × Obj)} {b ok : Bool} {h' : Heap} {tk : Nat} (F : Fr h₀ L h' m) (N : News h₀ L h' nw') (hs : ∀ p ∈ nw, p ∈ nw') (e : ok = b) : TestEnd h₀ L m nw s b ok { s with heap := h', toks := tk } := ⟨e, h', tk, rfl, F, fun p hp => N p (hs p hp)⟩

theorem rest_filter {ct : Expr} {x : Str} {px : Pos} {scope : Scope} {cl : List (Str × Addr)} {S : List (Addr × Obj) → Prop} {P : Nat → Value → Prop} {Fin : List Value → List (Addr × Obj) → Prop} {n : Nat} {ks : List Int} {news : List (Addr × Obj)} (p : Int → Bool)
    (hS : ∀ nw, S nw) (hn : ks.length = n) (hP : ∀ i v, i < n → P i v → ∃ k t, ks[i]? = some k ∧ v = .int k t)
    (hlx : ∀ C, (compEnvC scope cl C env).kindOf x = some .local) (hkx : ∀ C, (compEnvC scope cl C env).scope.kind = .function) (hdx : (x == ("__debug__" : Str)) = false)
    (turn : ∀ k t I oI C oC D m₂ ys h tk (E' : Value → Shared → Prop), k ∈ ks → LCg.NsObj oC m₂ → m₂ x = some (.int k t) → Fr h₀ L h m → News h₀ L h ((I, oI) :: (C, oC) :: (D, LCg.lst ys) :: news) → LCg.Off3 I C D news → ((@Ne Nat I C) ∧ (@Ne Nat I D) ∧ (@Ne Nat C D)) →
      wpAny (model prog w) A (isTrue ct (compEnvC scope cl C env) (eval ct (compEnvC scope cl C env))) (TestEnd h₀ L m ((I, oI) :: (C, oC) :: (D, LCg.lst ys) :: news) { s with heap := h, toks := tk } (p k)) E' { s with heap := h, toks := tk })
    (fin : ∀ ys, IntsAre ys (ks.filter p) → Fin ys news) : LCt.CompRestT prog w A h₀ L m env ct (.Name x px) x scope cl s S P Fin n 0 [] news := by
  have key : ∀ (j i : Nat) (ys : List Value), i + j = n → IntsAre ys ((ks.take i).filter p) → LCt.CompRestT prog w A h₀ L m env ct (.Name x px) x scope cl s S P Fin j i ys news := by
    intro j
    induction j with
    | zero =>
      intro i ys hi hy
      have e : i = ks.length := by omega
      rw [e, List.take_length] at hy
      exact fin ys hy
    | succ j ih =>
      intro i ys hi hy
      refine LCt.CompRestT.succ ?_
      intro v I oI C oC D m₂ h tk E' hv hC hx F N off ne
      obtain ⟨k, t, hk, rfl⟩ := hP i v (by omega) hv
      have htake : (ks.take (i + 1)).filter p = (ks.take i).filter p ++ [k].filter p := by rw [List.take_add_one, hk, List.filter_append]; rfl
      refine wpAny_mono (turn k t I oI C oC D m₂ ys h tk E' (List.mem_of_getElem? hk) hC hx F N off ne) (fun ok s' hq => ?_) fun _ _ e => e
      obtain ⟨rfl, h', tk', rfl, F', N'⟩ := hq
      cases hp : p k with
      | true =>
        simp only [if_true]
        refine wpAny_Name (wpAny_loadName_local (hkx C) (hlx C) (hC.ns (N' (C, oC) (by simp)).1) hx ?_) hdx
        refine LCg.CompEnd.intro F' N' news (fun q hq => hq) off (hS _) (ih (i + 1) _ (by omega) ?_)
        rw [htake]
        simp only [List.filter_cons, hp, if_true, List.filter_nil]
        exact IntsAre.append hy (.cons k t .nil)
      | false =>
        simp only [Bool.false_eq_true, if_false]
        refine LCg.CompEnd.intro F' N' news (fun q hq => hq) off (hS _) (ih (i + 1) _ (by omega) ?_)
        rw [htake]
        simp only [List.filter_cons, hp, List.filter_nil]
        simpa using hy
  exact key n 0 [] (by omega) (by simp only [List.take_zero, List.filter_nil]; exact .nil)
end
end
local macro_rules | `(tactic| walk_at "PureEnd") => `(tactic| (refine PureEnd.intro (by assumption) ?_; (try dsimp only [isV])))
local macro_rules | `(tactic| walk_at "MINE arith") => `(tactic| first | omega | ((try rw [Int.fdiv_eq_ediv_of_nonneg _ (by decide)]); omega))
local macro_rules | `(tactic| walk_at "MINE open") => `(tactic| (
  (case k6 => k_dflt k_is)
  (case k7 => k_dflt k_is)
  (case k8 => decide)
  (case k9 => with_unfolding_all exact rfl)
  (case kB => exact locs rfl)
  (case c2 => exact rfl)
  (case c3 => exact rfl)
  (case c4 => exact rfl)
  (case c5 => decide)))
local macro_rules | `(tactic| walk_at "MINE use") => `(tactic| (
  (case k1 => k_asm)
  (case k2 => k_asm)
  (case k3 => k_asm)
  (case k4 => k_asm)
  (case k5 => k_asm)
  (case kA => exact rfl)
  (case kh => exact rfl)
  (case kd => exact Nat.le_of_ble_eq_true rfl)
  (case ku => exact Nat.le_of_ble_eq_true rfl)
  (case kf => exact rfl)
  (case kk => exact rfl)))

section
set_option maxHeartbeats 8000000
def k0 : Str := Str.ofString "a"
theorem k0_eq : k0 = k0 := rfl
name_quick tw2819615536446561996 for k0 by k0_eq
name_quick tw8075568018651887793 for k0 by k0_eq
name_quick tw15890479717591214170 for k0 by k0_eq
name_quick tw785904758220388488 for k0 by k0_eq
name_quick tw14979626087600564940 for k0 by k0_eq
open_top hd for PySem.Challenge.rw_og0230_02
end

section
set_option maxHeartbeats 4000000
noncomputable abbrev PP : Program := PySem.Challenge.rw_og0230_02.row.prog
noncomputable abbrev KF (w : World) : Frag := hd.heap_39 w.params
noncomputable abbrev VV : Program := hd.view_39
noncomputable abbrev LL : List Str := looseW hd.view_39 [Str.ofString "TermError", Str.ofString "FIRST_MODIFIER", Str.ofString "LAST_MODIFIER", Str.ofString "FIRST_REGION", Str.ofString "LAST_REGION"]


theorem s_is_region (w : World) (c : Int) (t : Tok) : PureF PP w (KF w) VV LL 360 400 111 [.int c t] (fun _ => True) (isV (.bool (decide (127462 ≤ c ∧ c ≤ 127487)))) := by
  unfold PP KF VV LL
  k_fill
  refine' PureF.enter (binds := [(Str.ofString "code", .int c t)]) ?k6 ?k7 ?k8 ?k9 ?kB ?c2 ?c3 ?c4 ?c5 ?h
  walk_at "MINE open"
  intro mean mg mb outer base g L s B F N X T hp
  (try dsimp only); k_unmd
  k_fold
  k_steps
  all_goals (simp only [Value.bool.injEq]; (try simp only [decide_eq_true_eq, decide_eq_false_iff_not] at *); (try simp); omega)

theorem s_is_modifier (w : World) (c : Int) (t : Tok) : PureF PP w (KF w) VV LL 360 400 118 [.int c t] (fun _ => True) (isV (.bool (decide (127995 ≤ c ∧ c ≤ 127999)))) := by
  unfold PP KF VV LL
  k_fill
  refine' PureF.enter (binds := [(Str.ofString "code", .int c t)]) ?k6 ?k7 ?k8 ?k9 ?kB ?c2 ?c3 ?c4 ?c5 ?h
  walk_at "MINE open"
  intro mean mg mb outer base g L s B F N X T hp
  (try dsimp only); k_unmd
  k_fold
  k_steps
  all_goals (simp only [Value.bool.injEq]; (try simp only [decide_eq_true_eq, decide_eq_false_iff_not] at *); (try simp); omega)

local macro_rules | `(tactic| walk_at "exec While Compare cons nil") => `(tactic| (refine Halt.mk ?_))
local macro_rules | `(tactic| walk_at "subscriptTail") => `(tactic| (k_here; (with_reducible show wpAny _ _ (subscriptTail _ _ (Value.ref _) (Value.int _ _)) _ _ _); (with_unfolding_all refine' RangesV.item ?k1 ?k2 ?k3 ?k4 ?_; (case k1 => k_asm); (case k2 => assumption); (case k3 => walk_at "MINE arith"); (case k4 => walk_at "MINE arith"); k_whole); intro a' t' u' hT'))

local macro_rules | `(tactic| walk_at "call builtin:len") => `(tactic| (k_here; (with_reducible show wpAny _ _ (call (Value.builtin "len") [Value.ref _]) _ _ _); (with_unfolding_all refine' RangesV.len_call ?k1 ?k2 ?_; (case k1 => k_asm); (case k2 => assumption); k_whole); intro t' tk'))
theorem s_wir (w : World) (l : Addr) (c : Int) (t : Tok) (vs : List Value) (ps : List (Int × Int)) (hv : ValidR ps) :
    PureF PP w (KF w) VV LL 360 400 62 [.ref l, .int c t] (fun h => RangesV h l vs ps) (isV (.bool (holdsR ps c))) := by
  unfold PP KF VV LL
  k_fill
  refine' PureF.enter (binds := [(Str.ofString "ranges", .ref l), (Str.ofString "code", .int c t)]) ?k6 ?k7 ?k8 ?k9 ?kB ?c2 ?c3 ?c4 ?c5 ?h
  walk_at "MINE open"
  intro mean mg mb outer base g L s B F N X T hp
  have hl := hp.1
  have hln := hp.len
  (try dsimp only); k_unmd
  k_fold
  k_steps
  rename Fr _ _ _ _ => F1
  unfold Halt
  refine While_inv2 (fun n m news => news = [] ∧ ∃ (lo hi : Int) (t1 t2 : Tok), m (Str.ofString "ranges") = some (.ref l) ∧ m (Str.ofString "code") = some (.int c t) ∧ m (Str.ofString "low") = some (.int lo t1) ∧ m (Str.ofString "high") = some (.int hi t2) ∧
    n = (hi - lo).toNat ∧ 0 ≤ lo ∧ lo ≤ hi ∧ hi ≤ (ps.length : Int) ∧ (∀ i : Nat, (i : Int) < lo → i < ps.length → (ps.getD i (0, 0)).2 < c) ∧ (∀ i : Nat, hi ≤ (i : Int) → i < ps.length → c ≤ (ps.getD i (0, 0)).2)) (n₀ := ps.length) F1 News.nil ?j0 ?turn ?hE
  case j0 => exact ⟨rfl, 0, (ps.length : Int), _, _, rfl, rfl, rfl, rfl, by omega, by omega, by omega, by omega, fun i h _ => by omega, fun i h h' => by omega⟩
  case hE => passes_own
  case turn =>
    rintro n m1 news1 h1 tk1 F2 N2 ⟨rfl, lo, hi, t1, t2, e1, e2, e3, e4, hn, h0, h1', h2, hlo, hhi⟩
    clear F1
    replace F2 := frOver F2 [(Str.ofString "ranges", .ref l), (Str.ofString "code", .int c t), (Str.ofString "low", .int lo t1), (Str.ofString "high", .int hi t2)] (allCons e1 (allCons e2 (allCons e3 (allCons e4 allNil))))
    k_unmd
    k_fold
    k_steps
    · have hm0 : 0 ≤ (lo + hi).fdiv 2 := by rw [Int.fdiv_eq_ediv_of_nonneg _ (by decide)]; omega
      have hm1 : lo ≤ (lo + hi).fdiv 2 ∧ (lo + hi).fdiv 2 < hi := by rw [Int.fdiv_eq_ediv_of_nonneg _ (by decide)]; omega
      exact ⟨_, _, _, [], _, rfl, by assumption, News.nil, by omega, rfl, _, hi, _, t2, rfl, rfl, rfl, rfl, rfl, by omega, by omega, by omega, search_low hv hm0 (by omega) (by assumption), hhi⟩
    · have hm0 : 0 ≤ (lo + hi).fdiv 2 := by rw [Int.fdiv_eq_ediv_of_nonneg _ (by decide)]; omega
      have hm1 : lo ≤ (lo + hi).fdiv 2 ∧ (lo + hi).fdiv 2 < hi := by rw [Int.fdiv_eq_ediv_of_nonneg _ (by decide)]; omega
      exact ⟨_, _, _, [], _, rfl, by assumption, News.nil, by omega, rfl, lo, _, t1, _, rfl, rfl, rfl, rfl, rfl, by omega, by omega, by omega, hlo, search_high hv hm0 (by omega) (by assumption)⟩
    · rw [search_end hv h0 hlo (fun i a b => hhi i (by omega) b), if_pos (by assumption)]
    · rw [search_end hv h0 hlo (fun i a b => hhi i (by omega) b), if_neg (by assumption)]; simp; omega
end

section
set_option maxHeartbeats 4000000



local macro_rules | `(tactic| walk_at "exec For Tuple Call cons nil") => `(tactic| (k_here; (with_reducible refine wpAny_For ?_ ?_); rotate_left; exact fun _ => rfl))
local macro_rules | `(tactic| walk_at "call type:enumerate") => `(tactic| (refine Halt.mk ?_))

theorem s_check (w : World) (l : Addr) (vs : List Value) (ps : List (Int × Int)) (hv : ValidR ps) : PureF PP w (KF w) VV LL 360 400 69 [.ref l] (fun h => RangesV h l vs ps) (isV .none) := by
  unfold PP KF VV LL
  k_fill
  refine' PureF.enter (binds := [(Str.ofString "ranges", .ref l)]) ?k6 ?k7 ?k8 ?k9 ?kB ?c2 ?c3 ?c4 ?c5 ?h
  walk_at "MINE open"
  intro mean mg mb outer base g L s B F N X T hp
  (try dsimp only); k_unmd
  k_fold
  k_steps
  rename Fr _ _ _ _ => F1
  unfold Halt
  refine for_enum (fun i m => m (Str.ofString "ranges") = some (.ref l) ∧ ∃ t, m (Str.ofString "before") = some (.int (beforeR ps i) t)) rfl rfl hp.1 F1 ⟨rfl, _, rfl⟩ ?turn ?done ?hE
  case hE => passes_own
  case done =>
    rintro h tk m ⟨e1, t1, e2⟩ F2
    clear F1
    have N2 : News g L h [] := News.nil
    dsimp only
    k_unmd
    k_steps
    all_goals rfl
  case turn =>
    rintro i v m1 h tk T1 own t1 hi ⟨e1, t2, e2⟩ F2 N2 ho
    obtain ⟨hi', a, t3, t4, rfl, hT⟩ := hp.at hi
    have hb := before_valid hv hi'
    clear F1
    replace F2 := frOver F2 [(Str.ofString "ranges", .ref l), (Str.ofString "before", .int (beforeR ps i) t2)] (allCons e1 (allCons e2 allNil))
    k_unmd
    k_fold
    k_steps
    all_goals (rename News _ _ _ _ => N9)
    all_goals exact ⟨_, _, _, rfl, by assumption, fun p hp => N9 p (by first | exact hp | exact List.mem_cons_of_mem _ hp), rfl, _, by rw [beforeR_succ]; rfl⟩
end

section
/-! a list or a tuple of ints that stands -/
def SeqI (h : Heap) (a : Addr) (ns : List Int) : Prop := ∃ vs, SeqAt h a vs.toArray ∧ IntsAre vs ns ∧ ns.length ≤ 1000
theorem SeqI.grown {h h' : Heap} {a : Addr} {ns : List Int} (x : SeqI h a ns) (k : Grown h h') : SeqI h' a ns := let ⟨vs, p, q⟩ := x; ⟨vs, p.grown k, q⟩
theorem SeqI.size {h : Heap} {a : Addr} {ns : List Int} (x : SeqI h a ns) : ns.length ≤ 1000 := x.choose_spec.2.2
def lastI (ns : List Int) (k : Nat) : Int := ns.getD (ns.length - k) 0

section
variable {prog : Program} {w : World} {A : Around} {E : Value → Shared → Prop} {s : Shared} {h₀ : Heap} {L : Addr} {m : Str → Option Value}
theorem seqI_len {a : Addr} {ns : List Int} {Q : Value → Shared → Prop} (F : Fr h₀ L s.heap m) (S : SeqI h₀ a ns) (h : ∀ t tk, Q (.int (ns.length : Int) t) { s with toks := tk }) :
    wpAny (model prog w) A (call (.builtin "len") [.ref a]) Q E s := by
  obtain ⟨vs, S, hi, hb⟩ := S
  have e : (vs.toArray.size : Int) = (ns.length : Int) := by rw [List.size_toArray, hi.length]
  rcases S with S | S
  · refine call_len_list (isList_grown S F.keep) (by omega) ?_
    rw [e]; exact h _ _
  · refine PyProof.Rows.len_tuple (S.keeps F.keep) (by omega) ?_
    rw [e]; exact h _ _

theorem seqI_item {a : Addr} {ns : List Int} {value slice : Expr} {k : Int} {u : Tok} {j : Nat} {Q : Value → Shared → Prop} (F : Fr h₀ L s.heap m) (S : SeqI h₀ a ns) (h1 : -(ns.length : Int) ≤ k) (h2 : k < (ns.length : Int))
    (hj : (j : Int) = if k < 0 then k + ns.length else k) (h : ∀ t, Q (.int (ns.getD j 0) t) s)
    (hs : subscripted slice false (.ref a) (.int k u) = operate [.ref a, .int k u] (getItem (.ref a) (.int k u)) := by with_unfolding_all rfl) (hg : ∀ r, letTemporaryGo value (.ref a) r = pure () := by intro _; with_unfolding_all rfl) :
    wpAny (model prog w) A (subscriptTail value slice (.ref a) (.int k u)) Q E s := by
  obtain ⟨vs, S, hi, hb⟩ := S
  have hlen := hi.length
  have hjl : j < ns.length := by split at hj <;> omega
  obtain ⟨t, hx⟩ := hi.get j (ns.getD j 0) (by simp [hjl])
  rcases S with S | S
  · by_cases hk : k < 0
    · rw [if_pos hk] at hj
      have hjj : (k + (vs.toArray.size : Int)).toNat = j := by rw [List.size_toArray]; omega
      refine subscriptTail_builtin (S.at fun o e => F.keep _ _ e).typeIs slot_list_getitem.lookup (wpAny_getItem_list_neg (isList_grown S F.keep) hk (by rw [List.size_toArray]; omega) (by omega) (x := .int (ns.getD j 0) t) ?_ (h t)) hs hg
      rw [hjj]; simpa using hx
    · rw [if_neg hk] at hj
      have hjj : k.toNat = j := by omega
      exact item_listL (isList_grown S F.keep) (by omega) (by omega) (by rw [hjj]; exact hx) (h t) hs hg
  · have hjj : seqIndex? k vs.length = some j := by
      unfold seqIndex?
      by_cases hk : k < 0
      · rw [if_pos hk] at hj
        simp only [hk, if_true]
        have c : (decide (0 ≤ k + (vs.length : Int)) && decide (k + (vs.length : Int) < (vs.length : Int))) = true := by simp; omega
        rw [if_pos c]
        congr 1; omega
      · rw [if_neg hk] at hj
        simp only [hk, if_false]
        have c : (decide (0 ≤ k) && decide (k < (vs.length : Int))) = true := by simp; omega
        rw [if_pos c]
        congr 1; omega
    exact item_tupleT (S.keeps F.keep) (by omega) (by omega) hjj hx (h t) hs

theorem seqI_in {a : Addr} {ns : List Int} {k : Int} {u : Tok} {Q : Value → Shared → Prop} (F : Fr h₀ L s.heap m) (S : SeqI h₀ a ns) (h : Q (.bool (ns.any (· == k))) s) : wpAny (model prog w) A (compareOp .In (.int k u) (.ref a)) Q E s := by
  obtain ⟨vs, S, hi, hb⟩ := S
  rcases S with S | S
  · exact in_list_ints (isList_grown S F.keep) hi h
  · exact in_tuple_ints (S.keeps F.keep) (by simpa using hi) h

theorem readsAll_ints {h : Heap} : ∀ {vs : List Value} {ns : List Int}, IntsAre vs ns → ReadsAll h vs (ns.map PyData.int) []
  | _, _, .nil => .nil
  | _, _, .cons n t r => ReadsAll.cons (as := []) (.int n t) (readsAll_ints r)

theorem eq_tups {a b : Addr} {xs ys : List Value} {ns ms : List Int} {Q : Value → Shared → Prop} (ha : IsTup s.heap a xs.toArray) (hb : IsTup s.heap b ys.toArray) (hi : IntsAre xs ns) (hj : IntsAre ys ms) (hu : A.units + 64 < cLine)
    (h : Q (.bool (decide (ns = ms))) s) : wpAny (model prog w) A (compareOp .Eq (.ref a) (.ref b)) Q E s := by
  obtain ⟨oa, ha1, ha2, na, ha3⟩ := ha
  obtain ⟨ob, hb1, hb2, nb, hb3⟩ := hb
  have sh : ∀ ks : List Int, SeqAt.shaped (.tuple (ks.map PyData.int)) = true := fun ks => by simp [SeqAt.shaped, PyData.canLay0, PyData.depth, ke_canLayAll0, ke_depthAll]
  refine eq_dataH (reads_tuple_at ha1 ha2 ha3 (readsAll_ints (by simpa using hi))) (reads_tuple_at hb1 hb2 hb3 (readsAll_ints (by simpa using hj))) (sh _) (sh _) hu ?_
  simp only [PyData.eqv]
  rw [ked_eqvAll]
  exact h
end

section
variable {prog : Program} {w : World} {A : Around} {E : Value → Shared → Prop} {s : Shared} {h₀ : Heap} {L : Addr} {m : Str → Option Value} {news : List (Addr × Obj)}

theorem adjust_last2 (n : Nat) : Builtin.Slice.sliceAdjust (some (-2 : Int)) none 1 (n : Int) = (((n - 2 : Nat) : Int), (n : Int)) := by
  unfold Builtin.Slice.sliceAdjust
  have h1 : ¬ ((1 : Int) < 0) := by omega
  have h2 : (-2 : Int) < 0 := by omega
  simp only [h1, h2, if_false, if_true]
  congr 1
  omega
theorem places_last2 (n : Nat) : Builtin.Slice.slicePlaces ((n - 2 : Nat) : Int) (n : Int) 1 = n - (n - 2) := by
  unfold Builtin.Slice.slicePlaces
  have h1 : (1 : Int) > 0 := by omega
  simp only [h1, if_true, Int.ediv_one]
  split <;> omega
theorem sliceApplied_last2 {sl : Addr} {n : Nat} {u : Tok} {Q : Int × Int × Nat → Shared → Prop} (hs : s.heap.IsSliceOf sl (.int (-2) u) .none .none) (h : Q (((n - 2 : Nat) : Int), 1, n - (n - 2)) s) :
    wpAny (model prog w) A (Builtin.Slice.sliceApplied (.ref sl) (pure (n : Int))) Q E s := by
  obtain ⟨os, hos, hcs, hds⟩ := id hs
  unfold Builtin.Slice.sliceApplied Builtin.Slice.sliceFields
  refine wpAny_bind (wpAny_bind (wpAny_field hos hds (x := .int (-2) u) rfl (wpAny_bind (wpAny_field hos hds (x := .none) rfl (wpAny_bind (wpAny_field hos hds (x := .none) rfl (wpAny_pure ?_)))))))
  refine wpAny_bind (slicePart_none ?_)
  show wpAny _ _ (if ((1 : Int) == 0) = true then _ else _) _ _ s
  rw [if_neg (by decide)]
  refine wpAny_bind (slicePart_int (wpAny_bind (slicePart_none (wpAny_bind (wpAny_pure ?_)))))
  show wpAny _ _ (match Builtin.Slice.sliceAdjust (some (-2 : Int)) none 1 (n : Int) with | (lo, hi) => pure (lo, (1 : Int), Builtin.Slice.slicePlaces lo hi 1)) _ _ s
  rw [adjust_last2 n]
  show wpAny _ _ (pure (((n - 2 : Nat) : Int), (1 : Int), Builtin.Slice.slicePlaces ((n - 2 : Nat) : Int) (n : Int) 1)) _ _ s
  rw [places_last2 n]
  exact wpAny_pure h

/-- the last two of a tuple: itself, where it has no more -/
theorem getItem_last2 {t sl : Addr} {items : Array Value} {u : Tok} {Q : Value → Shared → Prop} (ht : IsTup s.heap t items) (hs : s.heap.IsSliceOf sl (.int (-2) u) .none .none) (hsz : items.size ≤ sizeLine)
    (h1 : items.size ≤ 2 → Q (.ref t) s)
    (h2 : 2 < items.size → Q (.ref s.heap.objs.size) { s with heap := s.heap.push { cls := .type "tuple", data := .seq (items.toList.drop (items.size - 2)).toArray } }) :
    wpAny (model prog w) A (getItem (.ref t) (.ref sl)) Q E s := by
  obtain ⟨os, hos, hcs, hds⟩ := id hs
  have hTs : s.TypeIs (.ref sl) "slice" := ⟨os, hos, hcs⟩
  unfold getItem
  try with_reducible refine wpAny_holding ?_
  first | refine wpAny_bind (wpAny_pure ?_) | skip
  refine wpAny_bind (wpAny_sequenceKey ht.typeIs (by decide) ?_)
  refine wpAny_bind (wpAny_callSpecial?_slot (name := Str.ofString "__getitem__") ht.typeIs slot_tuple_getitem
    (wpAny_call_entry slot_tuple_getitem ht.typeIs entry_tuple_getitem ?_ (args_tuple_getitem _ _)))
  show wpAny _ _ (Builtin.Tuple.tupleItemsOf (.ref t) >>= _) _ _ s
  refine wpAny_bind (tupleItemsOf_ ht ?_)
  refine wpAny_bind (wpAny_typeOf hTs ?_)
  rw [if_pos (by decide)]
  refine wpAny_bind (sliceApplied_last2 hs ?_)
  by_cases hn : items.size ≤ 2
  · have hc : ((((items.size - 2 : Nat) : Int) == 0) && ((1 : Int) == 1) && ((items.size - (items.size - 2)) == items.size)) = true := by
      have : items.size - 2 = 0 := by omega
      rw [this]; simp
    show wpAny _ _ (if ((((items.size - 2 : Nat) : Int) == 0) && ((1 : Int) == 1) && ((items.size - (items.size - 2)) == items.size)) = true then _ else _) _ _ s
    rw [if_pos hc]
    have hone : wpAny (model prog w) A.in1 (Builtin.Tuple.tupleIsExact (.ref t)) (fun b s' => b = true ∧ s' = s) E s := by
      unfold Builtin.Tuple.tupleIsExact
      exact wpAny_bind (wpAny_typeOf ht.typeIs (wpAny_pure ⟨by decide, rfl⟩))
    refine wpAny_bind (wpAny_mono hone (fun b s' hb => ?_) fun _ _ e => e)
    obtain ⟨rfl, rfl⟩ := hb
    rw [if_pos rfl]
    exact wpAny_bind (wpAny_rule (wpAny_pure ⟨_, rfl, wpAny_pure (h1 hn)⟩))
  · have hno : ¬ (((((items.size - 2 : Nat) : Int) == 0) && ((1 : Int) == 1) && ((items.size - (items.size - 2)) == items.size)) = true) := by
      have : (((items.size - 2 : Nat) : Int) == 0) = false := by rw [beq_eq_false_iff_ne]; omega
      rw [this]; simp
    have hdrop : sizeOk (.seq (items.toList.drop (items.size - 2)).toArray) := by
      show (items.toList.drop (items.size - 2)).toArray.size ≤ sizeLine
      rw [List.size_toArray, List.length_drop, Array.length_toList]
      omega
    show wpAny _ _ (if ((((items.size - 2 : Nat) : Int) == 0) && ((1 : Int) == 1) && ((items.size - (items.size - 2)) == items.size)) = true then _ else _) _ _ s
    rw [if_neg hno, pick_from items (items.size - 2) (by omega)]
    have h2 := h2 (by omega)
    first
    | exact wpAny_bind (m := Builtin.Tuple.tupleExact _) (wpAny_newObj_type (wpAny_pure ⟨_, rfl, wpAny_pure h2⟩) hdrop)
    | exact wpAny_bind (m := Builtin.Tuple.tupleExact _) (wpAny_newObj_type (wpAny_bind (wpAny_pure (wpAny_pure ⟨_, rfl, wpAny_pure h2⟩))) hdrop)
    | exact wpAny_bind (wpAny_bind (m := Builtin.Tuple.tupleExact _) (wpAny_newObj_type (wpAny_pure (wpAny_pure ⟨_, rfl, wpAny_pure h2⟩)) hdrop))
    | exact wpAny_bind (wpAny_bind (m := Builtin.Tuple.tupleExact _) (wpAny_newObj_type (wpAny_pure ⟨_, rfl, wpAny_pure h2⟩) hdrop))

theorem slice_last2 {value slice : Expr} {t : Addr} {items : Array Value} {u : Tok} {Q : Value → Shared → Prop}
    (F : Fr h₀ L s.heap m) (N : News h₀ L s.heap news) (ht : IsTup s.heap t items) (hsz : items.size ≤ sizeLine)
    (h1 : items.size ≤ 2 → ∀ h', Fr h₀ L h' m → News h₀ L h' news → Grown s.heap h' → Q (.ref t) { s with heap := h' })
    (h2 : 2 < items.size → ∀ h' b, Fr h₀ L h' m → News h₀ L h' ((b, { cls := .type "tuple", data := .seq (items.toList.drop (items.size - 2)).toArray }) :: news) → Grown s.heap h' → Q (.ref b) { s with heap := h' })
    (hs : subscripted slice false (.ref t) (.ref s.heap.objs.size) = operate [.ref s.heap.objs.size, .ref t] (getItem (.ref t) (.ref s.heap.objs.size)) := by with_unfolding_all rfl)
    (hg : ∀ r, letTemporaryGo value (.ref t) r = pure () := by intro _; with_unfolding_all rfl) :
    wpAny (model prog w) A (subscriptTail value slice (.ref t) (.ref s.heap.objs.size)) Q E { s with heap := s.heap.push { cls := .type "slice", data := .fields #[.int (-2) u, .none, .none] } } := by
  have up : Grown s.heap (s.heap.push { cls := .type "slice", data := .fields #[.int (-2) u, .none, .none] }) := fun _ _ e => Heap.get?_push_of_some _ e
  have ht' : IsTup (s.heap.push { cls := .type "slice", data := .fields #[.int (-2) u, .none, .none] }) t items := ht.keeps up
  refine subscriptTail_ops (s := { s with heap := s.heap.push { cls := .type "slice", data := .fields #[.int (-2) u, .none, .none] } }) ht'.typeIs slot_tuple_getitem.lookup
    (getItem_last2 ht' (Heap.IsSliceOf.new ..) hsz (fun hn => h1 hn _ (F.push _) (N.grown up) up) (fun hn => ?_)) hs hg
  have N1 := News.push (F.push { cls := .type "slice", data := .fields #[.int (-2) u, .none, .none] }) (N.grown up) { cls := .type "tuple", data := .seq (items.toList.drop (items.size - 2)).toArray }
  exact h2 hn _ _ ((F.push _).push _) N1 (up.trans fun _ _ e => Heap.get?_push_of_some _ e)
end

theorem wrongAt_some {ps : List (Int × Int)} : ∀ {b : Int} {k at_ : Nat}, wrongAt b k ps = some at_ → k ≤ at_ ∧ at_ < k + ps.length := by
  induction ps with
  | nil => intro b k at_ h; cases h
  | cons p r ih =>
    intro b k at_ h
    unfold wrongAt at h
    split at h
    · have := ih h; simp only [List.length_cons]; omega
    · cases h; simp only [List.length_cons]; omega
/-- the bound that is before the item number i -/
def prevR (b : Int) (ps : List (Int × Int)) (i : Nat) : Int := if i = 0 then b else (ps.getD (i - 1) (0, 0)).2
theorem wrongAt_iff {ps : List (Int × Int)} : ∀ {b : Int} {k at_ : Nat}, wrongAt b k ps = some at_ → ∀ i, k + i < at_ → prevR b ps i < (ps.getD i (0, 0)).1 ∧ (ps.getD i (0, 0)).1 ≤ (ps.getD i (0, 0)).2 := by
  induction ps with
  | nil => intro b k at_ h; cases h
  | cons p r ih =>
    intro b k at_ h i hi
    unfold wrongAt at h
    split at h
    · rename_i hb
      cases i with
      | zero => simpa [prevR] using hb
      | succ i =>
        have := ih h i (by omega)
        cases i with
        | zero => simpa [prevR] using this
        | succ i => simpa [prevR] using this
    · cases h; omega
theorem wrongAt_at {ps : List (Int × Int)} : ∀ {b : Int} {k at_ : Nat}, wrongAt b k ps = some at_ → ∀ i, k + i = at_ → ¬ (prevR b ps i < (ps.getD i (0, 0)).1 ∧ (ps.getD i (0, 0)).1 ≤ (ps.getD i (0, 0)).2) := by
  induction ps with
  | nil => intro b k at_ h; cases h
  | cons p r ih =>
    intro b k at_ h i hi
    have hs := wrongAt_some h
    unfold wrongAt at h
    split at h
    · rename_i hb
      have hs' := wrongAt_some h
      obtain ⟨j, rfl⟩ : ∃ j, i = j + 1 := ⟨i - 1, by omega⟩
      have := ih h j (by omega)
      cases j with
      | zero => simpa [prevR] using this
      | succ j => simpa [prevR] using this
    · rename_i hb
      cases h
      obtain rfl : i = 0 := by omega
      simpa [prevR] using hb
theorem beforeR_prev (ps : List (Int × Int)) (i : Nat) : beforeR ps i = prevR (-1) ps i := rfl

section
variable {prog : Program} {w : World} {A : Around} {E : Value → Shared → Prop} {s : Shared} {h₀ : Heap} {L : Addr} {m : Str → Option Value}
theorem seqI_m1 {a : Addr} {ns : List Int} {value slice : Expr} {u : Tok} {Q : Value → Shared → Prop} (F : Fr h₀ L s.heap m) (S : SeqI h₀ a ns) (h1 : 1 ≤ ns.length) (h : ∀ t, Q (.int (lastI ns 1) t) s)
    (hs : subscripted slice false (.ref a) (.int (-1) u) = operate [.ref a, .int (-1) u] (getItem (.ref a) (.int (-1) u)) := by with_unfolding_all rfl) (hg : ∀ r, letTemporaryGo value (.ref a) r = pure () := by intro _; with_unfolding_all rfl) :
    wpAny (model prog w) A (subscriptTail value slice (.ref a) (.int (-1) u)) Q E s := seqI_item (j := ns.length - 1) F S (by omega) (by omega) (by rw [if_pos (by decide)]; omega) h hs hg
theorem seqI_m2 {a : Addr} {ns : List Int} {value slice : Expr} {u : Tok} {Q : Value → Shared → Prop} (F : Fr h₀ L s.heap m) (S : SeqI h₀ a ns) (h1 : 2 ≤ ns.length) (h : ∀ t, Q (.int (lastI ns 2) t) s)
    (hs : subscripted slice false (.ref a) (.int (-2) u) = operate [.ref a, .int (-2) u] (getItem (.ref a) (.int (-2) u)) := by with_unfolding_all rfl) (hg : ∀ r, letTemporaryGo value (.ref a) r = pure () := by intro _; with_unfolding_all rfl) :
    wpAny (model prog w) A (subscriptTail value slice (.ref a) (.int (-2) u)) Q E s := seqI_item (j := ns.length - 2) F S (by omega) (by omega) (by rw [if_pos (by decide)]; omega) h hs hg
theorem seqI_z {a : Addr} {ns : List Int} {value slice : Expr} {u : Tok} {Q : Value → Shared → Prop} (F : Fr h₀ L s.heap m) (S : SeqI h₀ a ns) (h1 : 1 ≤ ns.length) (h : ∀ t, Q (.int (ns.getD 0 0) t) s)
    (hs : subscripted slice false (.ref a) (.int 0 u) = operate [.ref a, .int 0 u] (getItem (.ref a) (.int 0 u)) := by with_unfolding_all rfl) (hg : ∀ r, letTemporaryGo value (.ref a) r = pure () := by intro _; with_unfolding_all rfl) :
    wpAny (model prog w) A (subscriptTail value slice (.ref a) (.int 0 u)) Q E s := seqI_item (j := 0) F S (by omega) (by omega) (by rw [if_neg (by decide)]; rfl) h hs hg
end

/-! what the program says of cells -/
def bareN (ns : List Int) : Int := if 1 < ns.length ∧ lastI ns 1 = 65039 then lastI ns 2 else lastI ns 1
def isReg (c : Int) : Bool := decide (127462 ≤ c ∧ c ≤ 127487)
def isMod (c : Int) : Bool := decide (127995 ≤ c ∧ c ≤ 127999)
def joinsN (W M J : List (Int × Int)) (ns : List Int) (c : Int) : Bool :=
  if ns.length = 0 then false else if widthR W M c = 0 then true
  else if isReg c then (isReg (lastI ns 1) && decide ((ns.filter isReg).length = 1))
  else if isMod c then holdsR J (bareN ns)
  else decide (lastI ns 1 = 8205) && holdsR J c && holdsR J (ns.getD 0 0)
def columnsN (W M J : List (Int × Int)) (ns : List Int) : Int :=
  if ns.length = 0 then 1 else if widthR W M (ns.getD 0 0) = 2 ∨ 1 < (ns.filter isReg).length then 2
  else if ns.any (· == 65039) && holdsR J (ns.getD 0 0) then 2
  else if ns.drop (ns.length - 2) = [65039, 8419] then 2 else 1
theorem isI_of {n k : Int} {t : Tok} {h : Heap} (e : n = k) : isI n (.int k t) h := ⟨t, by rw [e]⟩
end

section
section
variable {prog : Program} {w : World} {A : Around} {E : Value → Shared → Prop} {s : Shared} {h₀ : Heap} {L : Addr} {m : Str → Option Value} {env : Env}
/-- where the iterable of a comprehension with a test is reached -/
def SeqSrc (prog : Program) (w : World) (A : Around) (h₀ : Heap) (L : Addr) (m : Str → Option Value) (env : Env) (ct elt : Expr) (x : Str) (scope : Scope) (cl : List (Str × Addr)) (Q : Value → Shared → Prop) (xv : Value) (s₁ : Shared) : Prop :=
  ∃ ax its news, xv = .ref ax ∧ A.handled = none ∧ Fr h₀ L s₁.heap m ∧ News h₀ L s₁.heap news ∧ SeqAt h₀ ax its ∧ its.size ≤ sizeLine ∧
      ∀ g (S : List (Addr × Obj) → Prop), (∀ nw, S nw) → LCt.CompRestT prog w A h₀ L m env ct elt x scope cl { s₁ with heap := g } S (fun i v => its[i]? = some v) (LCg.FinE h₀ L m { s₁ with heap := g } Q) its.size 0 [] news
theorem comp_seq {ct elt iter : Expr} {x : Str} {px : Pos} {scope : Scope} {cl : List (Str × Addr)} {pos : Pos} {Q : Value → Shared → Prop} (F₀ : Fr h₀ L s.heap m)
    (hclos : closureFor scope env = pure cl) (hcell : ∀ y ∈ scope.names, y.2 ≠ .cell) (hkind : scope.kind = .function)
    (hnames : ∀ y ∈ scope.names, y.2 = .local → scope.names.lookup y.1 = some .local) (hx : scope.names.lookup x = some .local)
    (h : wpAny (model prog w) A (eval iter env) (SeqSrc prog w A h₀ L m env ct elt x scope cl Q) E s)
    (hs : ∀ x, foldedSetIterable iter env x = pure x := by intro _; rfl) :
    wpAny (model prog w) A (eval (.ListComp elt [⟨.Name x px, iter, [ct], 0⟩] scope pos) env) Q E s := comp_seqT F₀ hclos hcell hkind hnames hx h hs

theorem SeqSrc.ints {ct : Expr} {x : Str} {px : Pos} {scope : Scope} {cl : List (Str × Addr)} {Q : Value → Shared → Prop} {a : Addr} {ns : List Int} {news : List (Addr × Obj)} (p : Int → Bool)
    (hh : A.handled = none) (F : Fr h₀ L s.heap m) (N : News h₀ L s.heap news) (S : SeqI h₀ a ns)
    (hlx : ∀ C, (compEnvC scope cl C env).kindOf x = some .local) (hkx : ∀ C, (compEnvC scope cl C env).scope.kind = .function) (hdx : (x == ("__debug__" : Str)) = false)
    (turn : ∀ k t I oI C oC D m₂ ys h tk (E' : Value → Shared → Prop), k ∈ ns → LCg.NsObj oC m₂ → m₂ x = some (.int k t) → Fr h₀ L h m → News h₀ L h ((I, oI) :: (C, oC) :: (D, LCg.lst ys) :: news) → LCg.Off3 I C D news → ((@Ne Nat I C) ∧ (@Ne Nat I D) ∧ (@Ne Nat C D)) →
      wpAny (model prog w) A (isTrue ct (compEnvC scope cl C env) (eval ct (compEnvC scope cl C env))) (TestEnd h₀ L m ((I, oI) :: (C, oC) :: (D, LCg.lst ys) :: news) { s with heap := h, toks := tk } (p k)) E' { s with heap := h, toks := tk })
    (fin : ∀ ys D h tk, IntsAre ys (ns.filter p) → (ns.filter p).length ≤ ns.length → Fr h₀ L h m → News h₀ L h ((D, LCg.lst ys) :: news) → LCg.Off1 D news → Q (.ref D) { s with heap := h, toks := tk }) :
    SeqSrc prog w A h₀ L m env ct (.Name x px) x scope cl Q (.ref a) s := by
  obtain ⟨vs, S, hi, hb⟩ := S
  have hl := hi.length
  refine ⟨a, vs.toArray, news, rfl, hh, F, N, S, by rw [List.size_toArray, sizeLine_eq]; omega, fun g T hT => ?_⟩
  refine rest_filter (ks := ns) p hT (by rw [List.size_toArray, hl]) (fun i v hi' hv => ?_) hlx hkx hdx ?_ ?_
  · have e : vs[i]? = some v := by simpa using hv
    rw [List.size_toArray, hl] at hi'
    obtain ⟨t, q⟩ := hi.get i ns[i] (by simp [hi'])
    rw [e] at q
    exact ⟨ns[i], t, by simp [hi'], Option.some.inj q⟩
  · intro k t I oI C oC D m₂ ys h tk E' hk hC hx F' N' off ne
    exact turn k t I oI C oC D m₂ ys h tk E' hk hC hx F' N' off ne
  · intro ys hy D h tk F' N' o1
    exact fin ys D h tk hy (List.length_filter_le ..) F' N' o1
end

theorem isReg_t {c : Int} (h : 127462 ≤ c ∧ c ≤ 127487) : isReg c = true := by simp [isReg, h]
theorem isReg_f {c : Int} (h : ¬ (127462 ≤ c ∧ c ≤ 127487)) : isReg c = false := by simpa [isReg] using h
theorem isMod_t {c : Int} (h : 127995 ≤ c ∧ c ≤ 127999) : isMod c = true := by simp [isMod, h]
theorem isMod_f {c : Int} (h : ¬ (127995 ≤ c ∧ c ≤ 127999)) : isMod c = false := by simpa [isMod] using h
section
variable {W M J : List (Int × Int)} {ns : List Int} {c : Int}
theorem joins_0 (h : (ns.length : Int) = 0) : joinsN W M J ns c = false := by rw [joinsN, if_pos (by omega)]
theorem joins_1 (h : (ns.length : Int) ≠ 0) (hw : widthR W M c = 0) : joinsN W M J ns c = true := by rw [joinsN, if_neg (by omega), if_pos hw]
theorem joins_2 (h : (ns.length : Int) ≠ 0) (hw : widthR W M c ≠ 0) (hc : 127462 ≤ c ∧ c ≤ 127487) (hl : ¬ (127462 ≤ lastI ns 1 ∧ lastI ns 1 ≤ 127487)) : joinsN W M J ns c = false := by
  rw [joinsN, if_neg (by omega), if_neg hw, if_pos (isReg_t hc), isReg_f hl]; rfl
theorem joins_3 (h : (ns.length : Int) ≠ 0) (hw : widthR W M c ≠ 0) (hc : 127462 ≤ c ∧ c ≤ 127487) (hl : 127462 ≤ lastI ns 1 ∧ lastI ns 1 ≤ 127487) : joinsN W M J ns c = (((ns.filter isReg).length : Int) == 1) := by
  rw [joinsN, if_neg (by omega), if_neg hw, if_pos (isReg_t hc), isReg_t hl, Bool.true_and, Bool.eq_iff_iff]; simp; omega
theorem joins_4 (h : (ns.length : Int) ≠ 0) (hw : widthR W M c ≠ 0) (hc : ¬ (127462 ≤ c ∧ c ≤ 127487)) (hm : 127995 ≤ c ∧ c ≤ 127999) : joinsN W M J ns c = holdsR J (bareN ns) := by
  rw [joinsN, if_neg (by omega), if_neg hw, if_neg (by rw [isReg_f hc]; decide), if_pos (isMod_t hm)]
theorem joins_5 (h : (ns.length : Int) ≠ 0) (hw : widthR W M c ≠ 0) (hc : ¬ (127462 ≤ c ∧ c ≤ 127487)) (hm : ¬ (127995 ≤ c ∧ c ≤ 127999)) : joinsN W M J ns c = (decide (lastI ns 1 = 8205) && holdsR J c && holdsR J (ns.getD 0 0)) := by
  rw [joinsN, if_neg (by omega), if_neg hw, if_neg (by rw [isReg_f hc]; decide), if_neg (by rw [isMod_f hm]; decide)]
theorem columns_0 (h : (ns.length : Int) = 0) : columnsN W M J ns = 1 := by rw [columnsN, if_pos (by omega)]
theorem columns_1 (h : (ns.length : Int) ≠ 0) (hw : widthR W M (ns.getD 0 0) = 2) : columnsN W M J ns = 2 := by rw [columnsN, if_neg (by omega), if_pos (.inl hw)]
theorem columns_2 (h : (ns.length : Int) ≠ 0) (hw : 1 < ((ns.filter isReg).length : Int)) : columnsN W M J ns = 2 := by rw [columnsN, if_neg (by omega), if_pos (.inr (by omega))]
theorem columns_3 (h : (ns.length : Int) ≠ 0) (hw : widthR W M (ns.getD 0 0) ≠ 2) (hr : ¬ 1 < ((ns.filter isReg).length : Int)) (hp : (ns.any fun x => x == 65039) = true) (hj : holdsR J (ns.getD 0 0) = true) : columnsN W M J ns = 2 := by
  rw [columnsN, if_neg (by omega), if_neg (by omega), if_pos (by rw [hp, hj]; rfl)]
theorem columns_4 (h : (ns.length : Int) ≠ 0) (hw : widthR W M (ns.getD 0 0) ≠ 2) (hr : ¬ 1 < ((ns.filter isReg).length : Int)) (hp : (ns.any fun x => x == 65039) = false ∨ holdsR J (ns.getD 0 0) = false) : columnsN W M J ns = if ns.drop (ns.length - 2) = [65039, 8419] then 2 else 1 := by
  rw [columnsN, if_neg (by omega), if_neg (by omega), if_neg (by rcases hp with e | e <;> rw [e] <;> simp)]
end
theorem slice_last2' {prog : Program} {w : World} {A : Around} {E : Value → Shared → Prop} {h₀ : Heap} {L : Addr} {m : Str → Option Value} {news : List (Addr × Obj)} {value slice : Expr} {t : Addr} {items : Array Value} {u : Tok} {Q : Value → Shared → Prop} {h : Heap} {gg dr tk os}
    (F : Fr h₀ L h m) (N : News h₀ L h news) (ht : IsTup h t items) (hsz : items.size ≤ sizeLine)
    (h1 : items.size ≤ 2 → ∀ h', Fr h₀ L h' m → News h₀ L h' news → Q (.ref t) ⟨h', gg, dr, tk, os⟩)
    (h2 : 2 < items.size → ∀ h' b, Fr h₀ L h' m → News h₀ L h' ((b, { cls := .type "tuple", data := .seq (items.toList.drop (items.size - 2)).toArray }) :: news) → Q (.ref b) ⟨h', gg, dr, tk, os⟩)
    (hs : subscripted slice false (.ref t) (.ref h.objs.size) = operate [.ref h.objs.size, .ref t] (getItem (.ref t) (.ref h.objs.size)))
    (hg : ∀ r, letTemporaryGo value (.ref t) r = pure ()) :
    wpAny (model prog w) A (subscriptTail value slice (.ref t) (.ref h.objs.size)) Q E ⟨h.push { cls := .type "slice", data := .fields #[.int (-2) u, .none, .none] }, gg, dr, tk, os⟩ :=
  slice_last2 (s := ⟨h, gg, dr, tk, os⟩) F N ht hsz (fun hn h' F' N' _ => h1 hn h' F' N') (fun hn h' b F' N' _ => h2 hn h' b F' N') hs hg
end

section
section
variable (prog : Program) (w : World) (K : Frag) (p : Program) (loose : List Str)
/-- what is to be walked of a pure def whose names a block of its own closes over -/
def PureBodyC (d u : Nat) (f : Addr) (qual : Str) (scope : Scope) (cdv : Value) (body : List Stmt) (binds : List (Str × Value)) (P : Heap → Prop) (r : Value → Heap → Prop) : Prop :=
  ∀ (mean : ExcName → Option Value) (mg mb : Str → Option Value) (outer : List Env) (base g : Heap) (L : Addr) (s : Shared) (cells : List (Addr × Obj)),
    Below (nomA d u outer) base outer g → Fr g L s.heap (bindL (envOfC qual scope L f cdv).kindOf binds fun _ => none) → News g L s.heap cells →
    CellsAre (bindC (envOfC qual scope L f cdv).kindOf binds fun _ => none) (cellsFrom (L + 1) scope.names []) cells → K.In g → Top p loose mean mg mb g → P g →
    wpAny (model prog w) ((nomA d u outer).deeper (envOfC qual scope L f cdv)) (execs body (envOfC qual scope L f cdv)) (PureEnd g r s) (fun _ _ => False) s
end
section
variable {prog : Program} {w : World} {K : Frag} {p : Program} {loose : List Str} {d u : Nat} {f : Addr} {args : List Value} {P : Heap → Prop} {r : Value → Heap → Prop}
theorem PureF.enterC {name qual : Str} {params : Arguments} {body : List Stmt} {scope : Scope} {dV kV doc pm cdv ct oc : Value} {an od : Option Addr} {osl : Array (Option Value)} {binds : List (Str × Value)}
    (ho : K.lookup f = some ⟨oc, od, .func (fnOf name qual params body scope dV kV doc pm an cdv ct), osl⟩) (hcd : codeIn K cdv qual = true) (hroom : d < recursionLimit)
    (hbind : bindArgs (fnOf name qual params body scope dV kV doc pm an cdv ct) ⟨args, []⟩ = pure binds)
    (hkind : (binds.all fun y => scope.names.lookup y.1 == some .local || scope.names.lookup y.1 == some .cell) = true)
    (hnd : ((cellsFrom 0 scope.names []).map (·.1)).Nodup)
    (hco : scope.isCoroutine = false) (hgen : scope.isGenerator = false) (hk : scope.kind = .function)
    (h : PureBodyC prog w K p loose d u f qual scope cdv body binds P r) : PureF prog w K p loose d u f args P r := by
  intro mean mg mb envs base s Q E B X T hp hq
  have hb : BindsTo s (fnX name qual params body scope [] dV kV doc pm an cdv ct) ⟨args, []⟩ binds := .of_eq hbind
  refine wpAny_call (codeAny_call_function (fd := fnX name qual params body scope [] dV kV doc pm an cdv ct) hroom (X _ _ ho) rfl hco hgen rfl (codeRec_of X hcd) (hb _ _ _ _ ?_))
  refine wpAny_newFunctionEnv_cells hk (kindsX hkind _) fun env' he s' x => ?_
  subst he
  refine ⟨T.nolimit.keeps x.toInCall.keep, codeAny_func ?_⟩
  obtain ⟨h₁, tk, rfl, _⟩ := x.done
  have hk₁ := x.toInCall.keep
  obtain ⟨cells, NC, Y⟩ := Cl.news (h₀ := s.heap) (Nat.le_refl _) fun n c hm => ⟨x.cell n c (lookup_of_mem_nodup (cellsFrom_names scope.names 0 (s.heap.objs.size + 1) [] [] rfl ▸ hnd) hm), x.above n c hm⟩
  have F₁ : Fr s.heap s.heap.objs.size h₁ (bindL (envOfC qual scope s.heap.objs.size f cdv).kindOf binds fun _ => none) := ⟨x.toInCall.ns, fun b o e => hk₁ b o e, Nat.le_refl _⟩
  refine wpAny_mono (h mean mg mb envs base s.heap s.heap.objs.size { s with heap := h₁, toks := tk } cells B F₁ NC Y X T hp) (fun fl s' he => ?_) fun _ _ y => y.elim
  obtain ⟨h', tk', L', m', rfl, F', hr⟩ := he
  exact hq _ h' tk' F'.keep hr
end

/-- a word for the walk: the function that is meant -/
def QMark {α : Sort _} (_ : α) : Prop := True
inductive All2 {α : Type} (R : α → Value → Prop) : List Value → List α → Prop
  | nil : All2 R [] []
  | cons {k : α} {v : Value} {ks : List α} {vs : List Value} : R k v → All2 R vs ks → All2 R (v :: vs) (k :: ks)
theorem All2.append {α : Type} {R : α → Value → Prop} {vs ws : List Value} {ks js : List α} (x : All2 R vs ks) (y : All2 R ws js) : All2 R (vs ++ ws) (ks ++ js) := by
  induction x with
  | nil => exact y
  | cons h _ ih => exact .cons h ih
theorem All2.length {α : Type} {R : α → Value → Prop} {vs : List Value} {ks : List α} (x : All2 R vs ks) : vs.length = ks.length := by
  induction x with
  | nil => rfl
  | cons h _ ih => simp [ih]
theorem All2.mono {α : Type} {R R' : α → Value → Prop} {vs : List Value} {ks : List α} (x : All2 R vs ks) (h : ∀ k v, R k v → R' k v) : All2 R' vs ks := by
  induction x with
  | nil => exact .nil
  | cons a _ ih => exact .cons (h _ _ a) ih
theorem All2.get {α : Type} {R : α → Value → Prop} {vs : List Value} {ks : List α} (x : All2 R vs ks) : ∀ (i : Nat) (k : α), ks[i]? = some k → ∃ v, vs[i]? = some v ∧ R k v := by
  induction x with
  | nil => intro i k h; simp at h
  | cons a _ ih =>
    intro i k h
    cases i with
    | zero => simp at h; subst h; exact ⟨_, by simp, a⟩
    | succ i => simpa using ih i k (by simpa using h)
/-- values that are pairs of ints -/
abbrev PairsAre (h : Heap) : List Value → List (Int × Int) → Prop := All2 fun p v => PairV h v p
def pairD (p : Int × Int) : PyData := .tuple [.int p.1, .int p.2]
theorem pairs_reads {h : Heap} {vs : List Value} {ps : List (Int × Int)} (x : PairsAre h vs ps) : ReadsAll h vs (ps.map pairD) [] := by
  induction x with
  | nil => exact .nil
  | cons a _ ih =>
    obtain ⟨b, t, u, rfl, o, h1, h2, n, h3⟩ := a
    exact ReadsAll.cons (as := []) (reads_tuple_at h1 h2 h3 (.cons (as := []) (.int _ _) (.cons (as := []) (.int _ _) .nil))) ih
theorem pairs_lay : ∀ ps : List (Int × Int), PyData.canLayAll0 (ps.map pairD) = true
  | [] => rfl
  | p :: r => by simp [PyData.canLayAll0, pairD, PyData.canLay0, pairs_lay r]
theorem pairs_depth : ∀ ps : List (Int × Int), PyData.depthAll (ps.map pairD) ≤ 1
  | [] => by simp [PyData.depthAll]
  | p :: r => by
    have := pairs_depth r
    simp only [List.map_cons, PyData.depthAll, pairD, PyData.depth]
    omega
theorem pairs_shaped (ps : List (Int × Int)) : SeqAt.shaped (.list (ps.map pairD)) = true := by
  have := pairs_depth ps
  simp only [SeqAt.shaped, PyData.canLay0, PyData.depth, pairs_lay, Bool.true_and]
  exact decide_eq_true (by omega)
/-- is a list of pairs empty? -/
theorem ne_nil_pairs {prog : Program} {w : World} {A : Around} {E : Value → Shared → Prop} {s : Shared} {a b : Addr} {ys : List Value} {ps : List (Int × Int)} {Q : Value → Shared → Prop} (ha : s.heap.IsList a ys.toArray) (hb : s.heap.IsList b (#[] : Array Value))
    (hP : PairsAre s.heap ys ps) (hu : A.units + 64 < cLine) (h : Q (.bool (!ps.isEmpty)) s) : wpAny (model prog w) A (compareOp .NotEq (.ref a) (.ref b)) Q E s := by
  obtain ⟨oa, ha1, ha2, na, ha3⟩ := ha
  obtain ⟨ob, hb1, hb2, nb, hb3⟩ := hb
  refine ne_dataH (reads_list_at ha1 ha2 ha3 (by simpa using pairs_reads hP)) (reads_list_at hb1 hb2 hb3 .nil) (pairs_shaped _) rfl hu ?_
  cases ps with
  | nil => exact h
  | cons p r => exact h
/-! filters over a list of pairs that stands -/
section
variable {prog : Program} {w : World} {A : Around} {E : Value → Shared → Prop} {s : Shared} {h₀ : Heap} {L : Addr} {m : Str → Option Value} {env : Env}
theorem rest_any {ct : Expr} {x : Str} {px : Pos} {scope : Scope} {cl : List (Str × Addr)} {S : List (Addr × Obj) → Prop} {P : Nat → Value → Prop} {Fin : List Value → List (Addr × Obj) → Prop} {n : Nat} {news : List (Addr × Obj)} {α : Type} {ks : List α} (q : α → Bool) (R : α → Value → Prop)
    (hS : ∀ nw, S nw) (hn : ks.length = n) (hP : ∀ i v, i < n → P i v → ∃ k, ks[i]? = some k ∧ R k v)
    (hlx : ∀ C, (compEnvC scope cl C env).kindOf x = some .local) (hkx : ∀ C, (compEnvC scope cl C env).scope.kind = .function) (hdx : (x == ("__debug__" : Str)) = false)
    (turn : ∀ k v I oI C oC D m₂ ys h tk (E' : Value → Shared → Prop), k ∈ ks → R k v → LCg.NsObj oC m₂ → m₂ x = some v → Fr h₀ L h m → News h₀ L h ((I, oI) :: (C, oC) :: (D, LCg.lst ys) :: news) → LCg.Off3 I C D news → ((@Ne Nat I C) ∧ (@Ne Nat I D) ∧ (@Ne Nat C D)) →
      wpAny (model prog w) A (isTrue ct (compEnvC scope cl C env) (eval ct (compEnvC scope cl C env))) (TestEnd h₀ L m ((I, oI) :: (C, oC) :: (D, LCg.lst ys) :: news) { s with heap := h, toks := tk } (q k)) E' { s with heap := h, toks := tk })
    (fin : ∀ ys, All2 R ys (ks.filter q) → Fin ys news) : LCt.CompRestT prog w A h₀ L m env ct (.Name x px) x scope cl s S P Fin n 0 [] news := by
  have key : ∀ (j i : Nat) (ys : List Value), i + j = n → All2 R ys ((ks.take i).filter q) → LCt.CompRestT prog w A h₀ L m env ct (.Name x px) x scope cl s S P Fin j i ys news := by
    intro j
    induction j with
    | zero =>
      intro i ys hi hy
      have e : i = ks.length := by omega
      rw [e, List.take_length] at hy
      exact fin ys hy
    | succ j ih =>
      intro i ys hi hy
      refine LCt.CompRestT.succ ?_
      intro v I oI C oC D m₂ h tk E' hv hC hx F N off ne
      obtain ⟨k, hk, hR⟩ := hP i v (by omega) hv
      have htake : (ks.take (i + 1)).filter q = (ks.take i).filter q ++ [k].filter q := by rw [List.take_add_one, hk, List.filter_append]; rfl
      refine wpAny_mono (turn k v I oI C oC D m₂ ys h tk E' (List.mem_of_getElem? hk) hR hC hx F N off ne) (fun ok s' hq => ?_) fun _ _ e => e
      obtain ⟨rfl, h', tk', rfl, F', N'⟩ := hq
      cases hp : q k with
      | true =>
        simp only [if_true]
        refine wpAny_Name (wpAny_loadName_local (hkx C) (hlx C) (hC.ns (N' (C, oC) (by simp)).1) hx ?_) hdx
        refine LCg.CompEnd.intro F' N' news (fun q hq => hq) off (hS _) (ih (i + 1) _ (by omega) ?_)
        rw [htake]
        simp only [List.filter_cons, hp, if_true, List.filter_nil]
        exact hy.append (.cons hR .nil)
      | false =>
        simp only [Bool.false_eq_true, if_false]
        refine LCg.CompEnd.intro F' N' news (fun q hq => hq) off (hS _) (ih (i + 1) _ (by omega) ?_)
        rw [htake]
        simpa [hp] using hy
  exact key n 0 [] (by omega) (by simp only [List.take_zero, List.filter_nil]; exact .nil)

theorem SeqSrc.pairs {ct : Expr} {x : Str} {px : Pos} {scope : Scope} {cl : List (Str × Addr)} {Q : Value → Shared → Prop} {a : Addr} {vs : List Value} {ps : List (Int × Int)} {news : List (Addr × Obj)} {q : Int × Int → Bool} (_hm : QMark q)
    (hh : A.handled = none) (F : Fr h₀ L s.heap m) (N : News h₀ L s.heap news) (S : RangesV h₀ a vs ps)
    (hlx : ∀ C, (compEnvC scope cl C env).kindOf x = some .local) (hkx : ∀ C, (compEnvC scope cl C env).scope.kind = .function) (hdx : (x == ("__debug__" : Str)) = false)
    (turn : ∀ k b t u I oI C oC D m₂ ys h tk (E' : Value → Shared → Prop), IsTup h₀ b #[.int k.1 t, .int k.2 u] → LCg.NsObj oC m₂ → m₂ x = some (.ref b) → Fr h₀ L h m → News h₀ L h ((I, oI) :: (C, oC) :: (D, LCg.lst ys) :: news) → LCg.Off3 I C D news → ((@Ne Nat I C) ∧ (@Ne Nat I D) ∧ (@Ne Nat C D)) →
      wpAny (model prog w) A (isTrue ct (compEnvC scope cl C env) (eval ct (compEnvC scope cl C env))) (TestEnd h₀ L m ((I, oI) :: (C, oC) :: (D, LCg.lst ys) :: news) { s with heap := h, toks := tk } (q k)) E' { s with heap := h, toks := tk })
    (fin : ∀ ys D h tk, PairsAre h₀ ys (ps.filter q) → Fr h₀ L h m → News h₀ L h ((D, LCg.lst ys) :: news) → LCg.Off1 D news → Q (.ref D) { s with heap := h, toks := tk }) :
    SeqSrc prog w A h₀ L m env ct (.Name x px) x scope cl Q (.ref a) s := by
  refine ⟨a, vs.toArray, news, rfl, hh, F, N, .inl S.1, by have := S.2.2.2; have := S.2.1; rw [List.size_toArray, sizeLine_eq]; omega, fun g T hT => ?_⟩
  refine rest_any (ks := ps) (R := fun k v => ∃ b t u, v = .ref b ∧ IsTup h₀ b #[.int k.1 t, .int k.2 u]) q hT (by rw [List.size_toArray, S.2.1]) (fun i v hi' hv => ?_) hlx hkx hdx ?_ ?_
  · have e : vs[i]? = some v := by simpa using hv
    rw [List.size_toArray, S.2.1] at hi'
    obtain ⟨v', z, pv⟩ := S.2.2.1 i ps[i] (by simp [hi'])
    rw [e] at z
    cases z
    exact ⟨ps[i], by simp [hi'], pv⟩
  · rintro k v I oI C oC D m₂ ys h tk E' hk ⟨b, t, u, rfl, hT⟩ hC hx F' N' off ne
    exact turn k b t u I oI C oC D m₂ ys h tk E' hT hC hx F' N' off ne
  · intro ys hy D h tk F' N' o1
    exact fin ys D h tk hy F' N' o1
end
theorem filter_holds {ps : List (Int × Int)} {c : Int} : (!(ps.filter fun p => decide (p.1 ≤ c) && decide (c ≤ p.2)).isEmpty) = holdsR ps c := by
  rw [Bool.eq_iff_iff]
  unfold holdsR
  simp [List.any_eq_true, List.filter_eq_nil_iff]
theorem and_no {p q : Prop} [Decidable p] [Decidable q] (h : ¬ p) : false = (decide p && decide q) := by simp [h]
theorem and_yes {p q : Prop} [Decidable p] [Decidable q] (h : p) : decide q = (decide p && decide q) := by simp [h]

/-! a def that hands back a new list of ints -/
def newL (g₀ : Heap) (ns : List Int) : Value → Heap → Prop := fun v h' => ∃ a ys, v = .ref a ∧ h'.get? a = some (LCg.lst ys) ∧ g₀.get? a = none ∧ IntsAre ys ns
theorem newL.intro {g₀ h' : Heap} {ns : List Int} {L a : Addr} {ys : List Value} {news : List (Addr × Obj)} (N : News g₀ L h' news) (hm : (a, LCg.lst ys) ∈ news) (hi : IntsAre ys ns) : newL g₀ ns (.ref a) h' := ⟨a, ys, rfl, (N _ hm).1, (N _ hm).2.2, hi⟩
section
variable (prog : Program) (w : World) (K : Frag) (p : Program) (loose : List Str)
def ListF (d u : Nat) (f : Addr) (args : List Value) (P : Heap → Prop) (ns : List Int) : Prop :=
  ∀ g₀, PureF prog w K p loose d u f args (fun h => h = g₀ ∧ P h) (newL g₀ ns)
end
section
variable {prog : Program} {w : World} {K : Frag} {p : Program} {loose : List Str} {d u : Nat} {f : Addr} {args : List Value} {P : Heap → Prop} {ns : List Int}
theorem ListF.use (S : ListF prog w K p loose d u f args P ns) {A A₀ : Around} {mean : ExcName → Option Value} {mg mb : Str → Option Value} {env : Env} {outer : List Env} {base h₀ : Heap} {L : Addr} {m : Str → Option Value} {news : List (Addr × Obj)} {s : Shared} {Q E : Value → Shared → Prop}
    (B : Below A₀ base outer h₀) (F : Fr h₀ L s.heap m) (X : K.In h₀) (N : News h₀ L s.heap news) (T : Top p loose mean mg mb h₀) (hA : A.frames = some (env :: outer)) (hh : A.handled = none) (hd : A.depth ≤ d) (hu : A.units ≤ u)
    (hf : env.frame = some L) (hk : env.scope.kind = .function) (hp : P s.heap)
    (ret : ∀ a ys h' tk, Grown s.heap h' → Fr h₀ L h' m → News h₀ L h' ((a, LCg.lst ys) :: news) → IntsAre ys ns → Q (.ref a) { s with heap := h', toks := tk }) :
    wpAny (model prog w) A (call (.ref f) args) Q E s := by
  refine PureF.use (S s.heap) B F X N T hA hh hd hu hf hk ⟨rfl, hp⟩ ?_
  rintro v h' tk G F' N' ⟨a, ys, rfl, h1, h2, hi⟩
  refine ret a ys h' tk G F' (fun q hq => ?_) hi
  rcases List.mem_cons.mp hq with rfl | hq
  · refine ⟨h1, fun z => ?_, ?_⟩
    · have z' : a = L := z
      have := nsLt F
      rw [← z'] at this
      obtain ⟨oL, es, ep, e, _⟩ := F.ns
      rw [← z', h2] at e; cases e
    · cases q : h₀.get? a with
      | none => rfl
      | some o => rw [F.keep _ _ q] at h2; cases h2
  · exact N' q hq
end
theorem SeqI.one {h₀ h : Heap} {L l : Addr} {news : List (Addr × Obj)} {c : Int} {t : Tok} {n : Nat} (N : News h₀ L h news) (hm : (l, PySem.W.listOf #[.int c t] n) ∈ news) : SeqI h l [c] :=
  ⟨[.int c t], .inl ⟨_, (N _ hm).1, rfl, _, rfl⟩, .cons _ _ .nil, by simp⟩
theorem SeqI.led {h₀ h : Heap} {L l : Addr} {news : List (Addr × Obj)} {ws : List Value} {ns : List Int} {n : Nat} (N : News h₀ L h news) (hm : (l, PySem.W.listOf ws.toArray n) ∈ news) (hi : IntsAre ws ns) (hb : ns.length ≤ 1000) : SeqI h l ns :=
  ⟨ws, .inl ⟨_, (N _ hm).1, rfl, _, rfl⟩, hi, hb⟩
section
variable {prog : Program} {w : World} {A : Around} {E : Value → Shared → Prop} {s : Shared} {a b : Addr} {xs : List Value} {ns : List Int} {Q : Value → Shared → Prop}
theorem dec_len : decide (ns = []) = decide ((ns.length : Int) = 0) := by cases ns <;> simp; omega
theorem eq_nil_ints (ha : s.heap.IsList a xs.toArray) (hb : s.heap.IsList b (#[] : Array Value)) (hi : IntsAre xs ns) (hu : A.units + 64 < cLine) (h : Q (.bool (decide ((ns.length : Int) = 0))) s) :
    wpAny (model prog w) A (compareOp .Eq (.ref a) (.ref b)) Q E s := ke_eq_ints (ys := []) (ms := []) ha hb hi .nil hu (by rw [dec_len]; exact h)
theorem ne_nil_ints (ha : s.heap.IsList a xs.toArray) (hb : s.heap.IsList b (#[] : Array Value)) (hi : IntsAre xs ns) (hu : A.units + 64 < cLine) (h : Q (.bool (!decide ((ns.length : Int) = 0))) s) :
    wpAny (model prog w) A (compareOp .NotEq (.ref a) (.ref b)) Q E s := ke_ne_ints (ys := []) (ms := []) ha hb hi .nil hu (by rw [dec_len]; exact h)
end
theorem seqI_lenH {prog : Program} {w : World} {A : Around} {E : Value → Shared → Prop} {s : Shared} {a : Addr} {ns : List Int} {Q : Value → Shared → Prop} (S : SeqI s.heap a ns) (h : ∀ t tk, Q (.int (ns.length : Int) t) { s with toks := tk }) :
    wpAny (model prog w) A (call (.builtin "len") [.ref a]) Q E s := by
  obtain ⟨vs, S, hi, hb⟩ := S
  have e : (vs.toArray.size : Int) = (ns.length : Int) := by rw [List.size_toArray, hi.length]
  rcases S with S | S
  · refine call_len_list S (by omega) ?_
    rw [e]; exact h _ _
  · refine PyProof.Rows.len_tuple S (by omega) ?_
    rw [e]; exact h _ _
theorem lastI_z {ns : List Int} : ns.getD (-1 + (ns.length : Int)).toNat 0 = lastI ns 1 := by unfold lastI; congr 1; omega
theorem lastI_t {ns : List Int} (h : 1 < (ns.length : Int)) : (ns.take (ns.length - 1)).getD (-1 + ((ns.take (ns.length - 1)).length : Int)).toNat 0 = lastI ns 2 := by
  rw [lastI_z]
  unfold lastI
  rw [List.length_take, Nat.min_eq_left (by omega)]
  simp only [List.getD_eq_getElem?_getD]
  rw [List.getElem?_take_of_lt (by omega)]
  congr 2
theorem headI_z {ns : List Int} : ns.getD (Int.toNat 0) 0 = ns.getD 0 0 := rfl
theorem bare_1 {ns : List Int} (h : 1 < (ns.length : Int)) (e : lastI ns 1 = 65039) : bareN ns = lastI ns 2 := by rw [bareN, if_pos ⟨by omega, e⟩]
theorem bare_2 {ns : List Int} (e : lastI ns 1 ≠ 65039) : bareN ns = lastI ns 1 := by rw [bareN, if_neg fun x => e x.2]
theorem bare_3 {ns : List Int} (h : ¬ 1 < (ns.length : Int)) : bareN ns = lastI ns 1 := by rw [bareN, if_neg fun x => h (by omega)]
theorem regs_1 {c : Int} : (([c].filter isReg).length : Int) = 0 ↔ ¬ (127462 ≤ c ∧ c ≤ 127487) := by
  by_cases h : 127462 ≤ c ∧ c ≤ 127487
  · simp [isReg_t h]; omega
  · simp [isReg_f h]; omega
theorem regs_last {ns : List Int} (h : ¬ (ns.length : Int) = 0) : ns.drop (ns.length - 1) = [lastI ns 1] := by
  rw [List.drop_eq_getElem_cons (by omega), List.drop_eq_nil_of_le (by omega)]
  unfold lastI
  rw [List.getD_eq_getElem?_getD, List.getElem?_eq_getElem (by omega)]
  rfl
section
variable {W M J : List (Int × Int)} {ns : List Int} {c : Int}
theorem lj_3 (h : ¬ (ns.length : Int) = 0) (hw : widthR W M c ≠ 0) (hc : (([c].filter isReg).length : Int) = 0) (h1 : 127995 ≤ c) (h2 : c ≤ 127999) (hl : 1 < (ns.length : Int)) (e : ns.getD (-1 + (ns.length : Int)).toNat 0 = 65039) :
    holdsR J ((ns.take (ns.length - 1)).getD (-1 + ((ns.take (ns.length - 1)).length : Int)).toNat 0) = joinsN W M J ns c := by
  rw [lastI_t hl, joins_4 h hw (regs_1.mp hc) ⟨h1, h2⟩, bare_1 hl (lastI_z ▸ e)]
theorem lj_4 (h : ¬ (ns.length : Int) = 0) (hw : widthR W M c ≠ 0) (hc : (([c].filter isReg).length : Int) = 0) (h1 : 127995 ≤ c) (h2 : c ≤ 127999) (e : ns.getD (-1 + (ns.length : Int)).toNat 0 ≠ 65039) :
    holdsR J (ns.getD (-1 + (ns.length : Int)).toNat 0) = joinsN W M J ns c := by
  rw [joins_4 h hw (regs_1.mp hc) ⟨h1, h2⟩, bare_2 (lastI_z ▸ e), lastI_z]
theorem lj_5 (h : ¬ (ns.length : Int) = 0) (hw : widthR W M c ≠ 0) (hc : (([c].filter isReg).length : Int) = 0) (h1 : 127995 ≤ c) (h2 : c ≤ 127999) (hl : ¬ 1 < (ns.length : Int)) :
    holdsR J (ns.getD (-1 + (ns.length : Int)).toNat 0) = joinsN W M J ns c := by
  rw [joins_4 h hw (regs_1.mp hc) ⟨h1, h2⟩, bare_3 hl, lastI_z]
theorem lj_6 (h : ¬ (ns.length : Int) = 0) (hw : widthR W M c ≠ 0) (hc : (([c].filter isReg).length : Int) = 0) (hm : ¬ c ≤ 127999 ∨ ¬ 127995 ≤ c) (e : ns.getD (-1 + (ns.length : Int)).toNat 0 = 8205) (hj : holdsR J c = true) :
    holdsR J (ns.getD (Int.toNat 0) 0) = joinsN W M J ns c := by
  rw [joins_5 h hw (regs_1.mp hc) (by omega), ← lastI_z, decide_eq_true e, hj]; rfl
theorem lj_7 (h : ¬ (ns.length : Int) = 0) (hw : widthR W M c ≠ 0) (hc : (([c].filter isReg).length : Int) = 0) (hm : ¬ c ≤ 127999 ∨ ¬ 127995 ≤ c) (e : ns.getD (-1 + (ns.length : Int)).toNat 0 = 8205) (hj : holdsR J c = false) :
    holdsR J c = joinsN W M J ns c := by
  rw [joins_5 h hw (regs_1.mp hc) (by omega), ← lastI_z, decide_eq_true e, hj]; rfl
theorem lj_8 (h : ¬ (ns.length : Int) = 0) (hw : widthR W M c ≠ 0) (hc : (([c].filter isReg).length : Int) = 0) (hm : ¬ c ≤ 127999 ∨ ¬ 127995 ≤ c) (e : ns.getD (-1 + (ns.length : Int)).toNat 0 ≠ 8205) :
    (ns.getD (-1 + (ns.length : Int)).toNat 0 == 8205) = joinsN W M J ns c := by
  rw [joins_5 h hw (regs_1.mp hc) (by omega), ← lastI_z, decide_eq_false e, beq_eq_false_iff_ne.mpr e]; rfl
theorem lj_r (h : ¬ (ns.length : Int) = 0) (hw : widthR W M c ≠ 0) (hc : ¬ (([c].filter isReg).length : Int) = 0) : joinsN W M J ns c = (isReg (lastI ns 1) && decide ((ns.filter isReg).length = 1)) := by
  have hc' : 127462 ≤ c ∧ c ≤ 127487 := Classical.byContradiction fun q => hc (regs_1.mpr q)
  rw [joinsN, if_neg (by omega), if_neg hw, if_pos (isReg_t hc')]
theorem lj_12 (h : ¬ (ns.length : Int) = 0) (hw : widthR W M c ≠ 0) (hc : ¬ (([c].filter isReg).length : Int) = 0) (h1 : ((ns.filter isReg).length : Int) = 1) :
    (!decide ((((ns.drop (ns.length - 1)).filter isReg).length : Int) = 0)) = joinsN W M J ns c := by
  rw [lj_r h hw hc, regs_last h, decide_eq_true (show (ns.filter isReg).length = 1 by omega), Bool.and_true]
  by_cases q : 127462 ≤ lastI ns 1 ∧ lastI ns 1 ≤ 127487
  · rw [isReg_t q, decide_eq_false fun z => regs_1.mp z q]; rfl
  · rw [isReg_f q, decide_eq_true (regs_1.mpr q)]; rfl
theorem lj_13 (h : ¬ (ns.length : Int) = 0) (hw : widthR W M c ≠ 0) (hc : ¬ (([c].filter isReg).length : Int) = 0) (h1 : ((ns.filter isReg).length : Int) ≠ 1) :
    (((ns.filter isReg).length : Int) == 1) = joinsN W M J ns c := by
  rw [lj_r h hw hc, decide_eq_false (show ¬ (ns.filter isReg).length = 1 by omega), Bool.and_false]
  exact beq_eq_false_iff_ne.mpr h1
end
end

section
/-! a def that changes objects of its caller's -/
abbrev adrs (l : List (Addr × Obj)) : List Addr := l.map (·.1)
theorem adrs_one {l : List (Addr × Obj)} {a : Addr} (e : adrs l = [a]) : ∃ o, l = [(a, o)] := by
  cases l with
  | nil => cases e
  | cons x r =>
    cases r with
    | nil => obtain ⟨x1, x2⟩ := x; exact ⟨x2, by have := (List.cons.inj e).1; simp only at this; rw [this]⟩
    | cons y r => cases (List.cons.inj e).2
theorem adrs_two {l : List (Addr × Obj)} {a b : Addr} (e : adrs l = [a, b]) : ∃ o o', l = [(a, o), (b, o')] := by
  cases l with
  | nil => cases e
  | cons x r =>
    obtain ⟨x1, x2⟩ := x
    obtain ⟨e1, e2⟩ := List.cons.inj e
    obtain ⟨o', rfl⟩ := adrs_one (l := r) e2
    simp only at e1
    subst e1
    exact ⟨x2, o', rfl⟩
def MutEnd (g : Heap) (own : List (Addr × Obj)) (r : Value → List (Addr × Obj) → Heap → Prop) (s : Shared) (f : Flow) (s' : Shared) : Prop :=
  ∃ h' tk L m own', s' = { s with heap := h', toks := tk } ∧ Fr g L h' m ∧ News g L h' own' ∧ adrs own' = adrs own ∧ r (match f with | .ret v => v | _ => .none) own' h'
theorem MutEnd.intro {g : Heap} {own own' all : List (Addr × Obj)} {r : Value → List (Addr × Obj) → Heap → Prop} {s : Shared} {f : Flow} {h' : Heap} {tk : Nat} {L : Addr} {m : Str → Option Value} (F : Fr g L h' m) (N : News g L h' all)
    (sub : ∀ p ∈ own', p ∈ all) (ha : adrs own' = adrs own) (hr : r (match f with | .ret v => v | _ => .none) own' h') : MutEnd g own r s f { s with heap := h', toks := tk } := ⟨h', tk, L, m, own', rfl, F, fun p hp => N p (sub p hp), ha, hr⟩

theorem MutEnd.intro2 {g : Heap} {all : List (Addr × Obj)} {a b : Addr} {oa ob oa' ob' : Obj} {r : Value → List (Addr × Obj) → Heap → Prop} {s : Shared} {f : Flow} {h' : Heap} {tk : Nat} {L : Addr} {m : Str → Option Value} (F : Fr g L h' m) (N : News g L h' all)
    (ha : (a, oa') ∈ all) (hb : (b, ob') ∈ all) (hr : r (match f with | .ret v => v | _ => .none) [(a, oa'), (b, ob')] h') : MutEnd g [(a, oa), (b, ob)] r s f { s with heap := h', toks := tk } :=
  MutEnd.intro (own' := [(a, oa'), (b, ob')]) F N (fun p hp => by
    rcases List.mem_cons.mp hp with rfl | hp
    · exact ha
    · rw [List.mem_singleton.mp hp]; exact hb) rfl hr
theorem MutEnd.intro1 {g : Heap} {all : List (Addr × Obj)} {a : Addr} {oa oa' : Obj} {r : Value → List (Addr × Obj) → Heap → Prop} {s : Shared} {f : Flow} {h' : Heap} {tk : Nat} {L : Addr} {m : Str → Option Value} (F : Fr g L h' m) (N : News g L h' all)
    (ha : (a, oa') ∈ all) (hr : r (match f with | .ret v => v | _ => .none) [(a, oa')] h') : MutEnd g [(a, oa)] r s f { s with heap := h', toks := tk } :=
  MutEnd.intro (own' := [(a, oa')]) F N (fun p hp => by rw [List.mem_singleton.mp hp]; exact ha) rfl hr

section
variable (prog : Program) (w : World) (K : Frag) (p : Program) (loose : List Str)
def MutF (d u : Nat) (f : Addr) (args : List Value) (own : List (Addr × Obj)) (P : Heap → Prop) (r : Value → List (Addr × Obj) → Heap → Prop) : Prop :=
  ∀ (mean : ExcName → Option Value) (mg mb : Str → Option Value) (envs : List Env) (base : Heap) (s : Shared) (Q E : Value → Shared → Prop),
    Below (nomA d u envs) base envs (hideAll s.heap (adrs own)) → K.In (hideAll s.heap (adrs own)) → Top p loose mean mg mb (hideAll s.heap (adrs own)) → (∀ q ∈ own, s.heap.get? q.1 = some q.2) → P (hideAll s.heap (adrs own)) →
    (∀ v h' tk own', adrs own' = adrs own → (∀ b o, b ∉ adrs own → s.heap.get? b = some o → h'.get? b = some o) → (∀ q ∈ own', h'.get? q.1 = some q.2) → r v own' h' → Q v { s with heap := h', toks := tk }) →
    wpAny (model prog w) (nomA d u envs) (call (.ref f) args) Q E s
def MutBody (d u : Nat) (f : Addr) (qual : Str) (scope : Scope) (cdv : Value) (body : List Stmt) (binds : List (Str × Value)) (own : List (Addr × Obj)) (P : Heap → Prop) (r : Value → List (Addr × Obj) → Heap → Prop) : Prop :=
  ∀ (mean : ExcName → Option Value) (mg mb : Str → Option Value) (outer : List Env) (base g : Heap) (L : Addr) (s : Shared),
    Below (nomA d u outer) base outer g → Fr g L s.heap (fun y => binds.reverse.lookup y) → News g L s.heap own → (∀ q ∈ own, q.1 < L) → K.In g → Top p loose mean mg mb g → P g →
    wpAny (model prog w) ((nomA d u outer).deeper (envOf qual scope L f cdv)) (execs body (envOf qual scope L f cdv)) (MutEnd g own r s) (fun _ _ => False) s
end

section
variable {prog : Program} {w : World} {K : Frag} {p : Program} {loose : List Str} {d u : Nat} {f : Addr} {args : List Value} {own : List (Addr × Obj)} {P : Heap → Prop} {r : Value → List (Addr × Obj) → Heap → Prop}
theorem MutF.enter {name qual : Str} {params : Arguments} {body : List Stmt} {scope : Scope} {dV kV doc pm cdv ct oc : Value} {an od : Option Addr} {osl : Array (Option Value)} {binds : List (Str × Value)}
    (ho : K.lookup f = some ⟨oc, od, .func (fnOf name qual params body scope dV kV doc pm an cdv ct), osl⟩) (hcd : codeIn K cdv qual = true) (hroom : d < recursionLimit)
    (hbind : bindArgs (fnOf name qual params body scope dV kV doc pm an cdv ct) ⟨args, []⟩ = pure binds) (hloc : ∀ y ∈ binds, scope.names.lookup y.1 = some .local)
    (hco : scope.isCoroutine = false) (hgen : scope.isGenerator = false) (hk : scope.kind = .function) (hcell : ∀ x ∈ scope.names, x.2 ≠ .cell)
    (h : MutBody prog w K p loose d u f qual scope cdv body binds own P r) : MutF prog w K p loose d u f args own P r := by
  intro mean mg mb envs base s Q E B X T hown hp hq
  have up : (hideAll s.heap (adrs own)).StaysIn s.heap := fun b o e => of_hideAll _ e
  refine wpAny_call (codeAny_call_def (fd := fnX name qual params body scope [] dV kV doc pm an cdv ct) (body := body) (binds := binds) hroom ((X.keeps up) _ _ ho) rfl (T.nolimit.keeps up) (codeRec_of (X.keeps up) hcd) rfl (.of_eq hbind) hcell hloc (fun h₁ hns hk₁ => ?_) hco hgen hk)
  have F₁ : Fr (hideAll s.heap (adrs own)) s.heap.objs.size h₁ (fun y => binds.reverse.lookup y) := ⟨hns, fun b o e => hk₁ b o (up b o e), Nat.le_of_eq (hideAll_size _ _)⟩
  have N₁ : News (hideAll s.heap (adrs own)) s.heap.objs.size h₁ own := fun q hq => ⟨hk₁ _ _ (hown q hq), Nat.ne_of_lt (Heap.lt_size (hown q hq)), hideAll_none _ (List.mem_map_of_mem hq)⟩
  refine wpAny_mono (h mean mg mb envs base _ s.heap.objs.size { s with heap := h₁, toks := s.toks + binds.length } B F₁ N₁ (fun q hq => Heap.lt_size (hown q hq)) X T hp) (fun fl s' he => ?_) fun _ _ y => y.elim
  obtain ⟨h', tk, L', m', own', rfl, F', N', ha, hr⟩ := he
  exact hq _ h' tk own' ha (fun b o nb e => F'.keep b o (hideAll_get _ e nb)) (fun q hq => (N' q hq).1) hr

theorem MutF.use1 {a : Addr} {oa : Obj} (S : MutF prog w K p loose d u f args [(a, oa)] P r) {A A₀ : Around} {mean : ExcName → Option Value} {mg mb : Str → Option Value} {env : Env} {outer : List Env} {base h₀ : Heap} {L : Addr} {m : Str → Option Value} {news : List (Addr × Obj)} {g1 : Obj → List (Addr × Obj)} {s : Shared} {Q E : Value → Shared → Prop}
    (B : Below A₀ base outer h₀) (F : Fr h₀ L s.heap m) (X : K.In h₀) (N : News h₀ L s.heap news) (T : Top p loose mean mg mb h₀) (hA : A.frames = some (env :: outer)) (hh : A.handled = none) (hd : A.depth ≤ d) (hu : A.units ≤ u)
    (hf : env.frame = some L) (hk : env.scope.kind = .function) (U1 : UpdF a oa news g1) (hp : P (hideAll s.heap [a]))
    (ret : ∀ v h' tk oa', Fr h₀ L h' m → News h₀ L h' (g1 oa') → r v [(a, oa')] h' → Q v { s with heap := h', toks := tk }) :
    wpAny (model prog w) A (call (.ref f) args) Q E s := by
  obtain ⟨pre, post, rfl, hg, h1, h2⟩ := U1.split
  have N0 : News h₀ L s.heap [(a, oa)] := fun q hq => N q (by rw [List.mem_singleton.mp hq]; simp)
  obtain ⟨FG, BG, st, _⟩ := groundX (A := nomA d u (env :: outer)) (R := fun _ _ => True) B F N0 rfl hf hk
  have ha := N0 (a, oa) (by simp)
  refine wp_nom (S mean mg mb (env :: outer) base s Q E BG (X.keeps st) (T.keeps st) (fun q hq => (N0 q hq).1) hp ?_) hh hd hA hu
  intro v h' tk own' hadr keep hown hr
  obtain ⟨oa', rfl⟩ := adrs_one hadr
  have old : ∀ b o, h₀.get? b = some o → h'.get? b = some o := fun b o e => keep b o (fun hm => by rw [List.mem_singleton.mp hm] at e; rw [ha.2.2] at e; cases e) (F.keep b o e)
  refine ret v h' tk oa' ⟨F.ns.at' fun o e => keep L o (fun hm => ha.2.1 (List.mem_singleton.mp hm).symm) e, old, F.above⟩ ?_ hr
  rw [hg]
  intro q hq
  rcases List.mem_append.mp hq with hq | hq
  · have z := N q (List.mem_append_left _ hq)
    exact ⟨keep _ _ (fun hm => h1 q hq (List.mem_singleton.mp hm)) z.1, z.2⟩
  · rcases List.mem_cons.mp hq with rfl | hq
    · exact ⟨hown _ (by simp), ha.2⟩
    · have z := N q (List.mem_append_right _ (List.mem_cons_of_mem _ hq))
      exact ⟨keep _ _ (fun hm => h2 q hq (List.mem_singleton.mp hm)) z.1, z.2⟩

theorem MutF.use2 {a b : Addr} {oa ob : Obj} (S : MutF prog w K p loose d u f args [(a, oa), (b, ob)] P r) {A A₀ : Around} {mean : ExcName → Option Value} {mg mb : Str → Option Value} {env : Env} {outer : List Env} {base h₀ : Heap} {L : Addr} {m : Str → Option Value} {news : List (Addr × Obj)} {g1 : Obj → List (Addr × Obj)} {g2 : Obj → Obj → List (Addr × Obj)} {s : Shared} {Q E : Value → Shared → Prop}
    (B : Below A₀ base outer h₀) (F : Fr h₀ L s.heap m) (X : K.In h₀) (N : News h₀ L s.heap news) (T : Top p loose mean mg mb h₀) (hA : A.frames = some (env :: outer)) (hh : A.handled = none) (hd : A.depth ≤ d) (hu : A.units ≤ u)
    (hf : env.frame = some L) (hk : env.scope.kind = .function) (U1 : UpdF a oa news g1) (U2 : ∀ o', UpdF b ob (g1 o') (g2 o')) (hp : P (hideAll s.heap [a, b]))
    (ret : ∀ v h' tk oa' ob', Fr h₀ L h' m → News h₀ L h' (g2 oa' ob') → r v [(a, oa'), (b, ob')] h' → Q v { s with heap := h', toks := tk }) :
    wpAny (model prog w) A (call (.ref f) args) Q E s := by
  obtain ⟨pre, post, rfl, hg, h1, h2⟩ := U1.split
  have hb0 : (b, ob) ∈ pre ++ (a, oa) :: post := by
    obtain ⟨pre2, post2, e2, _, _, _⟩ := (U2 oa).split
    rw [hg] at e2
    rw [e2]; simp
  have N0 : News h₀ L s.heap [(a, oa), (b, ob)] := fun q hq => by
    rcases List.mem_cons.mp hq with rfl | hq
    · exact N _ (by simp)
    · rw [List.mem_singleton.mp hq]; exact N _ hb0
  obtain ⟨FG, BG, st, _⟩ := groundX (A := nomA d u (env :: outer)) (R := fun _ _ => True) B F N0 rfl hf hk
  have ha := N0 (a, oa) (by simp)
  have hb := N0 (b, ob) (by simp)
  refine wp_nom (S mean mg mb (env :: outer) base s Q E BG (X.keeps st) (T.keeps st) (fun q hq => (N0 q hq).1) hp ?_) hh hd hA hu
  intro v h' tk own' hadr keep hown hr
  obtain ⟨oa', ob', rfl⟩ := adrs_two hadr
  have nin : ∀ x, x ≠ a → x ≠ b → x ∉ adrs [(a, oa), (b, ob)] := fun x n1 n2 hm => by
    rcases List.mem_cons.mp hm with z | hm
    · exact n1 z
    · exact n2 (List.mem_singleton.mp hm)
  have old : ∀ x o, h₀.get? x = some o → h'.get? x = some o := fun x o e => keep x o (nin x (fun z => by rw [z, ha.2.2] at e; cases e) (fun z => by rw [z, hb.2.2] at e; cases e)) (F.keep x o e)
  refine ret v h' tk oa' ob' ⟨F.ns.at' fun o e => keep L o (nin L (Ne.symm ha.2.1) (Ne.symm hb.2.1)) e, old, F.above⟩ ?_ hr
  obtain ⟨pre2, post2, e2, hg2, k1, k2⟩ := (U2 oa').split
  rw [hg2]
  have rest : ∀ q ∈ pre2 ++ (b, ob) :: post2, q.1 ≠ b → h'.get? q.1 = some q.2 ∧ q.1 ≠ L ∧ h₀.get? q.1 = none := by
    intro q hq hqb
    rw [← e2, hg] at hq
    rcases List.mem_append.mp hq with hq | hq
    · have z := N q (List.mem_append_left _ hq)
      exact ⟨keep _ _ (nin _ (h1 q hq) hqb) z.1, z.2⟩
    · rcases List.mem_cons.mp hq with rfl | hq
      · exact ⟨hown _ (by simp), ha.2⟩
      · have z := N q (List.mem_append_right _ (List.mem_cons_of_mem _ hq))
        exact ⟨keep _ _ (nin _ (h2 q hq) hqb) z.1, z.2⟩
  intro q hq
  rcases List.mem_append.mp hq with hq | hq
  · exact rest q (List.mem_append_left _ hq) (k1 q hq)
  · rcases List.mem_cons.mp hq with rfl | hq
    · exact ⟨hown _ (by simp), hb.2⟩
    · exact rest q (List.mem_append_right _ (List.mem_cons_of_mem _ hq)) (k2 q hq)
end
end

section
def okR (b : Int) (ps : List (Int × Int)) (i : Nat) : Prop := prevR b ps i < (ps.getD i (0, 0)).1 ∧ (ps.getD i (0, 0)).1 ≤ (ps.getD i (0, 0)).2
theorem okR_succ {b : Int} {p : Int × Int} {r : List (Int × Int)} {i : Nat} : okR b (p :: r) (i + 1) ↔ okR p.2 r i := by
  cases i with
  | zero => simp [okR, prevR]
  | succ i => simp [okR, prevR]
theorem okR_zero {b : Int} {p : Int × Int} {r : List (Int × Int)} : okR b (p :: r) 0 ↔ (b < p.1 ∧ p.1 ≤ p.2) := by simp [okR, prevR]
theorem wrongAt_first {ps : List (Int × Int)} : ∀ {b : Int} {k i : Nat}, i < ps.length → (∀ j, j < i → okR b ps j) → ¬ okR b ps i → wrongAt b k ps = some (k + i) := by
  induction ps with
  | nil => intro b k i h; simp at h
  | cons p r ih =>
    intro b k i hi ho hn
    unfold wrongAt
    cases i with
    | zero => rw [if_neg (fun z => hn (okR_zero.mpr z))]; rfl
    | succ i =>
      rw [if_pos (okR_zero.mp (ho 0 (by omega)))]
      rw [ih (i := i) (by simpa using hi) (fun j hj => okR_succ.mp (ho (j + 1) (by omega))) (fun z => hn (okR_succ.mpr z))]
      congr 1; omega
theorem wrongAt_all {ps : List (Int × Int)} : ∀ {b : Int} {k : Nat}, (∀ j, j < ps.length → okR b ps j) → wrongAt b k ps = none := by
  induction ps with
  | nil => intro b k _; rfl
  | cons p r ih =>
    intro b k ho
    unfold wrongAt
    rw [if_pos (okR_zero.mp (ho 0 (by simp)))]
    exact ih fun j hj => okR_succ.mp (ho (j + 1) (by simpa using hj))
theorem okR_pos {ps : List (Int × Int)} {i : Nat} (h : ∀ j, j ≤ i → okR (-1) ps j) : 0 ≤ (ps.getD i (0, 0)).2 := by
  induction i with
  | zero => have := h 0 (by omega); simp only [okR, prevR, if_true] at this; omega
  | succ i ih =>
    have h1 := ih fun j hj => h j (by omega)
    have h2 := h (i + 1) (by omega)
    simp only [okR, prevR, Nat.add_one_ne_zero, if_false, Nat.add_sub_cancel] at h2
    omega
/-- the test of this law -/
theorem okR_test {ps : List (Int × Int)} {i : Nat} (h : ∀ j, j < i → okR (-1) ps j) : okR (-1) ps i ↔ ¬ ((ps.getD i (0, 0)).1 < 0) ∧ ¬ ((ps.getD i (0, 0)).2 < (ps.getD i (0, 0)).1) ∧ (0 < i → ¬ ((ps.getD i (0, 0)).1 ≤ (ps.getD (i - 1) (0, 0)).2)) := by
  cases i with
  | zero => simp only [okR, prevR, if_true]; omega
  | succ i =>
    have h1 := okR_pos (i := i) fun j hj => h j (by omega)
    simp only [okR, prevR, Nat.add_one_ne_zero, if_false, Nat.add_sub_cancel]
    omega
def isOpt (o : Option Nat) (v : Value) : Prop := match o with | none => v = .none | some i => ∃ t, v = .int i t
end

section
/-! statements one by one -/
def CutN (h₀ : Heap) (L : Addr) (J : (Str → Option Value) → List (Addr × Obj) → Prop) (s : Shared) (f : Flow) (s' : Shared) : Prop :=
  f = .next ∧ ∃ h' tk m news, s' = { s with heap := h', toks := tk } ∧ Fr h₀ L h' m ∧ News h₀ L h' news ∧ J m news
section
variable {prog : Program} {w : World} {A : Around} {E : Value → Shared → Prop} {s : Shared} {env : Env} {h₀ : Heap} {L : Addr} {x : Str} {body : List Stmt} {Q : Flow → Shared → Prop}
theorem CutN.intro {J : (Str → Option Value) → List (Addr × Obj) → Prop} {h' : Heap} {tk : Nat} {m : Str → Option Value} {all : List (Addr × Obj)} (F : Fr h₀ L h' m) (N : News h₀ L h' all) (news : List (Addr × Obj)) (sub : ∀ p ∈ news, p ∈ all) (hJ : J m news) :
    CutN h₀ L J s .next { s with heap := h', toks := tk } := ⟨rfl, h', tk, m, news, rfl, F, fun p hp => N p (sub p hp), hJ⟩
theorem cut {M : Model} {st : Stmt} {rest : List Stmt} (J : (Str → Option Value) → List (Addr × Obj) → Prop) (h : wpAny M A (exec st env) (fun f s' => match f with | .next => CutN h₀ L J s .next s' | f => Q f s') E s)
    (k : ∀ h' tk m news, Fr h₀ L h' m → News h₀ L h' news → J m news → wpAny M A (execs rest env) Q E { s with heap := h', toks := tk }) : wpAny M A (execs (st :: rest) env) Q E s := by
  refine wpAny_execs_cons (wpAny_mono h (fun f s' hq => ?_) fun _ _ e => e)
  cases f with
  | next =>
    obtain ⟨_, h', tk, m, news, rfl, F, N, hJ⟩ := hq
    exact k h' tk m news F N hJ
  | ret v => exact hq
  | brk => exact hq
  | cont => exact hq

/-! loops -/
def TurnV (h₀ : Heap) (L : Addr) (I : Addr) (oI : Obj) (J : (Str → Option Value) → List (Addr × Obj) → Prop) (s : Shared) (Q : Flow → Shared → Prop) (f : Flow) (s₂ : Shared) : Prop :=
  match f with
  | .ret v => Q (.ret v) s₂
  | .brk => Q .next s₂
  | _ => ∃ h' tk m' news', s₂ = { s with heap := h', toks := tk } ∧ Fr h₀ L h' m' ∧ News h₀ L h' ((I, oI) :: news') ∧ (∀ p ∈ news', p.1 ≠ I) ∧ J m' news'
theorem TurnV.intro {I : Addr} {oI : Obj} {J : (Str → Option Value) → List (Addr × Obj) → Prop} {h' : Heap} {tk : Nat} {m' : Str → Option Value} {all : List (Addr × Obj)} (F : Fr h₀ L h' m') (N : News h₀ L h' all) (news' : List (Addr × Obj))
    (sub : ∀ p ∈ (I, oI) :: news', p ∈ all) (off : ∀ p ∈ news', p.1 ≠ I) (hJ : J m' news') : TurnV h₀ L I oI J s Q .next { s with heap := h', toks := tk } := ⟨h', tk, m', news', rfl, F, fun p hp => N p (sub p hp), off, hJ⟩

theorem loop_core {I : Addr} {fp : List Addr} {n : Nat} {P : Nat → Value → Prop} {St : Nat → Heap → Prop} {m₀ : Str → Option Value} {news : List (Addr × Obj)} (J : Nat → (Str → Option Value) → List (Addr × Obj) → Prop)
    (W : Walks prog w A I fp [I] n P St) (hIo : ∀ i h, St i h → ∃ o, h.get? I = some o) (hIf : I ∈ fp) (hI₀ : h₀.get? I = none) (hLf : env.locals ∉ fp)
    (hfp : ∀ b ∈ fp, b = I ∨ (∃ o, h₀.get? b = some o) ∨ ∃ o, ∀ i m nw, J i m nw → (b, o) ∈ nw)
    (hst : St 0 s.heap) (F : Fr h₀ env.locals s.heap m₀) (N : News h₀ env.locals s.heap news) (off : ∀ p ∈ news, p.1 ≠ I) (hj : J 0 m₀ news)
    (turn : ∀ i v m₁ news₁ h tk oI, i < n → P i v → J i m₁ news₁ → (∀ p ∈ news₁, p.1 ≠ I) → Fr h₀ env.locals h (fun y => if y = x then some v else m₁ y) → News h₀ env.locals h ((I, oI) :: news₁) →
      wpAny (model prog w) A (execs body env) (TurnV h₀ env.locals I oI (J (i + 1)) { s with heap := h, toks := tk } Q) E { s with heap := h, toks := tk })
    (done : ∀ m news h tk, J n m news → Fr h₀ env.locals h m → News h₀ env.locals h news → Q .next { s with heap := h, toks := tk }) :
    LoopAtV prog w A h₀ env x body Q E (.ref I) s := by
  refine ⟨I, fp, [I], n, P, St, m₀, news, J, rfl, W, hLf, (fun b hb => by rw [List.mem_singleton.mp hb]; exact hI₀), (fun p hp hm => off p hp (List.mem_singleton.mp hm)), hst, F, N, hj, ?_, ?_⟩
  · rintro i v m₁ news₁ s₁ own ⟨hh, tk, rfl⟩ hin hP hJ hoff hown howng hfull hst₁ F₁ N₁
    obtain ⟨oI, heI⟩ := hIo _ _ hst₁
    have hm := hfull I hIf hI₀ oI heI
    have N₂ : News h₀ env.locals hh ((I, oI) :: news₁) := fun p hp => by
      rcases List.mem_cons.mp hp with rfl | hp
      · exact N₁ _ (List.mem_append_left _ hm)
      · exact N₁ p (List.mem_append_right _ hp)
    refine wpAny_mono (turn i v m₁ news₁ hh tk oI hin hP hJ (fun p hp e => hoff p hp (List.mem_singleton.mpr e)) F₁ N₂) (fun f s₂ p => ?_) fun _ _ e => e
    have fin : (∃ h' tk' m' news', s₂ = { s with heap := h', toks := tk' } ∧ Fr h₀ env.locals h' m' ∧ News h₀ env.locals h' ((I, oI) :: news') ∧ (∀ p ∈ news', p.1 ≠ I) ∧ J (i + 1) m' news') →
        LoopStepU h₀ env.locals [I] own (J (i + 1)) { s with heap := hh, toks := tk } .next s₂ := by
      rintro ⟨h', tk', m', news', rfl, F', N', off', hJ'⟩
      refine ⟨rfl, h', tk', m', news', rfl, F', fun p hp => ?_, fun p hp hm => off' p hp (List.mem_singleton.mp hm), hJ'⟩
      rcases List.mem_append.mp hp with hp | hp
      · rcases hfp _ (hown p hp) with e | ⟨o, e⟩ | ⟨o, e⟩
        · have z := howng p hp
          rw [e, heI] at z
          obtain ⟨p1, p2⟩ := p
          simp only at e z
          subst e
          cases z
          exact N' _ List.mem_cons_self
        · have z := (N₁ p (List.mem_append_left _ hp)).2.2
          rw [e] at z; cases z
        · have z1 := (N₁ _ (List.mem_append_right _ (e _ _ _ hJ))).1
          have z2 := howng p hp
          obtain ⟨p1, p2⟩ := p
          simp only at z1 z2
          rw [z1] at z2
          cases z2
          exact N' _ (List.mem_cons_of_mem _ (e _ _ _ hJ'))
      · exact N' p (List.mem_cons_of_mem _ hp)
    cases f with
    | ret v => exact .ret p
    | brk => exact .brk p
    | next => exact .next (fin p)
    | cont => exact .cont (fin p)
  · rintro h' tk m' news' F' N' _ hJ
    exact done m' news' h' tk hJ F' N'

/-- over a list of the ledger -/
theorem for_listN {ax : Addr} {ox : Obj} {its : Array Value} {k : Nat} {m₀ : Str → Option Value} {news : List (Addr × Obj)} (J : Nat → (Str → Option Value) → List (Addr × Obj) → Prop)
    (hh : A.handled = none) (hc : ox.cls = .type "list") (hd : ox.data = .seq its k) (hm : (ax, ox) ∈ news) (hJm : ∀ i m nw, J i m nw → (ax, ox) ∈ nw) (F : Fr h₀ env.locals s.heap m₀) (N : News h₀ env.locals s.heap news) (hj : J 0 m₀ news)
    (turn : ∀ i v m₁ news₁ h tk I oI, its[i]? = some v → J i m₁ news₁ → (∀ p ∈ news₁, p.1 ≠ I) → Fr h₀ env.locals h (fun y => if y = x then some v else m₁ y) → News h₀ env.locals h ((I, oI) :: news₁) →
      wpAny (model prog w) A (execs body env) (TurnV h₀ env.locals I oI (J (i + 1)) { s with heap := h, toks := tk } Q) E { s with heap := h, toks := tk })
    (done : ∀ m news h tk, J its.size m news → Fr h₀ env.locals h m → News h₀ env.locals h news → Q .next { s with heap := h, toks := tk }) :
    wpAny (model prog w) A (pyIter (.ref ax)) (fun it s₂ => LoopAtV prog w A h₀ env x body Q E it s₂) E s := by
  have hl : s.heap.IsList ax its := ⟨ox, (N _ hm).1, hc, k, hd⟩
  have hlt : @LT.lt Nat _ ax s.heap.objs.size := ltS (N _ hm).1
  refine wpAny_pyIter_list hl ?_
  refine loop_core (s := { s with heap := s.heap.push { cls := .type "list_iterator", data := .fields #[.ref ax, .int 0 0] } }) J (Walks.list hh s.heap.objs.size ax (Nat.ne_of_lt hlt) its) (fun i h st => by obtain ⟨o, e, _⟩ := st.1; exact ⟨o, e⟩) (by simp) (next_is_new F) (fun hL => ?_) (fun b hb => ?_)
    ⟨⟨_, Heap.get?_push_size _ rfl, rfl, rfl⟩, hl.push _⟩ (F.push _) (fun p hp => ⟨Heap.get?_push_of_some _ (N p hp).1, (N p hp).2⟩) (fun p hp => Nat.ne_of_lt (Heap.lt_size (N p hp).1)) hj
    (fun i v m₁ news₁ h tk oI _ hP hJ o F₁ N₁ => turn i v m₁ news₁ h tk _ oI hP hJ o F₁ N₁) done
  · rcases List.mem_cons.mp hL with e | hL
    · exact absurd F.ns.lt (e ▸ Nat.lt_irrefl _)
    · exact (N _ hm).2.1 (List.mem_singleton.mp hL).symm
  · rcases List.mem_cons.mp hb with e | hb
    · exact .inl e
    · rw [List.mem_singleton.mp hb]; exact .inr (.inr ⟨ox, hJm⟩)

/-- over a tuple of the ledger -/
theorem for_tupN {ax : Addr} {ox : Obj} {its : Array Value} {k : Nat} {m₀ : Str → Option Value} {news : List (Addr × Obj)} (J : Nat → (Str → Option Value) → List (Addr × Obj) → Prop)
    (hh : A.handled = none) (hc : ox.cls = .type "tuple") (hd : ox.data = .seq its k) (hm : (ax, ox) ∈ news) (hJm : ∀ i m nw, J i m nw → (ax, ox) ∈ nw) (F : Fr h₀ env.locals s.heap m₀) (N : News h₀ env.locals s.heap news) (hj : J 0 m₀ news)
    (turn : ∀ i v m₁ news₁ h tk I oI, its[i]? = some v → J i m₁ news₁ → (∀ p ∈ news₁, p.1 ≠ I) → Fr h₀ env.locals h (fun y => if y = x then some v else m₁ y) → News h₀ env.locals h ((I, oI) :: news₁) →
      wpAny (model prog w) A (execs body env) (TurnV h₀ env.locals I oI (J (i + 1)) { s with heap := h, toks := tk } Q) E { s with heap := h, toks := tk })
    (done : ∀ m news h tk, J its.size m news → Fr h₀ env.locals h m → News h₀ env.locals h news → Q .next { s with heap := h, toks := tk }) :
    wpAny (model prog w) A (pyIter (.ref ax)) (fun it s₂ => LoopAtV prog w A h₀ env x body Q E it s₂) E s := by
  have hl : s.heap.IsTuple ax its := ⟨ox, (N _ hm).1, hc, k, hd⟩
  have hlt : @LT.lt Nat _ ax s.heap.objs.size := ltS (N _ hm).1
  refine wpAny_pyIter_tuple hl ?_
  refine loop_core (s := { s with heap := s.heap.push { cls := .type "tuple_iterator", data := .fields #[.ref ax, .int 0 0] } }) J (Walks.tuple hh s.heap.objs.size ax (Nat.ne_of_lt hlt) its) (fun i h st => by obtain ⟨o, e, _⟩ := st.1; exact ⟨o, e⟩) (by simp) (next_is_new F) (fun hL => ?_) (fun b hb => ?_)
    ⟨⟨_, Heap.get?_push_size _ rfl, rfl, rfl⟩, hl.at fun o e => Heap.get?_push_of_some _ e⟩ (F.push _) (fun p hp => ⟨Heap.get?_push_of_some _ (N p hp).1, (N p hp).2⟩) (fun p hp => Nat.ne_of_lt (Heap.lt_size (N p hp).1)) hj
    (fun i v m₁ news₁ h tk oI _ hP hJ o F₁ N₁ => turn i v m₁ news₁ h tk _ oI hP hJ o F₁ N₁) done
  · rcases List.mem_cons.mp hL with e | hL
    · exact absurd F.ns.lt (e ▸ Nat.lt_irrefl _)
    · exact (N _ hm).2.1 (List.mem_singleton.mp hL).symm
  · rcases List.mem_cons.mp hb with e | hb
    · exact .inl e
    · rw [List.mem_singleton.mp hb]; exact .inr (.inr ⟨ox, hJm⟩)

/-- over a tuple that stands -/
theorem for_tup0 {ax : Addr} {its : Array Value} {m₀ : Str → Option Value} {news : List (Addr × Obj)} (J : Nat → (Str → Option Value) → List (Addr × Obj) → Prop)
    (hh : A.handled = none) (hl₀ : IsTup h₀ ax its) (F : Fr h₀ env.locals s.heap m₀) (N : News h₀ env.locals s.heap news) (hj : J 0 m₀ news)
    (turn : ∀ i v m₁ news₁ h tk I oI, its[i]? = some v → J i m₁ news₁ → (∀ p ∈ news₁, p.1 ≠ I) → Fr h₀ env.locals h (fun y => if y = x then some v else m₁ y) → News h₀ env.locals h ((I, oI) :: news₁) →
      wpAny (model prog w) A (execs body env) (TurnV h₀ env.locals I oI (J (i + 1)) { s with heap := h, toks := tk } Q) E { s with heap := h, toks := tk })
    (done : ∀ m news h tk, J its.size m news → Fr h₀ env.locals h m → News h₀ env.locals h news → Q .next { s with heap := h, toks := tk }) :
    wpAny (model prog w) A (pyIter (.ref ax)) (fun it s₂ => LoopAtV prog w A h₀ env x body Q E it s₂) E s := by
  have hl : s.heap.IsTuple ax its := hl₀.keeps F.keep
  obtain ⟨ox, hox, _⟩ := id hl₀
  have hlt : @LT.lt Nat _ ax s.heap.objs.size := ltS (F.keep _ _ hox)
  refine wpAny_pyIter_tuple hl ?_
  refine loop_core (s := { s with heap := s.heap.push { cls := .type "tuple_iterator", data := .fields #[.ref ax, .int 0 0] } }) J (Walks.tuple hh s.heap.objs.size ax (Nat.ne_of_lt hlt) its) (fun i h st => by obtain ⟨o, e, _⟩ := st.1; exact ⟨o, e⟩) (by simp) (next_is_new F) (fun hL => ?_) (fun b hb => ?_)
    ⟨⟨_, Heap.get?_push_size _ rfl, rfl, rfl⟩, hl.at fun o e => Heap.get?_push_of_some _ e⟩ (F.push _) (fun p hp => ⟨Heap.get?_push_of_some _ (N p hp).1, (N p hp).2⟩) (fun p hp => Nat.ne_of_lt (Heap.lt_size (N p hp).1)) hj
    (fun i v m₁ news₁ h tk oI _ hP hJ o F₁ N₁ => turn i v m₁ news₁ h tk _ oI hP hJ o F₁ N₁) done
  · rcases List.mem_cons.mp hL with e | hL
    · exact absurd F.ns.lt (e ▸ Nat.lt_irrefl _)
    · have h1 := ltS hox; have h2 := F.above; rw [List.mem_singleton.mp hL] at h2; exact absurd h1 (Nat.not_lt.mpr h2)
  · rcases List.mem_cons.mp hb with e | hb
    · exact .inl e
    · rw [List.mem_singleton.mp hb]; exact .inr (.inl ⟨ox, hox⟩)

/-- over a range -/
theorem for_range {r : Addr} {a b : Int} {t u v : Tok} {n : Nat} {m₀ : Str → Option Value} {news : List (Addr × Obj)} (J : Nat → (Str → Option Value) → List (Addr × Obj) → Prop)
    (hh : A.handled = none) (hr : IsRange s.heap r a b 1 t u v) (hsm : Builtin.Range.small a b 1 = true) (hn : Builtin.Range.rangeSize a b 1 = ((n : Nat) : Int)) (F : Fr h₀ env.locals s.heap m₀) (N : News h₀ env.locals s.heap news) (hj : J 0 m₀ news)
    (turn : ∀ i tv m₁ news₁ h tk I oI, i < n → J i m₁ news₁ → (∀ p ∈ news₁, p.1 ≠ I) → Fr h₀ env.locals h (fun y => if y = x then some (.int (a + (i : Int)) tv) else m₁ y) → News h₀ env.locals h ((I, oI) :: news₁) →
      wpAny (model prog w) A (execs body env) (TurnV h₀ env.locals I oI (J (i + 1)) { s with heap := h, toks := tk } Q) E { s with heap := h, toks := tk })
    (done : ∀ m news h tk, J n m news → Fr h₀ env.locals h m → News h₀ env.locals h news → Q .next { s with heap := h, toks := tk }) :
    wpAny (model prog w) A (pyIter (.ref r)) (fun it s₂ => LoopAtV prog w A h₀ env x body Q E it s₂) E s := by
  refine wpAny_pyIter_range hr hsm ?_
  refine loop_core (s := { s with heap := s.heap.push { cls := .type "range_iterator", data := .fields #[rawInt a, rawInt (Builtin.Range.rangeSize a b 1), rawInt 1] } }) J (LCg.range_walks hh a n) (fun i h st => ⟨_, st⟩) (by simp) (next_is_new F) (fun hL => ?_) (fun b hb => .inl (List.mem_singleton.mp hb))
    (by show IsRangeIter _ _ _ _ _; rw [hn]; simpa using Heap.get?_push_size _ rfl) (F.push _) (fun p hp => ⟨Heap.get?_push_of_some _ (N p hp).1, (N p hp).2⟩) (fun p hp => Nat.ne_of_lt (Heap.lt_size (N p hp).1)) hj
    (fun i v m₁ news₁ h tk oI hi hP hJ o F₁ N₁ => by obtain ⟨tv, rfl⟩ := hP; exact turn i tv m₁ news₁ h tk _ oI hi hJ o F₁ N₁) done
  exact absurd F.ns.lt ((List.mem_singleton.mp hL) ▸ Nat.lt_irrefl _)
end

/-! comprehensions whose turns change the ledger -/
section
variable {prog : Program} {w : World} {A : Around} {s : Shared} {h₀ : Heap} {L : Addr} {m : Str → Option Value} {env : Env}
theorem rest_inv {elt : Expr} {x : Str} {scope : Scope} {cl : List (Str × Addr)} {S : List (Addr × Obj) → Prop} {P : Nat → Value → Prop} {Fin : List Value → List (Addr × Obj) → Prop} {n : Nat} {news : List (Addr × Obj)} (J : Nat → List Value → List (Addr × Obj) → Prop)
    (hj : J 0 [] news)
    (turn : ∀ i v ys news I oI C oC D m₂ h tk (E' : Value → Shared → Prop), i < n → P i v → J i ys news → LCg.NsObj oC m₂ → m₂ x = some v → Fr h₀ L h m → News h₀ L h ((I, oI) :: (C, oC) :: (D, LCg.lst ys) :: news) → LCg.Off3 I C D news → ((@Ne Nat I C) ∧ (@Ne Nat I D) ∧ (@Ne Nat C D)) →
      wpAny (model prog w) A (eval elt (compEnvC scope cl C env)) (LCg.CompEnd h₀ L m { s with heap := h, toks := tk } I oI C oC D (LCg.lst ys) S (fun y news' => J (i + 1) (ys ++ [y]) news')) E' { s with heap := h, toks := tk })
    (fin : ∀ ys news, J n ys news → Fin ys news) : LCg.CompRest prog w A h₀ L m env elt x scope cl s S P Fin n 0 [] news := by
  have key : ∀ (j i : Nat) (ys : List Value) (news : List (Addr × Obj)), i + j = n → J i ys news → LCg.CompRest prog w A h₀ L m env elt x scope cl s S P Fin j i ys news := by
    intro j
    induction j with
    | zero =>
      intro i ys news hi hJ
      exact fin ys news ((show i = n by omega) ▸ hJ)
    | succ j ih =>
      intro i ys news hi hJ
      refine LCg.CompRest.succ ?_
      intro v I oI C oC D m₂ h tk E' hv hC hx F N off ne
      refine wpAny_mono (turn i v ys news I oI C oC D m₂ h tk E' (by omega) hv hJ hC hx F N off ne) (fun y s' hq => ?_) fun _ _ e => e
      obtain ⟨h', tk', news', rfl, F', N', off', hS, hJ'⟩ := hq
      exact ⟨h', tk', news', rfl, F', N', off', hS, ih (i + 1) _ _ (by omega) hJ'⟩
  exact key n 0 [] news (by omega) hj

/-- a test that may change the ledger, an element that is the name itself -/
def TestJ (h₀ : Heap) (L : Addr) (m : Str → Option Value) (I : Addr) (oI : Obj) (C : Addr) (oC : Obj) (D : Addr) (oD : Obj) (S : List (Addr × Obj) → Prop) (s : Shared) (J : List Value → List (Addr × Obj) → Prop) (ys : List Value) (v : Value) (ok : Bool) (s' : Shared) : Prop :=
  ∃ h' tk news', s' = { s with heap := h', toks := tk } ∧ Fr h₀ L h' m ∧ News h₀ L h' ((I, oI) :: (C, oC) :: (D, oD) :: news') ∧ LCg.Off3 I C D news' ∧ S news' ∧ J (if ok = true then ys ++ [v] else ys) news'
theorem rest_testJ {ct : Expr} {x : Str} {px : Pos} {scope : Scope} {cl : List (Str × Addr)} {S : List (Addr × Obj) → Prop} {P : Nat → Value → Prop} {Fin : List Value → List (Addr × Obj) → Prop} {n : Nat} {news : List (Addr × Obj)} (J : Nat → List Value → List (Addr × Obj) → Prop)
    (hlx : ∀ C, (compEnvC scope cl C env).kindOf x = some .local) (hkx : ∀ C, (compEnvC scope cl C env).scope.kind = .function) (hdx : (x == ("__debug__" : Str)) = false)
    (hj : J 0 [] news)
    (turn : ∀ i v ys news I oI C oC D m₂ h tk (E' : Value → Shared → Prop), i < n → P i v → J i ys news → LCg.NsObj oC m₂ → m₂ x = some v → Fr h₀ L h m → News h₀ L h ((I, oI) :: (C, oC) :: (D, LCg.lst ys) :: news) → LCg.Off3 I C D news → ((@Ne Nat I C) ∧ (@Ne Nat I D) ∧ (@Ne Nat C D)) →
      wpAny (model prog w) A (isTrue ct (compEnvC scope cl C env) (eval ct (compEnvC scope cl C env))) (TestJ h₀ L m I oI C oC D (LCg.lst ys) S { s with heap := h, toks := tk } (J (i + 1)) ys v) E' { s with heap := h, toks := tk })
    (fin : ∀ ys news, J n ys news → Fin ys news) : LCt.CompRestT prog w A h₀ L m env ct (.Name x px) x scope cl s S P Fin n 0 [] news := by
  have key : ∀ (j i : Nat) (ys : List Value) (news : List (Addr × Obj)), i + j = n → J i ys news → LCt.CompRestT prog w A h₀ L m env ct (.Name x px) x scope cl s S P Fin j i ys news := by
    intro j
    induction j with
    | zero =>
      intro i ys news hi hJ
      exact fin ys news ((show i = n by omega) ▸ hJ)
    | succ j ih =>
      intro i ys news hi hJ
      refine LCt.CompRestT.succ ?_
      intro v I oI C oC D m₂ h tk E' hv hC hx F N off ne
      refine wpAny_mono (turn i v ys news I oI C oC D m₂ h tk E' (by omega) hv hJ hC hx F N off ne) (fun ok s' hq => ?_) fun _ _ e => e
      obtain ⟨h', tk', news', rfl, F', N', off', hS, hJ'⟩ := hq
      cases ok with
      | true =>
        simp only [if_true] at hJ' ⊢
        refine wpAny_Name (wpAny_loadName_local (hkx C) (hlx C) (hC.ns (N' (C, oC) (by simp)).1) hx ?_) hdx
        exact ⟨h', tk', news', rfl, F', N', off', hS, ih (i + 1) _ _ (by omega) hJ'⟩
      | false =>
        simp only [Bool.false_eq_true, if_false] at hJ' ⊢
        exact ⟨h', tk', news', rfl, F', N', off', hS, ih (i + 1) _ _ (by omega) hJ'⟩
  exact key n 0 [] news (by omega) hj
end
end

section
section
variable {prog : Program} {w : World} {A : Around} {E : Value → Shared → Prop} {s : Shared} {h₀ : Heap} {m : Str → Option Value} {env : Env}
/-- x = [elt for y in a tuple that stands] -/
def TupSrc (prog : Program) (w : World) (A : Around) (h₀ : Heap) (L : Addr) (m : Str → Option Value) (env : Env) (elt : Expr) (x : Str) (scope : Scope) (cl : List (Str × Addr)) (Fin : Shared → List Value → List (Addr × Obj) → Prop) (xv : Value) (s₁ : Shared) : Prop :=
  ∃ ax its news, xv = .ref ax ∧ A.handled = none ∧ Fr h₀ L s₁.heap m ∧ News h₀ L s₁.heap news ∧ IsTup h₀ ax its ∧ its.size ≤ sizeLine ∧
    ∀ g, LCg.CompRest prog w A h₀ L m env elt x scope cl { s₁ with heap := g } (fun _ => True) (fun i v => its[i]? = some v) (Fin { s₁ with heap := g }) its.size 0 [] news
theorem assign_comp_tup {elt iter : Expr} {x y : Str} {px py : Pos} {scope : Scope} {cl : List (Str × Addr)} {pos spos : Pos} {Q : Flow → Shared → Prop} (F₀ : Fr h₀ env.locals s.heap m)
    (hsw : swapsWith (.ListComp elt [⟨.Name x px, iter, [], 0⟩] scope pos) (some (.Name y py)) spos.line env = pure true)
    (hclos : closureFor scope env = pure cl) (hcell : ∀ z ∈ scope.names, z.2 ≠ .cell) (hkind : scope.kind = .function)
    (hnames : ∀ z ∈ scope.names, z.2 = .local → scope.names.lookup z.1 = some .local) (hx : scope.names.lookup x = some .local)
    (hy : env.kindOf y = some .local) (hp : (env.scope.kind == .class || (env.scope.kind == .module && env.locals != env.globals)) = false)
    (h : wpAny (model prog w) A (eval iter env) (TupSrc prog w A h₀ env.locals m env elt x scope cl (fun s₂ => LCg.FinA h₀ env.locals m s₂ y Q)) E s)
    (hs : ∀ x, foldedSetIterable iter env x = pure x := by intro _; rfl) :
    wpAny (model prog w) A (exec (.Assign [.Name y py] (.ListComp elt [⟨.Name x px, iter, [], 0⟩] scope pos) spos) env) Q E s := by
  rw [exec_Assign_Name_used _ _ _ _ hsw]
  refine wpAny_bind (wpAny_standAt (wpAny_bind ?_))
  show wpAny _ A (do let _ ← comprehension (.ListComp elt [⟨.Name x px, iter, [], 0⟩] scope pos) scope env _ (newList []) false (eval iter env) (some (assign (.Name y py) env))) _ _ s
  refine wpAny_bind (wpAny_mono (wpAny_comprehension_free (use := some (assign (.Name y py) env)) (Q := fun _ s' => Q .next s') rfl hs hclos hkind hnames
    (wpAny_mono h (fun xv s₁ h₁ => ?_) fun _ _ e => e)) (fun _ s' hq => wpAny_pure (wpAny_pure hq)) fun _ _ e => e)
  obtain ⟨ax, its, news, rfl, hh, F, N, ht₀, hsz, R⟩ := h₁
  have hl : s₁.heap.IsTuple ax its := ht₀.keeps F.keep
  have hlt : @LT.lt Nat _ ax s₁.heap.objs.size := by obtain ⟨_, e, _⟩ := hl; exact ltS e
  refine wpAny_pyIter_tuple hl ?_
  have up : Grown s₁.heap (s₁.heap.push { cls := .type "tuple_iterator", data := .fields #[.ref ax, .int 0 0] }) := fun b o e => Heap.get?_push_of_some _ e
  refine LCg.block_U (S := fun _ => True) (Walks.tuple hh s₁.heap.objs.size ax (Nat.ne_of_lt hlt) its) hsz (fun i h st => by obtain ⟨o, e, _⟩ := st.1; exact ⟨o, e⟩)
    (fun i h h' o nw st e e' k _ _ => ⟨by obtain ⟨o', q, r⟩ := st.1; rw [e] at q; cases q; exact ⟨o, e', r⟩, ht₀.keeps k⟩) hcell hkind hx ⟨⟨_, Heap.get?_push_size _ rfl, rfl, rfl⟩, hl.at fun o e => up _ o e⟩ (fun b hb => ?_)
    (F.keeps up) (N.grown up) (Nat.ne_of_lt F.ns.lt) (next_is_new F) (fun p hp => Nat.ne_of_lt (Heap.lt_size (N p hp).1)) trivial (R _) ?_
  · show b < (s₁.heap.push _).objs.size
    rw [Heap.size_push]
    rcases List.mem_cons.mp hb with rfl | hb
    · exact Nat.lt_succ_self _
    · rw [List.mem_singleton.mp hb]; exact Nat.lt_succ_of_lt hlt
  · intro D C h' tk m' ys news' F' N' o1 hn hC₀ hD₀ hCL hDL hCD offC fin
    show wpAny _ A (assign (.Name y py) env (.ref D)) _ _ _
    refine wpAny_assign_Name (wpAny_storeName_local hy F'.ns (fun h₂ hn₂ hs₂ => ?_) hp)
    have hL₀ : h₀.get? env.locals = none := Heap.get?_none_of_le F'.above
    have F₂ : Fr h₀ env.locals h₂ (fun z => if z = y then some (.ref D) else m z) := ⟨hn₂, fun b o e => hs₂.extBut b o (fun q => by rw [q, hL₀] at e; cases e) (F'.keep b o e), F'.above⟩
    refine ⟨m', hn.sameBut hs₂ hCL, fun h'' hs'' => fin D h'' _ (F₂.change hs'' hCL hC₀) (fun p hp => ?_) o1⟩
    have z : h₂.get? p.1 = some p.2 := hs₂.extBut _ _ (N' p hp).2.1 (N' p hp).1
    refine ⟨hs''.extBut _ _ ?_ z, (N' p hp).2⟩
    rcases List.mem_cons.mp hp with rfl | hp
    · exact Ne.symm hCD
    · exact offC p hp
end

/-! lists that are chosen out of valid ones -/
theorem wrongAt_k {ps : List (Int × Int)} : ∀ {b : Int} {k j : Nat}, wrongAt b k ps = none → wrongAt b j ps = none := by
  induction ps with
  | nil => intro b k j _; rfl
  | cons p r ih =>
    intro b k j h
    unfold wrongAt at h ⊢
    split at h
    · rename_i hp; rw [if_pos hp]; exact ih h
    · cases h
theorem wrongAt_weak {ps : List (Int × Int)} : ∀ {b b' : Int} {k : Nat}, wrongAt b k ps = none → b' ≤ b → wrongAt b' k ps = none := by
  cases ps with
  | nil => intro b b' k _ _; rfl
  | cons p r =>
    intro b b' k h hb
    unfold wrongAt at h ⊢
    split at h
    · rename_i hp; rw [if_pos ⟨by omega, hp.2⟩]; exact h
    · cases h
theorem wrongAt_sub {ps qs : List (Int × Int)} (hs : qs.Sublist ps) : ∀ {b : Int} {k : Nat}, wrongAt b k ps = none → wrongAt b k qs = none := by
  induction hs with
  | slnil => intro b k h; exact h
  | cons a _ ih =>
    intro b k h
    unfold wrongAt at h
    split at h
    · rename_i hp; exact wrongAt_weak (wrongAt_k (ih h)) (by omega)
    · cases h
  | cons_cons a _ ih =>
    intro b k h
    unfold wrongAt at h ⊢
    split at h
    · rename_i hp; rw [if_pos hp]; exact ih h
    · cases h
theorem valid_sub {ps qs : List (Int × Int)} (hs : qs.Sublist ps) (h : ValidR ps) : ValidR qs := wrongAt_sub hs h

/-! what lies frozen in the ledger -/
def Froz (h₀ : Heap) (fz : List (Addr × Obj)) (P : Heap → Prop) : Prop := ∀ h, Grown h₀ h → (∀ p ∈ fz, h.get? p.1 = some p.2) → P h
theorem Froz.at {h₀ h : Heap} {L : Addr} {m : Str → Option Value} {fz news : List (Addr × Obj)} {P : Heap → Prop} (Z : Froz h₀ fz P) (F : Fr h₀ L h m) (N : News h₀ L h news) (sub : ∀ p ∈ fz, p ∈ news) : P h := Z h F.keep fun p hp => (N p (sub p hp)).1
theorem Froz.more {h₀ : Heap} {fz fz' : List (Addr × Obj)} {P : Heap → Prop} (Z : Froz h₀ fz P) (sub : ∀ p ∈ fz, p ∈ fz') : Froz h₀ fz' P := fun h k a => Z h k fun p hp => a p (sub p hp)
theorem rangesV_of {h : Heap} {l : Addr} {vs : List Value} {ps : List (Int × Int)} (hl : h.IsList l vs.toArray) (hp : PairsAre h vs ps) (hb : ps.length ≤ 1000) : RangesV h l vs ps := ⟨hl, hp.length, fun i p e => hp.get i p e, hb⟩
theorem pairs_grown {h h' : Heap} {vs : List Value} {ps : List (Int × Int)} (x : PairsAre h vs ps) (k : Grown h h') : PairsAre h' vs ps := x.mono fun _ _ y => y.grown k
theorem isList_lst {h : Heap} {l : Addr} {vs : List Value} (e : h.get? l = some (LCg.lst vs)) : h.IsList l vs.toArray := ⟨_, e, rfl, _, rfl⟩
end

section
set_option maxHeartbeats 4000000



local macro_rules | `(tactic| k_inst) => `(tactic| exact instBase (by assumption) (by assumption) (by assumption))
local macro_rules | `(tactic| walk_at "call ref") => `(tactic| (k_here; (with_reducible show wpAny _ _ (call (Value.ref 62) [Value.ref _, Value.int _ _]) _ _ _); k_dflt (refine' PureF.use (s_wir _ _ _ _ _ _ ?kv) ?k1 ?k2 ?k3 ?k4 ?k5 ?kA ?kh ?kd ?ku ?kf ?kk ?kp ?_; walk_at "MINE use"; (case kp => exact RangesV.grown (by assumption) (Fr.keep (by assumption))); (case kv => assumption); k_whole); intro v' h' tk' G' F' N' r'; (unfold isV at r'; subst r')))

theorem s_is_picture (w : World) (t : Addr) (c : Int) (k : Tok) (W M J : List (Int × Int)) (hJ : ValidR J) :
    PureF PP w (KF w) VV LL 358 390 97 [.ref t, .int c k] (fun h => TabAt h t W M J) (isV (.bool (holdsR J c))) := by
  unfold PP KF VV LL
  k_fill
  refine' PureF.enter (binds := [(Str.ofString "self", .ref t), (Str.ofString "code", .int c k)]) ?k6 ?k7 ?k8 ?k9 ?kB ?c2 ?c3 ?c4 ?c5 ?h
  walk_at "MINE open"
  intro mean mg mb outer base g L s B F N X T hp
  obtain ⟨dx, lw, lm, lj, h1, h2, h3, k1, k2, k3, hx, hd, -, -, ⟨vs, hr⟩⟩ := hp
  (try dsimp only); k_unmd
  k_fold
  k_steps

theorem s_width_of (w : World) (t : Addr) (c : Int) (k : Tok) (W M J : List (Int × Int)) (hW : ValidR W) (hM : ValidR M) :
    PureF PP w (KF w) VV LL 358 390 90 [.ref t, .int c k] (fun h => TabAt h t W M J) (isI (widthR W M c)) := by
  unfold PP KF VV LL
  k_fill
  refine' PureF.enter (binds := [(Str.ofString "self", .ref t), (Str.ofString "code", .int c k)]) ?k6 ?k7 ?k8 ?k9 ?kB ?c2 ?c3 ?c4 ?c5 ?h
  walk_at "MINE open"
  intro mean mg mb outer base g L s B F N X T hp
  obtain ⟨dx, lw, lm, lj, h1, h2, h3, k1, k2, k3, hx, hd, ⟨vs1, hr1⟩, ⟨vs2, hr2⟩, -⟩ := hp
  (try dsimp only); k_unmd
  k_fold
  k_steps
  all_goals exact ⟨_, by rw [widthR]; simp only [*]; rfl⟩
end

section
set_option maxHeartbeats 4000000
local macro_rules | `(tactic| walk_at "call builtin:len") => `(tactic| (k_here; (with_reducible show wpAny _ _ (call (Value.builtin "len") [Value.ref _]) _ _ _); (with_unfolding_all refine' seqI_len ?k1 ?k2 ?_; (case k1 => k_asm); (case k2 => assumption); k_whole); intro t' tk'))
local macro_rules | `(tactic| walk_at "subscriptTail") => `(tactic| (k_here; (with_reducible show wpAny _ _ (subscriptTail _ _ (Value.ref _) (Value.int (-1) _)) _ _ _); (with_unfolding_all refine' seqI_m1 ?k1 ?k2 ?k3 ?_; (case k1 => k_asm); (case k2 => assumption); (case k3 => omega); k_whole); intro t'))
local macro_rules | `(tactic| walk_at "subscriptTail") => `(tactic| (k_here; (with_reducible show wpAny _ _ (subscriptTail _ _ (Value.ref _) (Value.int (-2) _)) _ _ _); (with_unfolding_all refine' seqI_m2 ?k1 ?k2 ?k3 ?_; (case k1 => k_asm); (case k2 => assumption); (case k3 => omega); k_whole); intro t'))

theorem s_bare (w : World) (a : Addr) (ns : List Int) (h0 : 1 ≤ ns.length) : PureF PP w (KF w) VV LL 358 390 125 [.ref a] (fun h => SeqI h a ns) (isI (bareN ns)) := by
  unfold PP KF VV LL
  k_fill
  refine' PureF.enter (binds := [(Str.ofString "codes", .ref a)]) ?k6 ?k7 ?k8 ?k9 ?kB ?c2 ?c3 ?c4 ?c5 ?h
  walk_at "MINE open"
  intro mean mg mb outer base g L s B F N X T hp
  have hn := hp.size
  (try dsimp only); k_unmd
  k_fold
  k_steps
  all_goals (refine isI_of ?_; unfold bareN; split <;> omega)
end

section
set_option maxHeartbeats 4000000
local macro_rules | `(tactic| k_inst) => `(tactic| exact instBase (by assumption) (by assumption) (by assumption))
local macro_rules | `(tactic| walk_at "call builtin:len") => `(tactic| (k_here; (with_reducible show wpAny _ _ (call (Value.builtin "len") [Value.ref _]) _ _ _); (with_unfolding_all refine' seqI_len ?k1 ?k2 ?_; (case k1 => k_asm); (case k2 => assumption); k_whole); intro t' tk'))
local macro_rules | `(tactic| walk_at "subscriptTail") => `(tactic| (k_here; (with_reducible show wpAny _ _ (subscriptTail _ _ (Value.ref _) (Value.int (-1) _)) _ _ _); (with_unfolding_all refine' seqI_m1 ?k1 ?k2 ?k3 ?_; (case k1 => k_asm); (case k2 => assumption); (case k3 => omega); k_whole); intro t'))
local macro_rules | `(tactic| walk_at "subscriptTail") => `(tactic| (k_here; (with_reducible show wpAny _ _ (subscriptTail _ _ (Value.ref _) (Value.int 0 _)) _ _ _); (with_unfolding_all refine' seqI_z ?k1 ?k2 ?k3 ?_; (case k1 => k_asm); (case k2 => assumption); (case k3 => omega); k_whole); intro t'))
local macro_rules | `(tactic| walk_at "call ref") => `(tactic| (k_here; (with_reducible show wpAny _ _ (call (Value.ref 111) [Value.int _ _]) _ _ _); k_dflt (refine' PureF.use (s_is_region _ _ _) ?k1 ?k2 ?k3 ?k4 ?k5 ?kA ?kh ?kd ?ku ?kf ?kk ?kp ?_; walk_at "MINE use"; (case kp => exact trivial); k_whole); intro v' h' tk' G' F' N' r'; (unfold isV at r'; subst r')))
local macro_rules | `(tactic| walk_at "call ref") => `(tactic| (k_here; (with_reducible show wpAny _ _ (call (Value.ref 118) [Value.int _ _]) _ _ _); k_dflt (refine' PureF.use (s_is_modifier _ _ _) ?k1 ?k2 ?k3 ?k4 ?k5 ?kA ?kh ?kd ?ku ?kf ?kk ?kp ?_; walk_at "MINE use"; (case kp => exact trivial); k_whole); intro v' h' tk' G' F' N' r'; (unfold isV at r'; subst r')))
local macro_rules | `(tactic| walk_at "call ref") => `(tactic| (k_here; (with_reducible show wpAny _ _ (call (Value.ref 125) [Value.ref _]) _ _ _); k_dflt (refine' PureF.use (s_bare _ _ _ ?kv) ?k1 ?k2 ?k3 ?k4 ?k5 ?kA ?kh ?kd ?ku ?kf ?kk ?kp ?_; walk_at "MINE use"; (case kp => exact SeqI.grown (by assumption) (Fr.keep (by assumption))); (case kv => omega); k_whole; intro v' h' tk' G' F' N' r'; (obtain ⟨t', r'⟩ := r'; subst r'))))
local macro_rules | `(tactic| walk_at "call ref") => `(tactic| (k_here; (with_reducible show wpAny _ _ (call (Value.ref 90) _) _ _ _); k_dflt (refine' PureF.use (s_width_of _ _ _ _ _ _ _ ?kv ?kw) ?k1 ?k2 ?k3 ?k4 ?k5 ?kA ?kh ?kd ?ku ?kf ?kk ?kp ?_; walk_at "MINE use"; (case kp => exact TabAt.grown (by assumption) (Fr.keep (by assumption))); (case kv => assumption); (case kw => assumption); k_whole; intro v' h' tk' G' F' N' r'; (obtain ⟨t', r'⟩ := r'; subst r'))))
local macro_rules | `(tactic| walk_at "call ref") => `(tactic| (k_here; (with_reducible show wpAny _ _ (call (Value.ref 97) _) _ _ _); k_dflt (refine' PureF.use (s_is_picture _ _ _ _ _ _ _ ?kv) ?k1 ?k2 ?k3 ?k4 ?k5 ?kA ?kh ?kd ?ku ?kf ?kk ?kp ?_; walk_at "MINE use"; (case kp => exact TabAt.grown (by assumption) (Fr.keep (by assumption))); (case kv => assumption); k_whole); intro v' h' tk' G' F' N' r'; (unfold isV at r'; subst r')))
local macro_rules | `(tactic| walk_at "eval ListComp") => `(tactic| (k_here; lct_look; k_dflt (refine comp_seq (F₀ := by k_asm) (by with_unfolding_all rfl) (by decide) (by rfl) (by decide) (by rfl) ?_)))
local macro_rules | `(tactic| walk_at "SeqSrc") => `(tactic| (k_here; k_dflt (refine' SeqSrc.ints isReg ?kh ?k1 ?k2 ?k3 ?k4 ?k5 ?k6 (fun k' t' I' oI' C' oC' D' m' ys' h' tk' E' hk' hC' hx' F' N' off' ne' => ?_) (fun ys' D' h' tk' hI' hL' F' N' o1' => ?_); (case kh => exact rfl); (case k1 => k_asm); (case k2 => k_asm); (case k3 => assumption); (case k4 => exact fun _ => rfl); (case k5 => exact fun _ => rfl); (case k6 => decide); (all_goals try (rename LCg.Off3 _ _ _ _ => off'; simp only [LCg.Off3, and_true] at off')))))
local macro_rules | `(tactic| walk_at "TestEnd") => `(tactic| (k_dflt (refine' TestEnd.intro ?k1 ?k2 ?k3 ?k4; (case k1 => k_asm); (case k2 => k_asm); (case k3 => lcg_sub); (case k4 => rfl))))

theorem s_joins (w : World) (a t : Addr) (c : Int) (k : Tok) (ns : List Int) (W M J : List (Int × Int)) (hW : ValidR W) (hM : ValidR M) (hJ : ValidR J) :
    PureF PP w (KF w) VV LL 356 380 130 [.ref a, .int c k, .ref t] (fun h => SeqI h a ns ∧ TabAt h t W M J) (isV (.bool (joinsN W M J ns c))) := by
  unfold PP KF VV LL
  k_fill
  refine' PureF.enter (binds := [(Str.ofString "codes", .ref a), (Str.ofString "code", .int c k), (Str.ofString "table", .ref t)]) ?k6 ?k7 ?k8 ?k9 ?kB ?c2 ?c3 ?c4 ?c5 ?h
  walk_at "MINE open"
  intro mean mg mb outer base g L s B F N X T hp
  obtain ⟨hS, hTb⟩ := hp
  have hn := hS.size
  obtain ⟨dx, lw, lm, lj, h1, h2, h3, k1, k2, k3, hx, hd, -, -, -⟩ := id hTb
  (try dsimp only); k_unmd
  k_fold
  k_steps
  all_goals (first
    | rw [joins_0 (by assumption)]
    | rw [joins_1 (by assumption) (by assumption)]
    | rw [joins_3 (by assumption) (by assumption) (by assumption) (by assumption)]
    | (rw [joins_2 (by assumption) (by assumption) (by assumption) (by assumption)]; simp_all; done)
    | rw [joins_4 (by assumption) (by assumption) (by assumption) (by assumption)]
    | (rw [joins_5 (by assumption) (by assumption) (by assumption) (by assumption)]; simp_all; done))

local macro_rules | `(tactic| walk_at "compareOp In int ref") => `(tactic| (k_here; k_dflt (refine' seqI_in ?k1 ?k2 ?_; (case k1 => k_asm); (case k2 => assumption); k_whole)))
local macro_rules | `(tactic| walk_at "subscriptTail Name Slice ref ref") => `(tactic| (k_here; (try dsimp only); k_dflt (refine' slice_last2' ?k1 ?k2 ?k3 ?k4 (fun hn' h' F' N' => ?_) (fun hn' h' b' F' N' => ?_) ?k6 ?k7; (case k6 => with_unfolding_all rfl); (case k7 => (intro _; with_unfolding_all rfl)); (case k1 => k_asm); (case k2 => k_asm); (case k3 => exact IsTup.keeps (by assumption) (Fr.keep (by assumption))); (case k4 => rw [List.size_toArray, sizeLine_eq]; omega))))
local macro_rules | `(tactic| walk_at "compareOp Eq ref ref") => `(tactic| (refine Halt.mk ?_))
theorem s_cluster (w : World) (a t : Addr) (vs : List Value) (ns : List Int) (W M J : List (Int × Int)) (hW : ValidR W) (hM : ValidR M) (hJ : ValidR J) :
    PureF PP w (KF w) VV LL 356 380 135 [.ref a, .ref t] (fun h => IsTup h a vs.toArray ∧ IntsAre vs ns ∧ ns.length ≤ 1000 ∧ TabAt h t W M J) (isI (columnsN W M J ns)) := by
  unfold PP KF VV LL
  k_fill
  refine' PureF.enter (binds := [(Str.ofString "codes", .ref a), (Str.ofString "table", .ref t)]) ?k6 ?k7 ?k8 ?k9 ?kB ?c2 ?c3 ?c4 ?c5 ?h
  walk_at "MINE open"
  intro mean mg mb outer base g L s B F N X T hp
  obtain ⟨hT, hI, hn, hTb⟩ := hp
  have hS : SeqI g a ns := ⟨vs, .inr hT, hI, hn⟩
  have hln := hI.length
  obtain ⟨dx, lw, lm, lj, h1, h2, h3, k1, k2, k3, hx, hd, -, -, -⟩ := id hTb
  (try dsimp only); k_unmd
  k_fold
  k_steps
  · exact isI_of (columns_0 (by assumption))
  · exact isI_of (columns_1 (by assumption) (by assumption))
  · exact isI_of (columns_2 (by assumption) (by assumption))
  · exact isI_of (columns_3 (by assumption) (by assumption) (by assumption) (by assumption) (by assumption))
  all_goals unfold Halt
  · refine eq_tups (ns := ns) (ms := [65039, 8419]) (IsTup.keeps hT (Fr.keep (by assumption))) (News.isTup (by assumption) (by k_mem)) hI (.cons _ _ (.cons _ _ .nil)) (Nat.le_of_ble_eq_true rfl) ?_
    have hz : ns.length - 2 = 0 := by rename (vs.toArray.size ≤ 2) => hz; rw [List.size_toArray] at hz; omega
    k_steps
    all_goals exact isI_of ((columns_4 (by assumption) (by assumption) (by assumption) (.inr (by assumption))).trans (by rw [hz]; simp_all))
  · refine eq_tups (ns := ns.drop (ns.length - 2)) (ms := [65039, 8419]) (News.isTup (by assumption) (by k_mem)) (News.isTup (by assumption) (by k_mem)) ?_ (.cons _ _ (.cons _ _ .nil)) (Nat.le_of_ble_eq_true rfl) ?_
    · rw [List.size_toArray, hln]; exact hI.drop _
    k_steps
    all_goals exact isI_of ((columns_4 (by assumption) (by assumption) (by assumption) (.inr (by assumption))).trans (by simp_all))
  · refine eq_tups (ns := ns) (ms := [65039, 8419]) (IsTup.keeps hT (Fr.keep (by assumption))) (News.isTup (by assumption) (by k_mem)) hI (.cons _ _ (.cons _ _ .nil)) (Nat.le_of_ble_eq_true rfl) ?_
    have hz : ns.length - 2 = 0 := by rename (vs.toArray.size ≤ 2) => hz; rw [List.size_toArray] at hz; omega
    k_steps
    all_goals exact isI_of ((columns_4 (by assumption) (by assumption) (by assumption) (.inl (by assumption))).trans (by rw [hz]; simp_all))
  · refine eq_tups (ns := ns.drop (ns.length - 2)) (ms := [65039, 8419]) (News.isTup (by assumption) (by k_mem)) (News.isTup (by assumption) (by k_mem)) ?_ (.cons _ _ (.cons _ _ .nil)) (Nat.le_of_ble_eq_true rfl) ?_
    · rw [List.size_toArray, hln]; exact hI.drop _
    k_steps
    all_goals exact isI_of ((columns_4 (by assumption) (by assumption) (by assumption) (.inl (by assumption))).trans (by simp_all))
end

section
/-! an object of fields keeps the dict that it points to, through the steps that only note frames -/
def DictAt (e : Addr) (dd : Option Addr) (s : Shared) : Prop := ∃ o vs, s.heap.get? e = some o ∧ o.dict = dd ∧ o.data = .fields vs
def Mild (f : Obj → Obj) : Prop := ∀ o, (f o).dict = o.dict ∧ ∀ vs, o.data = .fields vs → ∃ ws, (f o).data = .fields ws

theorem freed_of_fields {o : Obj} {vs : Array Value} (h : o.data = .fields vs) : o.isFreed = false := Obj.isFreed_of_fields h

theorem DictAt.push {e : Addr} {dd : Option Addr} {s : Shared} (x : DictAt e dd s) (o : Obj) : DictAt e dd { s with heap := s.heap.push o } :=
  let ⟨o', vs, a, b, c⟩ := x; ⟨o', vs, Heap.get?_push_of_some _ a, b, c⟩
theorem DictAt.update {e a : Addr} {dd : Option Addr} {s : Shared} {f : Obj → Obj} (x : DictAt e dd s) (hf : Mild f) : DictAt e dd { s with heap := s.heap.update a f } := by
  obtain ⟨o', vs, h1, h2, h3⟩ := x
  by_cases ha : a = e
  · subst ha
    obtain ⟨ws, hw⟩ := (hf o').2 vs h3
    exact ⟨f o', ws, Heap.get?_update_self f h1 (freed_of_fields hw), (hf o').1.trans h2, hw⟩
  · exact ⟨o', vs, (Heap.get?_update_other _ _ ha).trans h1, h2, h3⟩

section
variable (e : Addr) (dd : Option Addr)
structure Tame {α : Type} (m : Sem α) : Prop where
  out : ∀ (M : Model) (Γ : PySem.Ctx) (Q : α → Pos → Shared → Prop) (E : Value → Pos → Shared → Prop) (p : Pos) (s : Shared), Sem.wp M Γ m Q E p s → DictAt e dd s →
    Sem.wp M Γ m (fun a p' s' => Q a p' s' ∧ DictAt e dd s') (fun x p' s' => E x p' s' ∧ DictAt e dd s') p s
end
section
variable {e : Addr} {dd : Option Addr} {α β : Type}
theorem Tame.pure (a : α) : Tame e dd (Pure.pure a : Sem α) := ⟨fun M Γ Q E p s h d => ⟨h, d⟩⟩
theorem Tame.bind {m : Sem α} {f : α → Sem β} (hm : Tame e dd m) (hf : ∀ a, Tame e dd (f a)) : Tame e dd (m >>= f) := by
  refine ⟨fun M Γ Q E p s h d => ?_⟩
  rw [Sem.wp_bind'] at h ⊢
  exact Sem.wp_mono M Γ m (fun a p' s' hq => (hf a).out M Γ Q E p' s' hq.1 hq.2) (fun _ _ _ x => x) p s (hm.out M Γ _ E p s h d)
theorem Tame.unsupported (what : String) : Tame e dd (unsupported what : Sem α) := ⟨fun M Γ Q E p s h d => by
  have : Sem.wp M Γ (Sem.unsupported what : Sem α) Q E p s := h
  rw [Sem.wp_unsupported] at this; exact this.elim⟩
theorem Tame.loadP (a : Addr) (part : Option Value) : Tame e dd (loadPart a part) := by
  refine ⟨fun M Γ Q E p s h d => ?_⟩
  have h' : Sem.wp M Γ (.load a part .pure) Q E p s := h
  show Sem.wp M Γ (.load a part .pure) _ _ p s
  rw [Sem.wp_load] at h' ⊢
  obtain ⟨o, ho, hq⟩ := h'
  exact ⟨o, ho, hq, d⟩
theorem Tame.load (a : Addr) : Tame e dd (PySem.load a) := Tame.loadP a none
theorem Tame.updateP (a : Addr) (part : Option Value) {f : Obj → Obj} (hf : Mild f) : Tame e dd (updatePart a part f) := by
  refine ⟨fun M Γ Q E p s h d => ?_⟩
  have h' : Sem.wp M Γ (.update a part f .pure) Q E p s := h
  show Sem.wp M Γ (.update a part f .pure) _ _ p s
  rw [Sem.wp_update] at h' ⊢
  exact ⟨h'.1, h'.2, d.update hf⟩
theorem Tame.update (a : Addr) {f : Obj → Obj} (hf : Mild f) : Tame e dd (PySem.update a f) := Tame.updateP a none hf
theorem Tame.alloc (o : Obj) : Tame e dd (PySem.alloc o) := by
  refine ⟨fun M Γ Q E p s h d => ?_⟩
  have h' : Sem.wp M Γ (.alloc o .pure) Q E p s := h
  show Sem.wp M Γ (.alloc o .pure) _ _ p s
  rw [Sem.wp_alloc] at h' ⊢
  exact ⟨h', d.push o⟩
theorem Tame.stack : Tame e dd PySem.stack := by
  refine ⟨fun M Γ Q E p s h d => ?_⟩
  have h' : Sem.wp M Γ (.stack .pure) Q E p s := h
  show Sem.wp M Γ (.stack .pure) _ _ p s
  rw [Sem.wp_stack] at h' ⊢
  exact ⟨h', d⟩
theorem Tame.ite {c : Prop} [Decidable c] {a b : Sem α} (ha : Tame e dd a) (hb : Tame e dd b) : Tame e dd (if c then a else b) := by split <;> assumption
theorem Tame.map {m : Sem α} {f : α → β} (hm : Tame e dd m) : Tame e dd (f <$> m) := Tame.bind hm fun a => Tame.pure (f a)

theorem mild_fields (f : Array Value → Array Value) : Mild (Obj.mapFields f) := by
  intro o
  obtain ⟨c, d, dt, sl⟩ := o
  cases dt <;> refine ⟨rfl, fun vs h => ?_⟩ <;> first | exact ⟨_, rfl⟩ | cases h
end

section
variable {e : Addr} {dd : Option Addr}
theorem tame_fieldsOf (v : Value) : Tame e dd (fieldsOf v) := by
  unfold fieldsOf
  repeat (first | exact Tame.pure _ | exact Tame.unsupported _ | exact Tame.loadP _ _ | exact Tame.load _ | exact Tame.stack | exact Tame.alloc _ | exact Tame.update _ (mild_fields _) | assumption | (intro _) | refine Tame.bind ?_ ?_ | refine Tame.ite ?_ ?_ | refine Tame.map ?_ | split)
theorem tame_field (v : Value) (i : Nat) : Tame e dd (field v i) := by
  have h := tame_fieldsOf (e := e) (dd := dd) v
  unfold field
  repeat (first | exact Tame.pure _ | exact Tame.unsupported _ | exact Tame.loadP _ _ | exact Tame.load _ | exact Tame.stack | exact Tame.alloc _ | exact Tame.update _ (mild_fields _) | assumption | (intro _) | refine Tame.bind ?_ ?_ | refine Tame.ite ?_ ?_ | refine Tame.map ?_ | split)
theorem tame_setField (v x : Value) (i : Nat) : Tame e dd (setField v i x) := by
  unfold setField updateField
  repeat (first | exact Tame.pure _ | exact Tame.unsupported _ | exact Tame.loadP _ _ | exact Tame.load _ | exact Tame.stack | exact Tame.alloc _ | exact Tame.update _ (mild_fields _) | assumption | (intro _) | refine Tame.bind ?_ ?_ | refine Tame.ite ?_ ?_ | refine Tame.map ?_ | split)
theorem tame_newEntry (a b c d f : Value) (l : List Value) : Tame e dd (EntryCells.newEntry a b c d f l) := by
  unfold EntryCells.newEntry newFields
  generalize ([a, b, c, d, f] ++ if l.isEmpty = true then List.replicate 6 Value.none else l).toArray = vs
  show Tame e dd (if vs.size > sizeLine + 2 then (unsupported "record:memory" >>= fun _ => newObjAsIs (.type "traceback") (.fields vs) none) else newObjAsIs (.type "traceback") (.fields vs) none)
  have h : Tame e dd (newObjAsIs (.type "traceback") (.fields vs) none) := Tame.bind (Tame.alloc _) fun a => Tame.pure _
  exact Tame.ite (Tame.bind (Tame.unsupported _) fun _ => h) h
theorem tame_entryPlaceOf (a : Addr) (b : Bool) : Tame e dd (entryPlaceOf a b) := by
  unfold entryPlaceOf
  repeat (first | exact Tame.pure _ | exact Tame.unsupported _ | exact Tame.loadP _ _ | exact Tame.load _ | exact Tame.stack | exact Tame.alloc _ | exact Tame.update _ (mild_fields _) | assumption | (intro _) | refine Tame.bind ?_ ?_ | refine Tame.ite ?_ ?_ | refine Tame.map ?_ | split)
theorem tame_behind (env : Env) (l : List Env) : Tame e dd (behindIsImport env l) := by
  unfold behindIsImport
  have h := fun v i => tame_field (e := e) (dd := dd) v i
  repeat (first | exact h _ _ | exact Tame.pure _ | exact Tame.unsupported _ | exact Tame.loadP _ _ | exact Tame.load _ | exact Tame.stack | exact Tame.alloc _ | exact Tame.update _ (mild_fields _) | assumption | (intro _) | refine Tame.bind ?_ ?_ | refine Tame.ite ?_ ?_ | refine Tame.map ?_ | split)
theorem tame_under : Tame e dd underTheClaimsCaller := by
  unfold underTheClaimsCaller
  repeat (first | exact Tame.pure _ | exact Tame.unsupported _ | exact Tame.loadP _ _ | exact Tame.load _ | exact Tame.stack | exact Tame.alloc _ | exact Tame.update _ (mild_fields _) | assumption | (intro _) | refine Tame.bind ?_ ?_ | refine Tame.ite ?_ ?_ | refine Tame.map ?_ | split)
theorem tame_keptBack (env : Env) (b : Bool) (l : List Env) : Tame e dd (keptBack env b l) := by
  have h := tame_under (e := e) (dd := dd)
  unfold keptBack
  repeat (first | exact Tame.pure _ | exact Tame.unsupported _ | exact Tame.loadP _ _ | exact Tame.load _ | exact Tame.stack | exact Tame.alloc _ | exact Tame.update _ (mild_fields _) | assumption | (intro _) | refine Tame.bind ?_ ?_ | refine Tame.ite ?_ ?_ | refine Tame.map ?_ | split)
theorem mild_ready (f : Obj → Array (Option Value)) : Mild (fun o => { o with slots := f o }) := fun o => ⟨rfl, fun vs h => ⟨vs, h⟩⟩
theorem tame_ready (e : Addr) (dd : Option Addr) : ∀ l : List Env, Tame e dd (readyFrames l)
  | [] => Tame.pure ()
  | env :: outer => by
    unfold readyFrames
    have h1 := tame_behind (e := e) (dd := dd) env outer
    have h2 := fun b => tame_keptBack (e := e) (dd := dd) env b outer
    have h3 := tame_ready e dd outer
    repeat (first | exact h1 | exact h2 _ | exact h3 | exact Tame.update _ (mild_ready _) | exact Tame.pure _ | exact Tame.unsupported _ | exact Tame.loadP _ _ | exact Tame.load _ | exact Tame.stack | exact Tame.alloc _ | exact Tame.update _ (mild_fields _) | assumption | (intro _) | refine Tame.bind ?_ ?_ | refine Tame.ite ?_ ?_ | refine Tame.map ?_ | split)
theorem tame_frameEnvs : Tame e dd frameEnvs := by
  unfold frameEnvs
  repeat (first | exact Tame.pure _ | exact Tame.unsupported _ | exact Tame.loadP _ _ | exact Tame.load _ | exact Tame.stack | exact Tame.alloc _ | exact Tame.update _ (mild_fields _) | assumption | (intro _) | refine Tame.bind ?_ ?_ | refine Tame.ite ?_ ?_ | refine Tame.map ?_ | split)
theorem tame_frameObject (l : List Env) : Tame e dd (frameObject l) := by
  unfold frameObject
  have h := fun l => tame_ready e dd l
  repeat (first | exact h _ | exact Tame.pure _ | exact Tame.unsupported _ | exact Tame.loadP _ _ | exact Tame.load _ | exact Tame.stack | exact Tame.alloc _ | exact Tame.update _ (mild_fields _) | assumption | (intro _) | refine Tame.bind ?_ ?_ | refine Tame.ite ?_ ?_ | refine Tame.map ?_ | split)
theorem tame_frameOf (env : Env) : Tame e dd (PySem.frameOf env) := by
  unfold PySem.frameOf
  have h := fun l => tame_frameObject (e := e) (dd := dd) l
  have h2 := tame_frameEnvs (e := e) (dd := dd)
  repeat (first | exact h _ | exact Tame.pure _ | exact Tame.unsupported _ | exact Tame.loadP _ _ | exact Tame.load _ | exact Tame.stack | exact Tame.alloc _ | exact Tame.update _ (mild_fields _) | assumption | (intro _) | refine Tame.bind ?_ ?_ | refine Tame.ite ?_ ?_ | refine Tame.map ?_ | split)
theorem tame_noteFrame (v : Value) (env : Env) : Tame e dd (noteFrame v env) := by
  unfold noteFrame
  have h1 := fun v i => tame_field (e := e) (dd := dd) v i
  have h2 := fun v i x => tame_setField (e := e) (dd := dd) v x i
  have h3 := fun a b c d f l => tame_newEntry (e := e) (dd := dd) a b c d f l
  have h4 := tame_frameOf (e := e) (dd := dd) env
  have h5 := fun a b => tame_entryPlaceOf (e := e) (dd := dd) a b
  repeat (first | exact h1 _ _ | exact h2 _ _ _ | exact h3 _ _ _ _ _ _ | exact h5 _ _ | exact Tame.pure _ | exact Tame.unsupported _ | exact Tame.loadP _ _ | exact Tame.load _ | exact Tame.stack | exact Tame.alloc _ | exact Tame.update _ (mild_fields _) | assumption | (intro _) | refine Tame.bind ?_ ?_ | refine Tame.ite ?_ ?_ | refine Tame.map ?_ | split)
theorem tame_setFlight (v : Value) (f : Option Addr) : Tame e dd (setFlight v f) := by
  unfold setFlight
  have h1 := fun v i => tame_field (e := e) (dd := dd) v i
  have h2 := fun v i x => tame_setField (e := e) (dd := dd) v x i
  repeat (first | exact h1 _ _ | exact h2 _ _ _ | exact Tame.pure _ | exact Tame.unsupported _ | exact Tame.loadP _ _ | exact Tame.load _ | exact Tame.stack | exact Tame.alloc _ | exact Tame.update _ (mild_fields _) | assumption | (intro _) | refine Tame.bind ?_ ?_ | refine Tame.ite ?_ ?_ | refine Tame.map ?_ | split)
theorem tame_leaving (env : Env) (v : Value) : Tame e dd (leaving env v) := by
  unfold leaving
  exact Tame.bind (tame_noteFrame v env) fun _ => tame_setFlight v none
end

theorem wp_tame {α : Type} {e : Addr} {dd : Option Addr} {M : Model} {A : Around} {t : Sem α} {Q : α → Shared → Prop} {E : Value → Shared → Prop} {s : Shared} (ht : Tame e dd t) (hd : DictAt e dd s) (h : wpAny M A t Q E s) :
    wpAny M A t (fun a s' => Q a s' ∧ DictAt e dd s') (fun x s' => E x s' ∧ DictAt e dd s') s := fun Γ p hΓ => ht.out M Γ _ _ p s (h Γ p hΓ) hd
end

section
/-! the flight of an exception with a dict of its own -/
abbrev frs (l : List Env) : List Addr := l.filterMap (·.frame)
abbrev hid (h : Heap) (l : List Env) : Heap := hideAll h (frs l)
def DictH (e dx : Addr) (h : Heap) : Prop := ∃ o vs, h.get? e = some o ∧ o.dict = some dx ∧ o.data = .fields vs
def RaisedD (G : Heap) (l : List Env) (e dx : Addr) (cls : Value) (od : Obj) (h : Heap) : Prop :=
  ∃ a0 B, G.StaysIn B ∧ B.get? dx = some od ∧ G.get? dx = none ∧ Heap.FlyingW B l e cls a0 h ∧ DictH e dx h

theorem Below.hid_stays {A : Around} {base g : Heap} {outer : List Env} (K : Below A base outer g) : base.StaysIn (hid g outer) := fun b o q => hideAll_get _ (K.stays b o q) fun hm => by
  rw [(K.frames.mem hm).1] at q; cases q
theorem hid_some {h : Heap} {l : List Env} {b : Addr} {o : Obj} (e : (hid h l).get? b = some o) : h.get? b = some o ∧ b ∉ frs l := by
  refine ⟨of_hideAll _ e, fun hm => ?_⟩
  rw [hideAll_none _ hm] at e; cases e
theorem hid_none {h : Heap} {l : List Env} {b : Addr} (e : h.get? b = none) : (hid h l).get? b = none := by
  cases q : (hid h l).get? b with
  | none => rfl
  | some o => have := of_hideAll _ q; rw [e] at this; cases this

section
variable {M : Model} {A : Around} {E : Value → Shared → Prop} {s' : Shared} {base g g₂ : Heap} {outer : List Env} {L a e dx : Addr} {m : Str → Option Value} {name : Str} {scope : Scope} {cd : Value} {Q : Unit → Shared → Prop}
theorem leave_raiseD {oe od : Obj} {vs : Array Value} {a0 : Value} (K : Below A base outer g) (F : Fr g L s'.heap m) (hen : g.get? e = none) (hLe : e ≠ L) (he : s'.heap.get? e = some oe) (hd : oe.data = .fields vs) (h1 : vs[1]? = some .none) (h0 : vs[0]? = some a0)
    (hdx : oe.dict = some dx) (hod : s'.heap.get? dx = some od) (hne : dx ≠ e) (hdg : g.get? dx = none) (hdL : dx ≠ L)
    (hQ : ∀ h', RaisedD (hid g outer) outer e dx oe.cls od h' → g.UpToSlots h' → Q () { s' with heap := h' }) (hk : scope.kind = .function := by rfl) :
    wpAny M (A.deeper (envOf name scope L a cd)) (leaving (envOf name scope L a cd) (.ref e)) Q E s' := by
  have K' := K.push (name := name) (a := a) (cd := cd) F hk
  have hgL : g.get? L = none := by
    cases q : g.get? L with
    | none => rfl
    | some o => have h1 := ltS q; have h2 := F.above; exact absurd h1 (Nat.not_lt.mpr h2)
  have hin : ∀ env ∈ (envOf name scope L a cd :: outer), ∀ b, env.frame = some b → b ∈ e :: frs (envOf name scope L a cd :: outer) := fun env he b hb => List.mem_cons_of_mem _ (List.mem_filterMap.mpr ⟨env, he, hb⟩)
  have offG : ∀ b o, (hid g outer).get? b = some o → (hideAll s'.heap (e :: frs (envOf name scope L a cd :: outer))).get? b = some o := fun b o q => by
    obtain ⟨q1, q2⟩ := hid_some q
    refine hideAll_get _ (F.keep b o q1) fun hm => ?_
    rcases List.mem_cons.mp hm with rfl | hm
    · rw [hen] at q1; cases q1
    · obtain ⟨env, hm1, hm2⟩ := List.mem_filterMap.mp hm
      rcases List.mem_cons.mp hm1 with rfl | hm1
      · obtain rfl : L = b := Option.some.inj hm2
        rw [hgL] at q1; cases q1
      · exact q2 (List.mem_filterMap.mpr ⟨env, hm1, hm2⟩)
  have hB : (hideAll s'.heap (e :: frs (envOf name scope L a cd :: outer))).get? dx = some od := hideAll_get _ hod fun hm => by
    rcases List.mem_cons.mp hm with q | hm
    · exact hne q
    · obtain ⟨env, hm1, hm2⟩ := List.mem_filterMap.mp hm
      rcases List.mem_cons.mp hm1 with rfl | hm1
      · exact hdL (Option.some.inj hm2).symm
      · obtain ⟨_, o, ho, _⟩ := K.frames.mem (List.mem_filterMap.mpr ⟨env, hm1, hm2⟩)
        rw [hdg] at ho; cases ho
  have step := wpAny_leaving_firstW (M := M) (A := A.deeper (envOf name scope L a cd)) (E := E) (s := s') (a0 := a0) (Q := fun _ s'' => ∃ h', s'' = { s' with heap := h' } ∧ Heap.LeftW (hideAll s'.heap (e :: frs (envOf name scope L a cd :: outer))) (envOf name scope L a cd :: outer) e oe.cls a0 s'.heap h')
    K'.stack (funFrames_hide K'.frames hin) rfl he (fun b o q => of_hideAll _ q) (hideAll_none _ List.mem_cons_self) hd h1 h0 fun h' hL => ⟨h', rfl, hL⟩
  refine wpAny_mono (wp_tame (tame_leaving _ _) ⟨oe, vs, he, hdx, hd⟩ step) (fun _ s'' hq => ?_) fun _ _ x => x.1
  obtain ⟨⟨h', rfl, k1, ⟨_, _, k2⟩, k3, k4⟩, hD⟩ := hq
  exact hQ h' ⟨a0, _, offG, hB, hid_none hdg, ⟨k1, hideAll_none _ List.mem_cons_self, k2, k3⟩, hD⟩ ((Heap.UpToSlots.of_keeps F.keep).trans k4)

theorem leave_onD {cls : Value} {od : Obj} (K : Below A base outer g) (F : Fr g L g₂ m) (R : RaisedD (hid g₂ (envOf name scope L a cd :: outer)) (envOf name scope L a cd :: outer) e dx cls od s'.heap) (hsm : g₂.UpToSlots s'.heap) (hdg : g.get? dx = none)
    (hQ : ∀ h', RaisedD (hid g outer) outer e dx cls od h' → g.UpToSlots h' → Q () { s' with heap := h' }) :
    wpAny M (A.deeper (envOf name scope L a cd)) (leaving (envOf name scope L a cd) (.ref e)) Q E s' := by
  obtain ⟨a0, B, hB, hod, hdn, hfl, oe, vs, hD⟩ := R
  have hgL : g.get? L = none := by
    cases q : g.get? L with
    | none => rfl
    | some o => have h1 := ltS q; have h2 := F.above; exact absurd h1 (Nat.not_lt.mpr h2)
  have step := wpAny_leaves_onW (M := M) (A := A.deeper (envOf name scope L a cd)) (E := E) (Q := fun _ s'' => ∃ h', s'' = { s' with heap := h' } ∧ Heap.FlyingW B outer e cls a0 h' ∧ s'.heap.UpToSlots h') (Around.frames_deeper K.stack) rfl hfl fun h' x1 x2 => ⟨h', rfl, x1, x2⟩
  refine wpAny_mono (wp_tame (tame_leaving _ _) ⟨oe, vs, hD⟩ step) (fun _ s'' hq => ?_) fun _ _ x => x.1
  obtain ⟨⟨h', rfl, x1, x2⟩, hD'⟩ := hq
  refine hQ h' ⟨a0, B, fun b o q => ?_, hod, hid_none hdg, x1, hD'⟩ ((Heap.UpToSlots.of_keeps F.keep).trans (hsm.trans x2))
  obtain ⟨q1, q2⟩ := hid_some q
  refine hB b o (hideAll_get _ (F.keep b o q1) fun hm => ?_)
  obtain ⟨env, hm1, hm2⟩ := List.mem_filterMap.mp hm
  rcases List.mem_cons.mp hm1 with rfl | hm1
  · obtain rfl : L = b := Option.some.inj hm2
    rw [hgL] at q1; cases q1
  · exact q2 (List.mem_filterMap.mpr ⟨env, hm1, hm2⟩)
end

/-- one class of the program, an exception that has a base of the program's own -/
def ExcCls (h : Heap) (C : Addr) (bm : List Value) : Prop := ∃ nm q N bs hdct sn sub ab col dd k0 k1 k2 k3 k5 newId, h.get? C = some (excClassObj nm q C N bs bm hdct sn sub ab col dd k0 k1 k2 k3 k5 newId)

section
variable {prog : Program} {w : World} {A₀ : Around} {E : Value → Shared → Prop} {s' : Shared} {base g h : Heap} {outer : List Env} {L a e dx : Addr} {m : Str → Option Value} {name : Str} {scope : Scope} {cd : Value}
  {n : Str} {b₀ : Stmt} {suite : List Stmt} {pos np : Pos} {rest : List ExceptHandler} {Q : Flow → Shared → Prop} {KF : Frag} {C : Addr} {bm : List Value}
  {p : Program} {loose : List Str} {mean : ExcName → Option Value} {mg mb : Str → Option Value} {x : Str} {od : Obj}

theorem caught_D (K : Below A₀ base outer g) (F : Fr g L h m) (hsm : h.UpToSlots s'.heap) (R : RaisedD (hid h (envOf name scope L a cd :: outer)) (envOf name scope L a cd :: outer) e dx (.ref C) od s'.heap)
    (X : KF.In base) (T : TopRead p loose mg mb base) (ex : nsIn KF mainGlobals x = some (some (.ref C))) (hC : ∀ h', KF.In h' → ExcCls h' C bm) (hbase : bm.contains (.type "BaseException") = true)
    (k : ∀ h' tk oe ws, Fr (hid g outer) L h' (fun y => if y = n then some (.ref e) else m y) → News (hid g outer) L h' [(e, oe), (dx, od)] → oe.cls = .ref C → oe.dict = some dx → oe.data = .fields ws → g.UpToSlots h' →
      wpAny (model prog w) ((A₀.deeper (envOf name scope L a cd)).mark (some (.ref e))) (execs (b₀ :: suite) (envOf name scope L a cd))
        (fun f s₄ => wpAny (model prog w) (A₀.deeper (envOf name scope L a cd)) (do bindName (envOf name scope L a cd) n .none; unbindBehindTheSuite (envOf name scope L a cd) n pos) (fun _ s₅ => Q f s₅) E s₄)
        (AsSuiteRaised (model prog w) ((A₀.deeper (envOf name scope L a cd)).mark (some (.ref e))) (envOf name scope L a cd) n pos (notedBy (model prog w) ((A₀.deeper (envOf name scope L a cd)).mark (some (.ref e))) (envOf name scope L a cd) (cameBackBy (model prog w) (A₀.deeper (envOf name scope L a cd)) (envOf name scope L a cd) E)))
        { s' with heap := h', toks := tk })
    (hdict : ∃ es n, od.data = .dict es n) (hdn : g.get? dx = none) (hdL : dx ≠ L)
    (hk : scope.kind = .function := by rfl) (hlo : (envOf name scope L a cd).kindOf n = some .local := by rfl) (hx : (envOf name scope L a cd).kindOf x = some .globalImplicit := by rfl) (hd : (x == ("__debug__" : Str)) = false := by decide) :
    wpAny (model prog w) (A₀.deeper (envOf name scope L a cd)) (noteFrame (.ref e) (envOf name scope L a cd))
      (fun _ s₂ => wpAny (model prog w) (A₀.deeper (envOf name scope L a cd)) (setFlight (.ref e) none) (fun _ s₃ =>
        wpAny (model prog w) (A₀.deeper (envOf name scope L a cd)) (handleBy (.ref e) (envOf name scope L a cd) (.ExceptHandler (some (.Name x np)) (some n) (b₀ :: suite) pos :: rest)) Q E s₃) E s₂) E s' := by
  obtain ⟨a0, B, hB, hod, hdn', hfl, oe, vs, hD⟩ := R
  have hgL : g.get? L = none := by
    cases q : g.get? L with
    | none => rfl
    | some o => have h1 := ltS q; have h2 := F.above; exact absurd h1 (Nat.not_lt.mpr h2)
  have hGL : (hid g outer).get? L = none := hid_none hgL
  have hGB : (hid g outer).StaysIn B := fun b o q => by
    obtain ⟨q1, q2⟩ := hid_some q
    refine hB b o (hideAll_get _ (F.keep b o q1) fun hm => ?_)
    obtain ⟨env, hm1, hm2⟩ := List.mem_filterMap.mp hm
    rcases List.mem_cons.mp hm1 with rfl | hm1
    · obtain rfl : L = b := Option.some.inj hm2
      rw [hgL] at q1; cases q1
    · exact q2 (List.mem_filterMap.mpr ⟨env, hm1, hm2⟩)
  have XG : KF.In (hid g outer) := X.keeps (Below.hid_stays K)
  have TG : TopRead p loose mg mb (hid g outer) := T.keeps (Below.hid_stays K)
  have FG : ∀ h', (hid g outer).StaysIn h' → h.UpToSlots h' → Fr (hid g outer) L h' m := fun h' k1 k2 => ⟨k2.ns F.ns, k1, Nat.le_trans (Nat.le_of_eq (hideAll_size _ _)) F.above⟩
  refine wpAny_mono (wp_tame (tame_noteFrame _ _) ⟨oe, vs, hD⟩ (wpAny_looks_onW (M := model prog w) (A := A₀.deeper (envOf name scope L a cd)) (E := E) (Q := fun _ s'' => ∃ h', s'' = { s' with heap := h' } ∧ Heap.HeldW B (envOf name scope L a cd :: outer) e (.ref C) a0 L h' ∧ s'.heap.UpToSlots h') (Around.frames_deeper K.stack) rfl hfl
    fun h₄ x1 x2 => ⟨h₄, rfl, x1, x2⟩)) (fun _ s₂ hq => ?_) fun _ _ x => x.1
  obtain ⟨⟨h₄, rfl, hheld₄, hsm₄⟩, hD₄⟩ := hq
  refine wpAny_mono (wp_tame (tame_setFlight _ _) hD₄ (wpAny_landsW (M := model prog w) (A := A₀.deeper (envOf name scope L a cd)) (E := E) (s := { s' with heap := h₄ }) (Q := fun _ s'' => ∃ h', s'' = { s' with heap := h' } ∧ Heap.FlyingW B (envOf name scope L a cd :: outer) e (.ref C) a0 h' ∧ h₄.UpToSlots h') hheld₄
    fun h₅ x1 x2 => ⟨h₅, rfl, x1, x2⟩)) (fun _ s₃ hq => ?_) fun _ _ x => x.1
  obtain ⟨⟨h₅, rfl, hheld, hsm₅'⟩, hD₅⟩ := hq
  have hsm₅ := hsm.trans (hsm₄.trans hsm₅')
  have hheld' := flyingW_base hGB hheld
  have F₅ := FG h₅ hheld'.1 hsm₅
  obtain ⟨ob, hob, hobc⟩ := hheld'.there
  refine wpAny_handleBy_cons (codeAny_handlers_test (name_K F₅ XG TG ex ?_ hk hx hd)) (by intro q; cases q)
  obtain ⟨nm, q, N, bs, hdct, sn, sub, ab, col, dd, k0, k1, k2, k3, k5, newId, hCo⟩ := hC h₅ (XG.keeps F₅.keep)
  refine wpAny_excMatches_sub_self hCo hob hobc hbase (codeAny_handlers_suite_as ?_)
  refine wpAny_mono (wp_tame (tame_setFlight _ _) hD₅ (lands_againW (M := model prog w) (E := fun _ _ => False) (s := { s' with heap := h₅ }) (Q := fun _ s'' => ∃ h', s'' = { s' with heap := h' } ∧ Heap.FlyingW B (envOf name scope L a cd :: outer) e (.ref C) a0 h' ∧ h₅.UpToSlots h') hheld
    fun h₆ x1 x2 => ⟨h₆, rfl, x1, x2⟩)) (fun _ s₃ hq => ?_) fun _ _ x => x.1.elim
  obtain ⟨⟨h₆, rfl, hfl₆, hsm₆⟩, oe₆, vs₆, hoe₆, hdict₆, hdata₆⟩ := hq
  have hfl₆' := flyingW_base hGB hfl₆
  have F₆ := FG h₆ hfl₆'.1 (hsm₅.trans hsm₆)
  obtain ⟨oe', hoe', hoec'⟩ := hfl₆'.there
  obtain rfl : oe₆ = oe' := Option.some.inj (hoe₆.symm.trans hoe')
  obtain ⟨es, n', hes⟩ := hdict
  have hdx₆ : h₆.get? dx = some od := hfl₆.1 _ _ hod
  have N₆ : News (hid g outer) L h₆ [(e, oe₆), (dx, od)] := by
    intro q hq
    rcases List.mem_cons.mp hq with rfl | hq
    · refine ⟨hoe₆, fun z => ?_, hfl₆'.2.1⟩
      obtain ⟨oL, esL, epL, hL, hdL, _⟩ := F₆.ns
      have z' : e = L := z
      rw [z', hL] at hoe₆
      injection hoe₆ with hoe₆
      subst hoe₆
      rw [hdL] at hdata₆; cases hdata₆
    · rw [List.mem_singleton.mp hq]
      exact ⟨hdx₆, hdL, hid_none hdn⟩
  have hp : ((envOf name scope L a cd).scope.kind == .class || ((envOf name scope L a cd).scope.kind == .module && (envOf name scope L a cd).locals != (envOf name scope L a cd).globals)) = false := by
    show (scope.kind == .class || (scope.kind == .module && L != mainGlobals)) = false
    rw [hk]; rfl
  refine wpAny_storeName_local hlo F₆.ns (fun h₇ hn hs => ?_) hp
  have sm₆ : g.UpToSlots h₆ := (Heap.UpToSlots.of_keeps F.keep).trans (hsm₅.trans hsm₆)
  refine k h₇ _ oe₆ vs₆ (F₆.set hn hs) (N₆.set hs) hoec' hdict₆ hdata₆ fun b o hb hnf => ?_
  obtain ⟨sl, q⟩ := sm₆ b o hb hnf
  exact ⟨sl, hs.extBut b _ (fun z => by have z' : b = L := z; rw [z', hgL] at hb; cases hb) q⟩
end
end

section
open Sem (wp)
open Builtin Builtin.ObjectAttr
set_option maxHeartbeats 1000000

/-! an exception class whose base is a class of the program with its own __init__ -/
section
variable {prog : Program} {w : World} {A : Around} {E : Value → Shared → Prop} {h : Heap} {g : Array GenState} {d : Drawn} {t : Nat} {os : OsState}
variable {nm q : Str} {C N D : Addr} {bs bmB : List Value} {sn : List Str} {sub : List Value} {ab : Bool} {col : Option Bool} {dd : Option Addr} {k0 k1 k2 k3 k5 : Option Value} {B newId initId : String}
variable {c0 : Value} {ddD : Option Addr} {cdD : ClassData} {slD : Array (Option Value)} {mN mD : Str → Option Value}

theorem lookup2 {M : Model} {name : Str} {y : Option Value} {Q : Option Value → Shared → Prop}
    (hC : h.get? C = some (excClassObj nm q C N bs (.ref D :: bmB) true sn sub ab col dd k0 k1 k2 k3 k5 newId)) (hn : h.Ns N mN)
    (hD : h.get? D = some { cls := c0, dict := ddD, data := .cls cdD, slots := slD }) (hnD : h.Ns cdD.ns mD)
    (hbm : mroOf (.type B) = pure bmB) (hB : typeLookup (.type B) name = pure y) {z : Option Value} (hz : (match mN name with | some v => some v | none => match mD name with | some v => some v | none => y) = z)
    (hq : Q z ⟨h, g, d, t, os⟩) : wpAny M A (typeLookup (.ref C) name) Q E ⟨h, g, d, t, os⟩ := by
  subst hz
  have hrest : lookupAlong bmB name = pure y := by rw [typeLookup_eq, hbm] at hB; exact hB
  rw [typeLookup_eq]
  refine wpAny_bind (wpAny_mroOf_exc hC ?_)
  rw [lookupAlong_cons]
  refine wpAny_bind (wpAny_classOwn_exc hC hn ?_)
  cases hv : mN name with
  | some v => rw [hv] at hq; exact wpAny_pure hq
  | none =>
    rw [hv] at hq
    show wpAny _ _ (lookupAlong (.ref D :: bmB) name) _ _ _
    rw [lookupAlong_cons]
    refine wpAny_bind (wpAny_classOwn_cls hD hnD ?_)
    cases hv' : mD name with
    | some v => rw [hv'] at hq; exact wpAny_pure hq
    | none => rw [hv'] at hq; rw [hrest]; exact wpAny_pure hq

theorem check_new2 {M : Model} (F : ExcBaseFacts B newId initId bmB) {rest : List Value} {Q : Unit → Shared → Prop} (hC : h.get? C = some (excClassObj nm q C N bs (.ref D :: bmB) true sn sub ab col dd k0 k1 k2 k3 k5 newId))
    (hq : Q () ⟨h, g, d, t, os⟩) : wpAny M A (checkBuiltinCall newId ⟨.ref C :: rest, []⟩) Q E ⟨h, g, d, t, os⟩ := by
  have hcont : (Value.ref C :: Value.ref D :: bmB).contains (.type B) = true := by rw [List.contains_cons, List.contains_cons, F.hasB, Bool.or_true, Bool.or_true]
  have hstar := F.noStar
  simp only [checkBuiltinCall, F.newKind, F.newSplit, F.newRow]
  repeat (first | refine wpAny_loadPart_at hC ?_ | (refine wpAny_isSubtype_exc hC ?_; rw [hcont]) | refine wpAny_staticBase_exc hC ?_ | refine wpAny_madeBy_exc hC ?_ | simp only [bne_self_eq_false, Bool.false_eq_true, if_false] | wp_step)
  exact hq

theorem exc_new2 {R : Result → Shared → Prop} (F : ExcBaseFacts B newId initId bmB) {rest : List Value} (hC : h.get? C = some (excClassObj nm q C N bs (.ref D :: bmB) true sn sub ab col dd k0 k1 k2 k3 k5 newId))
    (hq : R (.ok (.ret (.ref (h.objs.size + 1)))) ⟨(h.push { cls := .type "tuple", data := .seq rest.toArray }).push
      { cls := .ref C, data := .fields #[.ref h.objs.size, .none, .none, .none, .bool false, .none] }, g, d, t, os⟩) (hrest : rest.length ≤ sizeLine := by size_fits) :
    codeAny (model prog w) A (.builtin newId ⟨.ref C :: rest, []⟩) R ⟨h, g, d, t, os⟩ := by
  have hends := F.ends
  have hcB : (Value.ref C :: Value.ref D :: bmB).contains (.type B) = true := by rw [List.contains_cons, List.contains_cons, F.hasB, Bool.or_true, Bool.or_true]
  have hcA : (Value.ref C :: Value.ref D :: bmB).contains (.type "AttributeError") = false := by rw [List.contains_cons, List.contains_cons, F.noAttr]; rfl
  have hcN : (Value.ref C :: Value.ref D :: bmB).contains (.type "NameError") = false := by rw [List.contains_cons, List.contains_cons, F.noName]; rfl
  refine codeAny_builtinAt F.entry ?_
  unfold Builtin.«BaseException.__new__»
  refine PySem.wpAt_bind ?_
  show PySem.wpAt _ _ _ (stack >>= _) _ _ _
  refine PySem.wpAt_bind (PySem.wpAt_stack fun p below => PySem.wpAt_of_wpAny ?_)
  wp_walk
  refine PySem.wpAt_of_wpAny ?_
  rw [F.owner]
  repeat (first | with_reducible refine wpAny_madeHere_exc F.canon hC ?_ | with_reducible refine wpAny_loadPart_at hC ?_ | (with_reducible refine wpAny_isSubtype_exc hC ?_; first | rw [hcB] | rw [hcA] | rw [hcN]) | wp_step)
  show R _ _
  rw [Heap.size_push]
  exact hq

theorem type_call2 (F : ExcBaseFacts B newId initId bmB) {rest : List Value} {fI : Addr} {oI : Obj} {Q : Fin → Shared → Prop}
    (hC : h.get? C = some (excClassObj nm q C N bs (.ref D :: bmB) true sn sub ab col dd k0 k1 k2 k3 k5 newId)) (hn : h.Ns N mN)
    (hD : h.get? D = some { cls := c0, dict := ddD, data := .cls cdD, slots := slD }) (hnD : h.Ns cdD.ns mD)
    (h0 : mN "__init__" = none) (hi : mD "__init__" = some (.ref fI)) (hfI : h.get? fI = some oI) (hfc : oI.cls = .type "function")
    (hq : ∀ h' e, Heap.MadeExcOf h h' e (.ref C) rest → wpAny (model prog w) A (call (.ref fI) (.ref e :: rest)) (fun r s' => r = .none ∧ Q (.done (.ret (.ref e))) s') E ⟨h', g, d, t, os⟩) (hrest : rest.length ≤ sizeLine := by size_fits) :
    wpAny (model prog w) A (Builtin.«type.__call__» ⟨.ref C :: rest, []⟩) Q E ⟨h, g, d, t, os⟩ := by
  repeat (first | with_reducible refine wpAny_loadPart_at hC ?_ | with_reducible refine wpAny_madeBy_exc hC ?_ | wp_step)
  refine codeAny_call_builtin_code (Code.quiet_builtin _ F.quiet) (check_new2 F hC ?_)
  refine exc_new2 F hC ?_ hrest
  show wpAny _ _ _ _ _ _
  have kk : ∀ b o, h.get? b = some o → ((h.push { cls := .type "tuple", data := .seq rest.toArray }).push { cls := .ref C, data := .fields #[.ref h.objs.size, .none, .none, .none, .bool false, .none] }).get? b = some o :=
    fun b o e => Heap.get?_push_of_some _ (Heap.get?_push_of_some _ e)
  have hC₁ := kk _ _ hC
  have hD₁ := kk _ _ hD
  have hn₁ := hn.keeps kk
  have hnD₁ := hnD.keeps kk
  have hget : ((h.push { cls := .type "tuple", data := .seq rest.toArray }).push
      { cls := .ref C, data := .fields #[.ref h.objs.size, .none, .none, .none, .bool false, .none] }).get? (h.objs.size + 1) = some
      { cls := .ref C, data := .fields #[.ref h.objs.size, .none, .none, .none, .bool false, .none] } := by heap_get
  have hcC : (Value.ref C :: Value.ref D :: bmB).contains (.ref C) = true := by simp
  unfold isInstance
  repeat (first | with_reducible refine wpAny_loadPart_at hget ?_ | (with_reducible refine wpAny_isSubtype_exc hC₁ ?_; rw [hcC]) | wp_step)
  show wpAny _ _ (typeLookup (.ref C) _) _ _ _
  refine lookup2 hC₁ hn₁ hD₁ hnD₁ F.mroIs F.init.lookup (z := some (.ref fI)) (by rw [h0, hi]) ?_
  refine wpAny_holding (wpAny_bind ?_)
  unfold bindSpecial
  refine wpAny_bind (wpAny_typeOf (T := "function") ⟨_, kk _ _ hfI, hfc⟩ ?_)
  rw [if_pos (by decide)]
  refine wpAny_pure (wpAny_bind (wpAny_mono (hq _ (h.objs.size + 1) ⟨kk, Heap.get?_none_of_le (Nat.le_succ _), h.objs.size, hget, Heap.get?_none_of_le (Nat.le_refl _), ?_⟩) (fun r s' hr => ?_) fun _ _ x => x))
  · exact Heap.get?_push_of_some _ (Heap.get?_push_at rfl rfl)
  obtain ⟨rfl, hQ⟩ := hr
  wp_walk
  exact hQ

theorem call_exc2 (F : ExcBaseFacts B newId initId bmB) {rest : List Value} {fI : Addr} {oI : Obj} {Q : Value → Shared → Prop}
    (hC : h.get? C = some (excClassObj nm q C N bs (.ref D :: bmB) true sn sub ab col dd k0 k1 k2 k3 k5 newId)) (hn : h.Ns N mN)
    (hD : h.get? D = some { cls := c0, dict := ddD, data := .cls cdD, slots := slD }) (hnD : h.Ns cdD.ns mD)
    (h0 : mN "__init__" = none) (hi : mD "__init__" = some (.ref fI)) (hfI : h.get? fI = some oI) (hfc : oI.cls = .type "function")
    (hq : ∀ h' e, Heap.MadeExcOf h h' e (.ref C) rest → wpAny (model prog w) (A.under (.builtin "type.__call__" ⟨.ref C :: rest, []⟩)) (call (.ref fI) (.ref e :: rest)) (fun r s' => r = .none ∧ Q (.ref e) s') E ⟨h', g, d, t, os⟩) (hrest : rest.length ≤ sizeLine := by size_fits) :
    wpAny (model prog w) A (call (.ref C) rest) Q E ⟨h, g, d, t, os⟩ := by
  have f1 := tc_lookup
  have f2 := tc_bind (.ref C)
  have hT : (⟨h, g, d, t, os⟩ : Shared).TypeIs (.ref C) "type" := ⟨_, hC, rfl⟩
  refine wpAny_call (codeAny_of_tree ?_)
  show wpAny _ _ (callAny (.ref C) _) _ _ _
  repeat (any_goals (first | assumption | with_reducible refine wpAny_loadPart_at hC ?_ | wp_step))
  refine ⟨rfl, ?_⟩
  refine codeAny_call_builtin_at (Code.quiet_builtin _ (by decide +kernel)) entry_typeCall (wpAny_check_type_call_sub hC (type_call2 (hrest := hrest) F hC hn hD hnD h0 hi hfI hfc fun h' e hm => ?_))
  exact hq h' e hm
end
end

section
open Sem (wp)
open Builtin Builtin.ObjectAttr
set_option maxHeartbeats 1000000
section
variable {prog : Program} {w : World} {A : Around} {E : Value → Shared → Prop} {h : Heap} {g : Array GenState} {d : Drawn} {t : Nat} {os : OsState}
variable {nm q : Str} {C N D : Addr} {bs bmB : List Value} {sn : List Str} {sub : List Value} {ab : Bool} {col : Option Bool} {dd : Option Addr} {k0 k1 k2 k3 k5 : Option Value} {B newId sa owner : String}
variable {c0 : Value} {ddD : Option Addr} {cdD : ClassData} {slD : Array (Option Value)} {mN mD : Str → Option Value}
variable {x : Addr} {vs : Array Value} {sl : Array (Option Value)} {name : Str} {v : Value}

def TellsO (od : Obj) (name : Str) (v : Value) : Prop := ∃ es ep, od.data = .dict es ep ∧ StrKeys es ∧ nsFind es name = some v

theorem check_sa2 {M : Model} {o : Obj} {nameV : Value} {Q : Unit → Shared → Prop} (SF : StoreFacts B bmB sa owner)
    (hC : h.get? C = some (excClassObj nm q C N bs (.ref D :: bmB) true sn sub ab col dd k0 k1 k2 k3 k5 newId)) (hx : h.get? x = some o) (hc : o.cls = .ref C) (hq : Q () ⟨h, g, d, t, os⟩) :
    wpAny M A (checkBuiltinCall sa ⟨[.ref x, nameV, v], []⟩) Q E ⟨h, g, d, t, os⟩ := by
  have hcB : (Value.ref C :: Value.ref D :: bmB).contains (.type owner) = true := by rw [List.contains_cons, List.contains_cons, SF.hasOwner, Bool.or_true, Bool.or_true]
  have ha := SF.args (.ref x) nameV v
  simp only [checkBuiltinCall, SF.kind, SF.split]
  refine wpAny_bind ?_
  · unfold isInstance
    repeat (first | (with_reducible refine wpAny_loadPart_at hx ?_; rw [hc]) | (with_reducible refine wpAny_isSubtype_exc hC ?_; rw [hcB]) | wp_step)
    cases hsig : Manifest.signature? sa with
    | none => exact wpAny_pure hq
    | some sig =>
      simp only [argsOk, hsig] at ha
      have h2 : Bind.checkArgs sa sig ⟨[.ref x, nameV, v], []⟩ = pure () := ha
      show wpAny M A (Bind.checkArgs sa sig ⟨[.ref x, nameV, v], []⟩) Q E _
      rw [h2]; exact wpAny_pure hq

theorem store2_entry {tk : Tok} {o : Obj} {Q : Fin → Shared → Prop} (SF : StoreFacts B bmB sa owner)
    (hC : h.get? C = some (excClassObj nm q C N bs (.ref D :: bmB) true sn sub ab col dd k0 k1 k2 k3 k5 newId)) (hn : h.Ns N mN)
    (hD : h.get? D = some { cls := c0, dict := ddD, data := .cls cdD, slots := slD }) (hnD : h.Ns cdD.ns mD)
    (hna : mN name = none) (hnb : mD name = none) (hB : typeLookup (.type B) name = pure none) (hx : h.get? x = some o) (hc : o.cls = .ref C) (hdn : o.dict = none) (hdat : o.data = .fields vs)
    (hq : ∀ h' dx od tk', h'.get? x = some { o with dict := some dx } → h'.get? dx = some od → TellsO od name v → h.get? dx = none → dx ≠ x → (∀ b o, b ≠ x → h.get? b = some o → h'.get? b = some o) →
      Q (.done (.ret .none)) ⟨h', g, d, tk', os⟩) :
    wpAny (model prog w) A (Builtin.«object.__setattr__» ⟨[.ref x, .str name tk, v], []⟩) Q E ⟨h, g, d, t, os⟩ := by
  have hpass := SF.passes (.ref x)
  have hnone : (match mN name with | some v => some v | none => match mD name with | some v => some v | none => none) = (none : Option Value) := by rw [hna, hnb]
  unfold Builtin.«object.__setattr__»
  repeat (first | rw [refuse_eq] | (rw [refuseLoop_ref, refuseLoop_ref, hpass]) | (with_reducible refine wpAny_loadPart_at hx ?_; rw [hc]) | with_reducible refine wpAny_mroOf_exc hC ?_ | with_reducible refine lookup2 hC hn hD hnD SF.mro hB hnone ?_ | wp_step)
  rw [hdn, if_neg (by simp [typeHasDict])]
  split
  · rename_i hcd
    cases hcd
  split
  · rename_i c hcd
    rw [hdat] at hcd; cases hcd
  have hx₁ : (h.push { cls := .type "dict", data := .dict #[] }).get? x = some o := Heap.get?_push_of_some _ hx
  have hxs : x ≠ h.objs.size := Nat.ne_of_lt (Heap.lt_size hx)
  refine wpAny_bind (wpAny_alloc' ?_)
  refine wpAny_bind (wpAny_update' hx₁ ?_)
  refine wpAny_pure ?_
  have hgd : ((h.push { cls := .type "dict", data := .dict #[] }).update x fun o => { cls := o.cls, dict := some h.objs.size, data := o.data, slots := o.slots }).get? h.objs.size
      = some { cls := .type "dict", data := .dict #[] } :=
    (Heap.get?_update_ne _ _ _ _ hxs.symm).trans (Heap.get?_push_at rfl rfl)
  have hnd : ((h.push { cls := .type "dict", data := .dict #[] }).update x fun o => { cls := o.cls, dict := some h.objs.size, data := o.data, slots := o.slots }).Ns h.objs.size (fun _ => none) :=
    ⟨_, #[], _, hgd, rfl, fun e he => absurd he (by simp), fun _ => rfl⟩
  show wpAny _ _ (storeInDict h.objs.size (.str name tk) name v) _ _ _
  unfold storeInDict newKeyGuard
  refine wpAny_bind (wpAny_pure (wpAny_bind (wpAny_nsSet1 (Heap.Ns1.of_empty hnd) fun h' hn' hs => ?_)))
  obtain ⟨oD, esD, epD, hoD, hdD, hcD⟩ := hn'.count (Within.cons name v Within.nil)
  refine wpAny_bind (wpAny_lookBehind hoD (by rw [hdD]; exact pastItsLine_dict (Nat.le_trans hcD (by rw [List.length_cons, List.length_nil, sizeLine_eq]; omega))) ?_)
  wp_walk
  have hx' : h'.get? x = some { cls := o.cls, dict := some h.objs.size, data := o.data, slots := o.slots } := by
    refine (hs.2 x hxs).trans (Heap.get?_update_self _ hx₁ ?_)
    exact Obj.isFreed_of_fields (vs := vs) hdat
  obtain ⟨o', es, ep, e1, e2, e3, eu, e4⟩ := hn'
  refine hq h' h.objs.size o' _ hx' e1 ⟨es, ep, e2, e3, by rw [e4 name]; exact if_pos rfl⟩ (Heap.get?_none_of_le (Nat.le_refl _)) hxs.symm (fun b ob hbx hb => ?_)
  exact (hs.2 b (Nat.ne_of_lt (Heap.lt_size hb))).trans ((Heap.get?_update_ne _ _ _ _ hbx).trans (Heap.get?_push_of_some _ hb))

theorem store2_attr {o : Obj} {Q : Unit → Shared → Prop} (SF : StoreFacts B bmB sa owner)
    (hC : h.get? C = some (excClassObj nm q C N bs (.ref D :: bmB) true sn sub ab col dd k0 k1 k2 k3 k5 newId)) (hn : h.Ns N mN)
    (hD : h.get? D = some { cls := c0, dict := ddD, data := .cls cdD, slots := slD }) (hnD : h.Ns cdD.ns mD) (hs1 : mN "__setattr__" = none) (hs2 : mD "__setattr__" = none)
    (hna : mN name = none) (hnb : mD name = none) (hB : typeLookup (.type B) name = pure none) (hx : h.get? x = some o) (hc : o.cls = .ref C) (hdn : o.dict = none) (hdat : o.data = .fields vs)
    (hq : ∀ h' dx od tk', h'.get? x = some { o with dict := some dx } → h'.get? dx = some od → TellsO od name v → h.get? dx = none → dx ≠ x → (∀ b o, b ≠ x → h.get? b = some o → h'.get? b = some o) →
      Q () ⟨h', g, d, tk', os⟩) :
    wpAny (model prog w) A (setAttr (.ref x) name v) Q E ⟨h, g, d, t, os⟩ := by
  have f3 := SF.slot.bind (.ref x)
  have hsa : (match mN "__setattr__" with | some v => some v | none => match mD "__setattr__" with | some v => some v | none => some (.builtin sa)) = (some (.builtin sa) : Option Value) := by rw [hs1, hs2]
  unfold setAttr callSpecial? specialOf
  repeat (any_goals (first | assumption | (with_reducible refine wpAny_loadPart_at hx ?_; rw [hc]) | (with_reducible refine lookup2 hC hn hD hnD SF.mro SF.slot.lookup hsa ?_) | wp_step))
  refine codeAny_call_builtin SF.slot.plain SF.entry (check_sa2 SF hC hx hc (store2_entry SF hC hn hD hnD hna hnb hB hx hc hdn hdat fun h' dx od tk' a1 a2 a3 a4 a5 a6 => ?_))
  repeat (any_goals (first | assumption | wp_step))
  exact hq h' dx od tk' a1 a2 a3 a4 a5 a6

theorem load2_entry {tk : Tok} {o : Obj} {dx : Addr} {mA : Str → Option Value} {Q : Fin → Shared → Prop} (hbm : mroOf (.type B) = pure bmB)
    (hC : h.get? C = some (excClassObj nm q C N bs (.ref D :: bmB) true sn sub ab col dd k0 k1 k2 k3 k5 newId)) (hn : h.Ns N mN)
    (hD : h.get? D = some { cls := c0, dict := ddD, data := .cls cdD, slots := slD }) (hnD : h.Ns cdD.ns mD)
    (hna : mN name = none) (hnb : mD name = none) (hB : typeLookup (.type B) name = pure none) (hx : h.get? x = some o) (hc : o.cls = .ref C) (hdn : o.dict = some dx) (hdat : o.data = .fields vs)
    (hns : h.Ns dx mA) (hv : mA name = some v) (hh : handedOut v = pure v) (hq : Q (.done (.ret v)) ⟨h, g, d, t, os⟩) :
    wpAny (model prog w) A (Builtin.«object.__getattribute__» ⟨[.ref x, .str name tk], []⟩) Q E ⟨h, g, d, t, os⟩ := by
  have hnone : (match mN name with | some v => some v | none => match mD name with | some v => some v | none => none) = (none : Option Value) := by rw [hna, hnb]
  unfold Builtin.«object.__getattribute__»
  repeat (first | (with_reducible refine wpAny_loadPart_at hx ?_; rw [hc]) | (with_reducible refine lookup2 hC hn hD hnD hbm hB hnone ?_) | wp_step)
  split
  · rename_i c hcd
    rw [hdat] at hcd; cases hcd
  unfold instanceDict
  repeat (first | (with_reducible refine wpAny_loadPart_at hx ?_; rw [hc]) | with_reducible refine wpAny_loadPart_at hC ?_ | wp_step)
  rw [hdn]
  repeat (first | (with_reducible refine wpAny_nsGet hns ?_; rw [hv]) | wp_step)
  exact hq

theorem check_ga2 {M : Model} {o : Obj} {nameV : Value} {Q : Unit → Shared → Prop} (hbase : bmB.contains (.type "BaseException") = true) (hC : h.get? C = some (excClassObj nm q C N bs (.ref D :: bmB) true sn sub ab col dd k0 k1 k2 k3 k5 newId))
    (hx : h.get? x = some o) (hc : o.cls = .ref C) (hq : Q () ⟨h, g, d, t, os⟩) : wpAny M A (checkBuiltinCall "BaseException.__getattribute__" ⟨[.ref x, nameV], []⟩) Q E ⟨h, g, d, t, os⟩ := by
  have hk : builtinKind "BaseException.__getattribute__" = some .slot := by decide +kernel
  have hsplit : splitId "BaseException.__getattribute__" = some ("BaseException", "__getattribute__") := by decide +kernel
  have hcB : (Value.ref C :: Value.ref D :: bmB).contains (.type "BaseException") = true := by rw [List.contains_cons, List.contains_cons, hbase, Bool.or_true, Bool.or_true]
  have ha := PySem.F.args_bexc_ga (.ref x) nameV
  simp only [checkBuiltinCall, hk, hsplit]
  refine wpAny_bind ?_
  · unfold isInstance
    repeat (first | (with_reducible refine wpAny_loadPart_at hx ?_; rw [hc]) | (with_reducible refine wpAny_isSubtype_exc hC ?_; rw [hcB]) | wp_step)
    exact hq

theorem load2_attr {expr : Bool} {o : Obj} {dx : Addr} {mA : Str → Option Value} {Q : Value → Shared → Prop} (FB : ExcAttrBase B bmB)
    (hC : h.get? C = some (excClassObj nm q C N bs (.ref D :: bmB) true sn sub ab col dd k0 k1 k2 k3 k5 newId)) (hn : h.Ns N mN)
    (hD : h.get? D = some { cls := c0, dict := ddD, data := .cls cdD, slots := slD }) (hnD : h.Ns cdD.ns mD) (hg1 : mN "__getattribute__" = none) (hg2 : mD "__getattribute__" = none) (hg3 : mN "__getattr__" = none) (hg4 : mD "__getattr__" = none)
    (hna : mN name = none) (hnb : mD name = none) (hB : typeLookup (.type B) name = pure none) (hx : h.get? x = some o) (hc : o.cls = .ref C) (hdn : o.dict = some dx) (hdat : o.data = .fields vs)
    (hns : h.Ns dx mA) (hv : mA name = some v) (hh : handedOut v = pure v) (hq : Q v ⟨h, g, d, t + 1, os⟩) :
    wpAny (model prog w) A (getAttr (.ref x) name expr) Q E ⟨h, g, d, t, os⟩ := by
  have f3 := FB.ga.bind (.ref x)
  have hx0 : (expr && onTheHeap (Value.builtin "BaseException.__getattribute__")) = false := by cases expr <;> rfl
  have hx2 : (Value.builtin "BaseException.__getattribute__" == Value.builtin "object.__getattribute__") = false := by decide +kernel
  have hx1 : (onTheHeap (Value.ref C) && Value.builtin "BaseException.__getattribute__" == Value.builtin "object.__getattribute__") = false := by rw [hx2]; rfl
  have hsa : (match mN "__getattribute__" with | some v => some v | none => match mD "__getattribute__" with | some v => some v | none => some (.builtin "BaseException.__getattribute__")) = (some (.builtin "BaseException.__getattribute__") : Option Value) := by rw [hg1, hg2]
  have hsb : (match mN "__getattr__" with | some v => some v | none => match mD "__getattr__" with | some v => some v | none => none) = (none : Option Value) := by rw [hg3, hg4]
  unfold getAttr getAttrBy
  repeat (any_goals (first | assumption | (with_reducible refine wpAny_loadPart_at hx ?_; rw [hc]) | (with_reducible refine lookup2 hC hn hD hnD FB.mro FB.ga.lookup hsa ?_) | (with_reducible refine lookup2 hC hn hD hnD FB.mro FB.noGetattr hsb ?_) | wp_step))
  refine codeAny_call_builtin FB.ga.plain PySem.F.entry_bexc_ga (check_ga2 FB.hasBase hC hx hc (load2_entry FB.mro hC hn hD hnD hna hnb hB hx hc hdn hdat hns hv hh ?_))
  repeat (any_goals (first | assumption | wp_step))
end

section
variable {M : Model} {A : Around} {E : Value → Shared → Prop} {env : Env}
variable {nm q : Str} {C N D : Addr} {bs bmB : List Value} {sn : List Str} {sub : List Value} {ab : Bool} {col : Option Bool} {dd : Option Addr} {k0 k1 k2 k3 k5 : Option Value} {newId : String}
theorem raise2 {s : Shared} {x : Sem Value} {Q : Flow → Shared → Prop} (hbase : bmB.contains (.type "BaseException") = true) (hh : A.handled = none)
    (h : wpAny M A x (fun v s₁ => ∃ e o vs, v = .ref e ∧ s₁.heap.get? C = some (excClassObj nm q C N bs (.ref D :: bmB) true sn sub ab col dd k0 k1 k2 k3 k5 newId) ∧
      s₁.heap.get? e = some o ∧ o.cls = .ref C ∧ o.data = .fields vs ∧ vs[1]? = some .none ∧ E (.ref e) s₁) E s) :
    wpAny M A (raiseStmt env (some x) none) Q E s := by
  have hcB : (Value.ref C :: Value.ref D :: bmB).contains (.type "BaseException") = true := by rw [List.contains_cons, List.contains_cons, hbase, Bool.or_true, Bool.or_true]
  unfold raiseStmt
  refine wpAny_bind (wpAny_mono h (fun v s₁ h₁ => ?_) fun _ _ x => x)
  obtain ⟨e, o, vs, rfl, hC, he, hc, hdat, hv1, hE⟩ := h₁
  obtain ⟨hp, g, d, tk, os⟩ := s₁
  repeat (first | (with_reducible refine wpAny_loadPart_at he ?_; rw [hc]) | with_reducible refine wpAny_loadPart_at hC ?_ | (with_reducible refine wpAny_isSubtype_exc hC ?_; rw [hcB]) | (with_reducible refine wpAny_field he hdat hv1 ?_) | wp_step)
  exact wpAny_raiseNew_none hh hE
end
end

section
set_option maxHeartbeats 1000000

theorem nsMap_some_of_in {K : Frag} {h : Heap} {N : Addr} {x : Str} {v : Value} (X : K.In h) (e : nsOkIn K N = true) (q : nsIn K N x = some (some v)) : h.nsMap N x = some v := by
  obtain ⟨o, es, ep, ho, hd, _, hf⟩ := Heap.Ns.of_isNs (isNs_of_in X e)
  unfold nsIn at q
  split at q
  · rename_i c d es' n' sl q'
    have := X _ _ q'
    rw [ho] at this
    cases this
    cases hd
    split at q
    · rename_i en he
      cases q
      rw [← hf]
      unfold nsFind findBy
      rw [← Array.find?_toList, he]
      rfl
    · split at q <;> cases q
  · cases q

abbrev bmE : List Value := [.type "Exception", .type "BaseException", .type "object"]
structure ExcK (K : Frag) : Prop where
  c45 : ∃ nm q bs sn sub ab col dd k0 k1 k2 k3 k5, K.lookup 45 = some (excClassObj nm q 45 44 bs (.ref 32 :: bmE) true sn sub ab col dd k0 k1 k2 k3 k5 "Exception.__new__")
  c32 : ∃ c0 ddD cdD slD, K.lookup 32 = some { cls := c0, dict := ddD, data := .cls cdD, slots := slD } ∧ cdD.ns = 31
  ok44 : nsOkIn K 44 = true
  ok31 : nsOkIn K 31 = true
  a1 : nsIn K 44 "__init__" = some none
  a2 : nsIn K 44 "__setattr__" = some none
  a3 : nsIn K 44 "__getattribute__" = some none
  a4 : nsIn K 44 "__getattr__" = some none
  a5 : nsIn K 44 "told" = some none
  b1 : nsIn K 31 "__init__" = some (some (.ref 29))
  b2 : nsIn K 31 "__setattr__" = some none
  b3 : nsIn K 31 "__getattribute__" = some none
  b4 : nsIn K 31 "__getattr__" = some none
  b5 : nsIn K 31 "told" = some none
  f29 : ∃ od osl params dV kV doc pm an cdv ct p1 p2 p3 p4, K.lookup 29 = some ⟨.type "function", od, .func (fnOf "__init__" "TermError.__init__" params [.Assign [.Attribute (.Name "self" p1) "told" p2] (.Name "told" p3) p4]
      { kind := .function, names := [("self", .local), ("told", .local)], isGenerator := false, isCoroutine := false } dV kV doc pm an cdv ct), osl⟩ ∧ codeIn K cdv "TermError.__init__" = true ∧
      ∀ (s : Shared) e v, K.In s.heap → BindsTo s (fnOf "__init__" "TermError.__init__" params [.Assign [.Attribute (.Name "self" p1) "told" p2] (.Name "told" p3) p4]
      { kind := .function, names := [("self", .local), ("told", .local)], isGenerator := false, isCoroutine := false } dV kV doc pm an cdv ct) ⟨[e, v], []⟩ [(("self" : Str), e), (("told" : Str), v)]

theorem told_E : typeLookup (.type "Exception") "told" = pure none := by rw [typeLookup_type, builtinLookup_eq_fast]; kernel_rfl

/-- what the call BadSize(v) makes -/
def MadeBad (h h' : Heap) (e dx : Addr) (v : Value) : Prop :=
  h.get? e = none ∧ h.get? dx = none ∧ dx ≠ e ∧ Grown h h' ∧ ∃ t od, h'.get? e = some { cls := .ref 45, dict := some dx, data := .fields #[.ref t, .none, .none, .none, .bool false, .none] } ∧ h'.get? dx = some od ∧ TellsO od "told" v

section
variable {prog : Program} {w : World} {K : Frag} {A : Around} {E : Value → Shared → Prop} {s : Shared} {v : Value} {Q : Value → Shared → Prop}
theorem init29 (XK : ExcK K) {h₀ : Heap} (X : K.In h₀) (hlim : h₀.NoLimit) (st : Grown h₀ s.heap) (hdep : A.depth < recursionLimit) {e t : Addr} (hn : h₀.get? e = none)
    (he : s.heap.get? e = some { cls := .ref 45, data := .fields #[.ref t, .none, .none, .none, .bool false, .none] })
    (hq : ∀ h' dx tk, MadeBad h₀ h' e dx v → Q .none { s with heap := h', toks := tk }) : wpAny (model prog w) A (call (.ref 29) [.ref e, v]) Q E s := by
  obtain ⟨od, osl, params, dV, kV, doc, pm, an, cdv, ct, p1, p2, p3, p4, hf, hcd, hbind⟩ := XK.f29
  have XS : K.In s.heap := X.keeps st
  refine wpAny_call (codeAny_call_def hdep (XS _ _ hf) rfl (hlim.keeps st) (codeRec_of XS hcd) rfl (hbind _ _ _ XS) (by show ∀ x ∈ [(("self" : Str), NameKind.local), (("told" : Str), NameKind.local)], x.2 ≠ .cell; decide) (allCons rfl (allCons rfl allNil)) (fun h₁ hns hk₁ => ?_) rfl rfl rfl)
  have X₁ : K.In h₁ := X.keeps fun b o e => hk₁ _ _ (st b o e)
  refine wpAny_execs_cons (plainObj_wpAny_Assign_Attribute (wpAny_Name (wpAny_loadName_local rfl rfl hns rfl ?_)) rfl)
  refine wpAny_Name (wpAny_loadName_local rfl rfl hns rfl ?_)
  obtain ⟨nm, q, bs, sn, sub, ab, col, dd, k0, k1, k2, k3, k5, hC⟩ := XK.c45
  obtain ⟨c0, ddD, cdD, slD, hD, hns31⟩ := XK.c32
  have hnD : h₁.Ns cdD.ns (h₁.nsMap 31) := by rw [hns31]; exact .of_isNs (isNs_of_in X₁ XK.ok31)
  refine store2_attr PySem.F.store_Exception (X₁ _ _ hC) (.of_isNs (isNs_of_in X₁ XK.ok44)) (X₁ _ _ hD) hnD (nsMap_none_of_in X₁ XK.ok44 XK.a2) (nsMap_none_of_in X₁ XK.ok31 XK.b2)
    (nsMap_none_of_in X₁ XK.ok44 XK.a5) (nsMap_none_of_in X₁ XK.ok31 XK.b5) told_E (hk₁ _ _ he) rfl rfl rfl fun h' dx od tk' c1 c2 c3 c4 c5 c6 => ?_
  refine wpAny_execs_nil (hq h' dx tk' ⟨hn, ?_, c5, fun b o hb => c6 b o (fun z => by rw [z, hn] at hb; cases hb) (hk₁ _ _ (st b o hb)), t, od, c1, c2, c3⟩)
  cases q' : h₀.get? dx with
  | none => rfl
  | some o => rw [hk₁ _ _ (st _ _ q')] at c4; cases c4

theorem bad_call (XK : ExcK K) (X : K.In s.heap) (hlim : s.heap.NoLimit) (hdep : A.depth + 1 < recursionLimit)
    (hq : ∀ h' e dx tk, MadeBad s.heap h' e dx v → Q (.ref e) { s with heap := h', toks := tk }) : wpAny (model prog w) A (call (.ref 45) [v]) Q E s := by
  obtain ⟨hh, g, d, t, os⟩ := s
  obtain ⟨nm, q, bs, sn, sub, ab, col, dd, k0, k1, k2, k3, k5, hC⟩ := XK.c45
  obtain ⟨c0, ddD, cdD, slD, hD, hns31⟩ := XK.c32
  obtain ⟨od, osl, params, dV, kV, doc, pm, an, cdv, ct, p1, p2, p3, p4, hf, hcd, hbind⟩ := XK.f29
  have hnD : hh.Ns cdD.ns (hh.nsMap 31) := by rw [hns31]; exact .of_isNs (isNs_of_in X XK.ok31)
  refine call_exc2 PySem.F.excBase_Exception (X _ _ hC) (.of_isNs (isNs_of_in X XK.ok44)) (X _ _ hD) hnD (nsMap_none_of_in X XK.ok44 XK.a1) (nsMap_some_of_in X XK.ok31 XK.b1) (X _ _ hf) rfl (fun h' e M => ?_)
  obtain ⟨t', ht, _, _⟩ := M.there
  refine init29 XK (h₀ := hh) (s := ⟨h', g, d, t, os⟩) (t := t') X hlim M.keeps ?_ M.new ht fun h'' dx tk hm => ⟨rfl, hq h'' e dx tk hm⟩
  · show A.depth + _ < _
    exact hdep
end
end

section
set_option maxHeartbeats 1000000

/-- what the caller sees of a def that raised BadSize(v) -/
def Thrown (g : Heap) (envs : List Env) (v : Int) (s : Shared) (e' : Value) (s' : Shared) : Prop :=
  ∃ e dx od t h' tk, e' = .ref e ∧ s' = { s with heap := h', toks := tk } ∧ RaisedD (hid g envs) envs e dx (.ref 45) od h' ∧ TellsO od "told" (.int v t) ∧ g.UpToSlots h' ∧ g.get? dx = none

section
variable (prog : Program) (w : World) (K : Frag) (p : Program) (loose : List Str)
/-- a def that raises BadSize(v) -/
def ThrowF (d u : Nat) (f : Addr) (args : List Value) (P : Heap → Prop) (v : Int) : Prop :=
  ∀ (mean : ExcName → Option Value) (mg mb : Str → Option Value) (envs : List Env) (base : Heap) (s : Shared) (Q E : Value → Shared → Prop),
    Below (nomA d u envs) base envs s.heap → K.In s.heap → Top p loose mean mg mb s.heap → P s.heap →
    (∀ e' s', Thrown s.heap envs v s e' s' → E e' s') →
    wpAny (model prog w) (nomA d u envs) (call (.ref f) args) Q E s
def ThrowBody (d u : Nat) (f : Addr) (qual : Str) (scope : Scope) (cdv : Value) (body : List Stmt) (binds : List (Str × Value)) (P : Heap → Prop) (v : Int) : Prop :=
  ∀ (mean : ExcName → Option Value) (mg mb : Str → Option Value) (outer : List Env) (base g : Heap) (L : Addr) (s : Shared) (R : Value → Shared → Prop),
    Below (nomA d u outer) base outer g → Fr g L s.heap (fun y => binds.reverse.lookup y) → News g L s.heap [] → K.In g → Top p loose mean mg mb g → P g → (∀ e' s', Thrown g outer v s e' s' → R e' s') →
    wpAny (model prog w) ((nomA d u outer).deeper (envOf qual scope L f cdv)) (execs body (envOf qual scope L f cdv)) (fun _ _ => False)
      (fun e s' => wpAny (model prog w) ((nomA d u outer).deeper (envOf qual scope L f cdv)) (leaving (envOf qual scope L f cdv) e) (fun _ s'' => R e s'') (fun e' s'' => R e' s'') s') s
end

section
variable {prog : Program} {w : World} {K : Frag} {p : Program} {loose : List Str} {d u : Nat} {f : Addr} {args : List Value} {P : Heap → Prop} {v : Int}
theorem ThrowF.use (S : ThrowF prog w K p loose d u f args P v) {A A₀ : Around} {mean : ExcName → Option Value} {mg mb : Str → Option Value} {env : Env} {outer : List Env} {base h₀ : Heap} {L : Addr} {m : Str → Option Value} {s : Shared} {Q E : Value → Shared → Prop}
    (B : Below A₀ base outer h₀) (F : Fr h₀ L s.heap m) (X : K.In h₀) (T : Top p loose mean mg mb h₀) (hA : A.frames = some (env :: outer)) (hh : A.handled = none) (hd : A.depth ≤ d) (hu : A.units ≤ u)
    (hf : env.frame = some L) (hk : env.scope.kind = .function) (hp : P s.heap)
    (throw : ∀ e' s', Thrown s.heap (env :: outer) v s e' s' → E e' s') : wpAny (model prog w) A (call (.ref f) args) Q E s :=
  wp_nom (S mean mg mb (env :: outer) base s Q E (belowNow B F rfl hf hk) (X.keeps F.keep) (T.keeps F.keep) hp throw) hh hd hA hu

theorem ThrowF.enter {name qual : Str} {params : Arguments} {body : List Stmt} {scope : Scope} {dV kV doc pm cdv ct oc : Value} {an od : Option Addr} {osl : Array (Option Value)} {binds : List (Str × Value)}
    (ho : K.lookup f = some ⟨oc, od, .func (fnOf name qual params body scope dV kV doc pm an cdv ct), osl⟩) (hcd : codeIn K cdv qual = true) (hroom : d < recursionLimit)
    (hbind : bindArgs (fnOf name qual params body scope dV kV doc pm an cdv ct) ⟨args, []⟩ = pure binds) (hloc : ∀ y ∈ binds, scope.names.lookup y.1 = some .local)
    (hco : scope.isCoroutine = false) (hgen : scope.isGenerator = false) (hk : scope.kind = .function) (hcell : ∀ x ∈ scope.names, x.2 ≠ .cell)
    (h : ThrowBody prog w K p loose d u f qual scope cdv body binds P v) : ThrowF prog w K p loose d u f args P v := by
  intro mean mg mb envs base s Q E B X T hp hq
  refine wpAny_call (codeAny_call_def (fd := fnX name qual params body scope [] dV kV doc pm an cdv ct) (body := body) (binds := binds) hroom (X _ _ ho) rfl T.nolimit (codeRec_of X hcd) rfl (.of_eq hbind) hcell hloc (fun h₁ hns hk₁ => ?_) hco hgen hk)
  have F₁ : Fr s.heap s.heap.objs.size h₁ (fun y => binds.reverse.lookup y) := ⟨hns, fun b o e => hk₁ b o e, Nat.le_refl _⟩
  refine wpAny_mono (h mean mg mb envs base s.heap s.heap.objs.size { s with heap := h₁, toks := s.toks + binds.length } E B F₁ News.nil X T hp fun e' s' ht => hq e' s' ?_) (fun fl s' he => he.elim) fun e s' he => he
  obtain ⟨e, dx, od, t, h', tk, rfl, rfl, r⟩ := ht
  exact ⟨e, dx, od, t, h', tk, rfl, rfl, r⟩
end

section
variable {M : Model} {A : Around} {E : Value → Shared → Prop} {s' s : Shared} {base g g₂ : Heap} {outer : List Env} {L a : Addr} {m : Str → Option Value} {name : Str} {scope : Scope} {cd : Value} {R : Value → Shared → Prop} {v : Int}
/-- BadSize(v), raised here -/
theorem leave_bad {h₀ h' : Heap} {tk : Nat} {e dx : Addr} {t : Tok} (K : Below A base outer g) (F : Fr g L h₀ m) (hm : MadeBad h₀ h' e dx (.int v t)) (hR : ∀ e' s', Thrown g outer v s e' s' → R e' s') (hk : scope.kind = .function := by rfl) :
    wpAny M (A.deeper (envOf name scope L a cd)) (leaving (envOf name scope L a cd) (.ref e)) (fun _ s'' => R (.ref e) s'') (fun e' s'' => R e' s'') { s with heap := h', toks := tk } := by
  obtain ⟨h1, h2, h3, hg, t', od, he, hdx, htell⟩ := hm
  have gone : ∀ b, h₀.get? b = none → g.get? b = none := fun b hb => by
    cases q : g.get? b with
    | none => rfl
    | some o => rw [F.keep _ _ q] at hb; cases hb
  have offL : ∀ b, h₀.get? b = none → b ≠ L := fun b hb z => by
    obtain ⟨oL, _, _, eL, _⟩ := F.ns
    rw [z, eL] at hb; cases hb
  exact leave_raiseD (s' := { s with heap := h', toks := tk }) K (F.keeps hg) (gone _ h1) (offL _ h1) he rfl rfl rfl rfl hdx h3 (gone _ h2) (offL _ h2) (fun h'' r u => hR _ _ ⟨e, dx, od, t, h'', tk, rfl, rfl, r, htell, u, gone _ h2⟩) hk

/-- BadSize(v), raised by a call, on its way out of this def -/
theorem leave_thrown {s₁ : Shared} {e' : Value} (K : Below A base outer g) (F : Fr g L s₁.heap m) (ht : Thrown s₁.heap (envOf name scope L a cd :: outer) v s₁ e' s') (hs : ∃ h tk, s₁ = { s with heap := h, toks := tk })
    (hR : ∀ e' s', Thrown g outer v s e' s' → R e' s') (hk : scope.kind = .function := by rfl) :
    wpAny M (A.deeper (envOf name scope L a cd)) (leaving (envOf name scope L a cd) e') (fun _ s'' => R e' s'') (fun e' s'' => R e' s'') s' := by
  obtain ⟨e, dx, od, t, h', tk, rfl, rfl, r, htell, u, hn⟩ := ht
  obtain ⟨h, tk', rfl⟩ := hs
  have hng : g.get? dx = none := by
    cases q : g.get? dx with
    | none => rfl
    | some o => rw [F.keep _ _ q] at hn; cases hn
  exact leave_onD K F r u hng fun h'' r' u' => hR _ _ ⟨e, dx, od, t, h'', tk, rfl, rfl, r', htell, u', hng⟩
end

def RaisableO (E : Value → Shared → Prop) (v : Value) (s₁ : Shared) : Prop :=
  ∃ nm q C N bs D sn sub ab col dd k0 k1 k2 k3 k5 newId e o vs, v = .ref e ∧ s₁.heap.get? C = some (excClassObj nm q C N bs (.ref D :: bmE) true sn sub ab col dd k0 k1 k2 k3 k5 newId) ∧
      s₁.heap.get? e = some o ∧ o.cls = .ref C ∧ o.data = .fields vs ∧ vs[1]? = some .none ∧ E (.ref e) s₁
theorem raiseStmt_own {M : Model} {A : Around} {E : Value → Shared → Prop} {env : Env} {s : Shared} {x : Sem Value} {Q : Flow → Shared → Prop} (hh : A.handled = none) (h : wpAny M A x (RaisableO E) E s) :
    wpAny M A (raiseStmt env (some x) none) Q E s := by
  unfold raiseStmt
  refine wpAny_bind (wpAny_mono h (fun v s₁ h₁ => ?_) fun _ _ x => x)
  obtain ⟨nm, q, C, N, bs, D, sn, sub, ab, col, dd, k0, k1, k2, k3, k5, newId, e, o, vs, rfl, hC, he, hc, hdat, hv1, hE⟩ := h₁
  have hcB : (Value.ref C :: Value.ref D :: bmE).contains (.type "BaseException") = true := by rw [List.contains_cons, List.contains_cons]; rfl
  obtain ⟨hp, g, d, tk, os⟩ := s₁
  repeat (first | (with_reducible refine wpAny_loadPart_at he ?_; rw [hc]) | with_reducible refine wpAny_loadPart_at hC ?_ | (with_reducible refine wpAny_isSubtype_exc hC ?_; rw [hcB]) | (with_reducible refine wpAny_field he hdat hv1 ?_) | wp_step)
  exact wpAny_raiseNew_none hh hE
theorem Raise_mine {M : Model} {A : Around} {E : Value → Shared → Prop} {env : Env} {s : Shared} {e : Expr} {pos : Pos} {Q : Flow → Shared → Prop} (hh : A.handled = none)
    (h : wpAny M A (eval e env) (RaisableO E) E s) : wpAny M A (exec (.Raise (some e) none pos) env) Q E s := by
  show wpAny M A (do standAt pos; raiseStmt env (some (do let v ← eval e env; standAt pos; pure v)) none) Q E s
  exact wpAny_bind (wpAny_standAt (raiseStmt_own hh (wpAny_bind (wpAny_mono h (fun v s₁ h₁ => wpAny_bind (wpAny_standAt (wpAny_pure h₁))) fun _ _ x => x))))

theorem raise_bad {prog : Program} {w : World} {K : Frag} {A : Around} {E : Value → Shared → Prop} {s : Shared} {v : Value} {h₀ : Heap} {L : Addr} {m : Str → Option Value} {p : Program} {loose : List Str} {mean : ExcName → Option Value} {mg mb : Str → Option Value}
    (XK : ExcK K) (F : Fr h₀ L s.heap m) (X : K.In h₀) (T : Top p loose mean mg mb h₀) (hdep : A.depth + 1 < recursionLimit)
    (hE : ∀ h' e dx tk, MadeBad s.heap h' e dx v → E (.ref e) { s with heap := h', toks := tk }) : wpAny (model prog w) A (call (.ref 45) [v]) (RaisableO E) E s := by
  refine bad_call XK (X.keeps F.keep) (T.nolimit.keeps F.keep) hdep fun h' e dx tk hm => ?_
  obtain ⟨nm, q, bs, sn, sub, ab, col, dd, k0, k1, k2, k3, k5, hC⟩ := XK.c45
  have hm' := hm
  obtain ⟨_, _, _, hg, t', od, he, _⟩ := hm'
  exact ⟨nm, q, 45, 44, bs, 32, sn, sub, ab, col, dd, k0, k1, k2, k3, k5, _, e, _, _, rfl, hg _ _ (F.keep _ _ (X _ _ hC)), he, rfl, rfl, rfl, hE h' e dx tk hm⟩
end

section
set_option maxHeartbeats 4000000
theorem excK (w : World) : ExcK (KF w) := by
  have h : PP = PP → ExcK (KF w) := by
    unfold PP KF
    k_fill
    intro _
    exact ⟨⟨_, _, _, _, _, _, _, _, _, _, _, _, _, by k_is⟩, ⟨_, _, _, _, by k_is, rfl⟩, by with_unfolding_all rfl, by with_unfolding_all rfl, by k_is, by k_is, by k_is, by k_is, by k_is, by k_is, by k_is, by k_is, by k_is, by k_is,
      ⟨_, _, _, _, _, _, _, _, _, _, _, _, _, _, by k_is, by k_is, fun s e v X => BindsTo.of_defaults (T := 22) (items := #[.none]) rfl (X 22 _ (by k_is)) rfl rfl rfl⟩⟩
  exact h rfl
end

section
set_option maxHeartbeats 4000000
local macro_rules | `(tactic| walk_at "exec For Tuple Call cons nil") => `(tactic| (k_here; (with_reducible refine wpAny_For ?_ ?_); rotate_left; exact fun _ => rfl))
local macro_rules | `(tactic| walk_at "call type:enumerate") => `(tactic| (refine Halt.mk ?_))

local macro_rules | `(tactic| walk_at "exec Raise some none") => `(tactic| (k_here; (with_reducible show wpAny _ _ (exec (Stmt.Raise (some (Expr.Call (Expr.Name _ _) (_ :: _) [] _)) none _) _) _ _ _); k_dflt (refine' Raise_mine ?h ?_; (case h => exact rfl); k_whole)))
local macro_rules | `(tactic| walk_at "call ref") => `(tactic| (k_here; (with_reducible show wpAny _ _ (call (Value.ref 45) _) _ _ _); refine Halt.mk ?_))
theorem s_check_bad (w : World) (l : Addr) (vs : List Value) (ps : List (Int × Int)) (at_ : Nat) (hv : wrongAt (-1) 0 ps = some at_) : ThrowF PP w (KF w) VV LL 360 400 69 [.ref l] (fun h => RangesV h l vs ps) at_ := by
  have XK := excK w
  unfold PP KF VV LL
  unfold KF at XK
  k_fill
  refine' ThrowF.enter (binds := [(Str.ofString "ranges", .ref l)]) ?k6 ?k7 ?k8 ?k9 ?kB ?c2 ?c3 ?c4 ?c5 ?h
  walk_at "MINE open"
  intro mean mg mb outer base g L s R B F N X T hp hR
  (try dsimp only); k_unmd
  k_fold
  k_steps
  rename Fr _ _ _ _ => F1
  unfold Halt
  refine for_enum (fun i m => i ≤ at_ ∧ m (Str.ofString "ranges") = some (.ref l) ∧ ∃ t, m (Str.ofString "before") = some (.int (beforeR ps i) t)) rfl rfl hp.1 F1 ⟨Nat.zero_le _, rfl, _, rfl⟩ ?turn ?done ?hE
  case hE => passes_own
  case done =>
    rintro h tk m ⟨hle, e1, t1, e2⟩ F2
    have hsz := wrongAt_some hv
    have := hp.len
    have h9 : vs.toArray.size = vs.length := List.size_toArray ..
    omega
  case turn =>
    rintro i v m1 h tk T1 own t1 hi ⟨hle, e1, t2, e2⟩ F2 N2 ho
    obtain ⟨hi', a, t3, t4, rfl, hT⟩ := hp.at hi
    clear F1
    replace F2 := frOver F2 [(Str.ofString "ranges", .ref l), (Str.ofString "before", .int (beforeR ps i) t2)] (allCons e1 (allCons e2 allNil))
    k_unmd
    k_fold
    k_steps
    · rename News _ _ _ _ => N9
      have hlt : i ≠ at_ := fun q => by
        have z := wrongAt_at hv i (by omega)
        rw [← beforeR_prev] at z
        exact z ⟨by assumption, by assumption⟩
      exact ⟨_, _, _, rfl, by assumption, fun p hp => N9 p (by first | exact hp | exact List.mem_cons_of_mem _ hp), by omega, rfl, _, by rw [beforeR_succ]; rfl⟩
    all_goals
      unfold Halt
      have he : i = at_ := by
        by_cases q : i = at_
        · exact q
        · have z := wrongAt_iff hv i (by omega)
          rw [← beforeR_prev] at z
          first | exact absurd z.1 (by assumption) | exact absurd z.2 (by assumption)
      subst he
      refine' raise_bad XK ?ka ?kb ?kc ?kd ?ke
      case ka => assumption
      case kb => assumption
      case kc => assumption
      case kd => exact Nat.le_of_ble_eq_true rfl
      case ke =>
        intro h' e dx tk hm
        exact leave_bad (by assumption) (by assumption) hm hR
end

section
set_option maxHeartbeats 1000000

/-- the end of an __init__ -/
def MakeEnd (g : Heap) (x : Addr) (r : Value → Heap → Prop) (s : Shared) (f : Flow) (s' : Shared) : Prop :=
  ∃ h' tk L m, s' = { s with heap := h', toks := tk } ∧ Fr g L h' m ∧ (match f with | .ret v => v | _ => .none) = .none ∧ r (.ref x) h'
theorem MakeEnd.intro {g : Heap} {x : Addr} {r : Value → Heap → Prop} {s : Shared} {f : Flow} {h' : Heap} {tk : Nat} {L : Addr} {m : Str → Option Value} (F : Fr g L h' m) (hf : (match f with | .ret v => v | _ => .none) = .none) (hr : r (.ref x) h') :
    MakeEnd g x r s f { s with heap := h', toks := tk } := ⟨h', tk, L, m, rfl, F, hf, hr⟩

section
variable (prog : Program) (w : World) (K : Frag) (p : Program) (loose : List Str)
def MakeBody (d u : Nat) (C fI : Addr) (args : List Value) (qual : Str) (scope : Scope) (cdv : Value) (body : List Stmt) (binds : Addr → List (Str × Value)) (P : Heap → Prop) (r : Value → Heap → Prop) : Prop :=
  ∀ (mean : ExcName → Option Value) (mg mb : Str → Option Value) (outer : List Env) (base g : Heap) (L : Addr) (s : Shared) (x dx : Addr),
    Below ((nomA d u outer).under (.builtin "type.__call__" ⟨.ref C :: args, []⟩)) base outer g → Fr g L s.heap (fun y => (binds x).reverse.lookup y) → News g L s.heap [(x, instObj C dx), (dx, emptyDict)] → dx < x → K.In g → Top p loose mean mg mb g → P g →
    wpAny (model prog w) (((nomA d u outer).under (.builtin "type.__call__" ⟨.ref C :: args, []⟩)).deeper (envOf qual scope L fI cdv)) (execs body (envOf qual scope L fI cdv)) (MakeEnd g x r s) (fun _ _ => False) s
def MakeThrow (d u : Nat) (C fI : Addr) (args : List Value) (qual : Str) (scope : Scope) (cdv : Value) (body : List Stmt) (binds : Addr → List (Str × Value)) (P : Heap → Prop) (v : Int) : Prop :=
  ∀ (mean : ExcName → Option Value) (mg mb : Str → Option Value) (outer : List Env) (base g : Heap) (L : Addr) (s : Shared) (x dx : Addr) (R : Value → Shared → Prop),
    Below ((nomA d u outer).under (.builtin "type.__call__" ⟨.ref C :: args, []⟩)) base outer g → Fr g L s.heap (fun y => (binds x).reverse.lookup y) → News g L s.heap [(x, instObj C dx), (dx, emptyDict)] → dx < x → K.In g → Top p loose mean mg mb g → P g →
    (∀ e' s', Thrown g outer v s e' s' → R e' s') →
    wpAny (model prog w) (((nomA d u outer).under (.builtin "type.__call__" ⟨.ref C :: args, []⟩)).deeper (envOf qual scope L fI cdv)) (execs body (envOf qual scope L fI cdv)) (fun _ _ => False)
      (fun e s' => wpAny (model prog w) (((nomA d u outer).under (.builtin "type.__call__" ⟨.ref C :: args, []⟩)).deeper (envOf qual scope L fI cdv)) (leaving (envOf qual scope L fI cdv) e) (fun _ s'' => R e s'') (fun e' s'' => R e' s'') s') s
end

section
variable {prog : Program} {w : World} {K : Frag} {p : Program} {loose : List Str} {d u : Nat} {C fI : Addr} {args : List Value} {P : Heap → Prop} {r : Value → Heap → Prop} {v : Int}
variable {name qual : Str} {params : Arguments} {body : List Stmt} {scope : Scope} {dV kV doc pm cdv ct oc : Value} {an od : Option Addr} {osl : Array (Option Value)} {binds : Addr → List (Str × Value)}

theorem PureF.make (hm : makesIn K C = true) (hi : findIn K (.ref C) "__init__" = some (some (.ref fI))) (hf : typeIn K (.ref fI) = some (.type "function"))
    (ho : K.lookup fI = some ⟨oc, od, .func (fnOf name qual params body scope dV kV doc pm an cdv ct), osl⟩) (hcd : codeIn K cdv qual = true) (hroom : d + 1 < recursionLimit)
    (hbind : ∀ x, bindArgs (fnOf name qual params body scope dV kV doc pm an cdv ct) ⟨.ref x :: args, []⟩ = pure (binds x)) (hloc : ∀ x, ∀ y ∈ binds x, scope.names.lookup y.1 = some .local)
    (hco : scope.isCoroutine = false) (hgen : scope.isGenerator = false) (hk : scope.kind = .function) (hcell : ∀ x ∈ scope.names, x.2 ≠ .cell)
    (h : MakeBody prog w K p loose d u C fI args qual scope cdv body binds P r) : PureF prog w K p loose d u C args P r := by
  intro mean mg mb envs base s Q E B X T hp hq
  obtain ⟨hh, g, dr, t, os⟩ := s
  refine wpAny_call (make_core (makes_of X hm) (looks_findIn X hi) (fun self => bind_fn X self hf) (.inl rfl) ?_)
  have kk : ∀ b o, hh.get? b = some o → ((hh.push emptyDict).push (instObj C hh.objs.size)).get? b = some o := fun b o e => Heap.get?_push_of_some _ (Heap.get?_push_of_some _ e)
  have hx : ((hh.push emptyDict).push (instObj C hh.objs.size)).get? (hh.objs.size + 1) = some (instObj C hh.objs.size) := by heap_get
  have hd : ((hh.push emptyDict).push (instObj C hh.objs.size)).get? hh.objs.size = some emptyDict := Heap.get?_push_of_some _ (Heap.get?_push_at rfl rfl)
  refine codeAny_call_def (fd := fnX name qual params body scope [] dV kV doc pm an cdv ct) (body := body) (binds := binds (hh.objs.size + 1)) hroom (kk _ _ (X _ _ ho)) rfl (T.nolimit.keeps kk) (codeRec_of (X.keeps kk) hcd) rfl (.of_eq (hbind _)) hcell (hloc _) (fun h₁ hns hk₁ => ?_) hco hgen hk
  have hsz : hh.objs.size ≤ ((hh.push emptyDict).push (instObj C hh.objs.size)).objs.size := by simp only [Heap.size_push]; omega
  have F₁ : Fr hh ((hh.push emptyDict).push (instObj C hh.objs.size)).objs.size h₁ (fun y => (binds (hh.objs.size + 1)).reverse.lookup y) := ⟨hns, fun b o e => hk₁ b o (kk b o e), hsz⟩
  have N₁ : News hh ((hh.push emptyDict).push (instObj C hh.objs.size)).objs.size h₁ [(hh.objs.size + 1, instObj C hh.objs.size), (hh.objs.size, emptyDict)] := by
    intro q hq
    rcases List.mem_cons.mp hq with rfl | hq
    · exact ⟨hk₁ _ _ hx, Nat.ne_of_lt (Heap.lt_size hx), Heap.get?_none_of_le (Nat.le_succ _)⟩
    · rw [List.mem_singleton.mp hq]
      exact ⟨hk₁ _ _ hd, Nat.ne_of_lt (Heap.lt_size hd), Heap.get?_none_of_le (Nat.le_refl _)⟩
  refine wpAny_mono (h mean mg mb envs base hh _ ⟨h₁, g, dr, _, os⟩ _ _ ⟨B.stack, B.stays, B.frames⟩ F₁ N₁ (Nat.lt_succ_self _) X T hp) (fun fl s' he => ?_) fun _ _ y => y.elim
  obtain ⟨h', tk, L', m', rfl, F', hfl, hr⟩ := he
  exact ⟨hfl, hq _ h' tk F'.keep hr⟩

theorem ThrowF.make (hm : makesIn K C = true) (hi : findIn K (.ref C) "__init__" = some (some (.ref fI))) (hf : typeIn K (.ref fI) = some (.type "function"))
    (ho : K.lookup fI = some ⟨oc, od, .func (fnOf name qual params body scope dV kV doc pm an cdv ct), osl⟩) (hcd : codeIn K cdv qual = true) (hroom : d + 1 < recursionLimit)
    (hbind : ∀ x, bindArgs (fnOf name qual params body scope dV kV doc pm an cdv ct) ⟨.ref x :: args, []⟩ = pure (binds x)) (hloc : ∀ x, ∀ y ∈ binds x, scope.names.lookup y.1 = some .local)
    (hco : scope.isCoroutine = false) (hgen : scope.isGenerator = false) (hk : scope.kind = .function) (hcell : ∀ x ∈ scope.names, x.2 ≠ .cell)
    (h : MakeThrow prog w K p loose d u C fI args qual scope cdv body binds P v) : ThrowF prog w K p loose d u C args P v := by
  intro mean mg mb envs base s Q E B X T hp hq
  obtain ⟨hh, g, dr, t, os⟩ := s
  refine wpAny_call (make_core (makes_of X hm) (looks_findIn X hi) (fun self => bind_fn X self hf) (.inl rfl) ?_)
  have kk : ∀ b o, hh.get? b = some o → ((hh.push emptyDict).push (instObj C hh.objs.size)).get? b = some o := fun b o e => Heap.get?_push_of_some _ (Heap.get?_push_of_some _ e)
  have hx : ((hh.push emptyDict).push (instObj C hh.objs.size)).get? (hh.objs.size + 1) = some (instObj C hh.objs.size) := by heap_get
  have hd : ((hh.push emptyDict).push (instObj C hh.objs.size)).get? hh.objs.size = some emptyDict := Heap.get?_push_of_some _ (Heap.get?_push_at rfl rfl)
  refine codeAny_call_def (fd := fnX name qual params body scope [] dV kV doc pm an cdv ct) (body := body) (binds := binds (hh.objs.size + 1)) hroom (kk _ _ (X _ _ ho)) rfl (T.nolimit.keeps kk) (codeRec_of (X.keeps kk) hcd) rfl (.of_eq (hbind _)) hcell (hloc _) (fun h₁ hns hk₁ => ?_) hco hgen hk
  have hsz : hh.objs.size ≤ ((hh.push emptyDict).push (instObj C hh.objs.size)).objs.size := by simp only [Heap.size_push]; omega
  have F₁ : Fr hh ((hh.push emptyDict).push (instObj C hh.objs.size)).objs.size h₁ (fun y => (binds (hh.objs.size + 1)).reverse.lookup y) := ⟨hns, fun b o e => hk₁ b o (kk b o e), hsz⟩
  have N₁ : News hh ((hh.push emptyDict).push (instObj C hh.objs.size)).objs.size h₁ [(hh.objs.size + 1, instObj C hh.objs.size), (hh.objs.size, emptyDict)] := by
    intro q hq
    rcases List.mem_cons.mp hq with rfl | hq
    · exact ⟨hk₁ _ _ hx, Nat.ne_of_lt (Heap.lt_size hx), Heap.get?_none_of_le (Nat.le_succ _)⟩
    · rw [List.mem_singleton.mp hq]
      exact ⟨hk₁ _ _ hd, Nat.ne_of_lt (Heap.lt_size hd), Heap.get?_none_of_le (Nat.le_refl _)⟩
  refine wpAny_mono (h mean mg mb envs base hh _ ⟨h₁, g, dr, _, os⟩ _ _ (fun e' s' => InitBack (hh.objs.size + 1) (fun r s' => match r with | .ok (.ret v) => Q v s' | .error e => E e s' | _ => False) (.error e') s') ⟨B.stack, B.stays, B.frames⟩ F₁ N₁ (Nat.lt_succ_self _) X T hp fun e' s' ht => ?_) (fun fl s' he => he.elim) fun _ _ y => ?_
  · obtain ⟨e, dx, od, t, h', tk, rfl, rfl, r⟩ := ht
    exact hq _ _ ⟨e, dx, od, t, h', tk, rfl, rfl, r⟩
  · exact y
end

/-! a def that catches BadSize, called from a single frame -/
section
variable (prog : Program) (w : World) (K : Frag) (p : Program) (loose : List Str)
def CatchF (d u : Nat) (f : Addr) (args : List Value) (P : Heap → Prop) (r : Value → Prop) : Prop :=
  ∀ (mean : ExcName → Option Value) (mg mb : Str → Option Value) (env : Env) (Lf : Addr) (base : Heap) (s : Shared) (Q E : Value → Shared → Prop),
    Below (nomA d u [env]) base [env] s.heap → env.frame = some Lf → K.In base → Top p loose mean mg mb base → P (hid s.heap [env]) →
    (∀ v h' tk, (hid s.heap [env]).StaysIn h' → s.heap.UpToSlots h' → r v → Q v { s with heap := h', toks := tk }) →
    wpAny (model prog w) (nomA d u [env]) (call (.ref f) args) Q E s
def CatchEnd (g : Heap) (env : Env) (r : Value → Prop) (s : Shared) (f : Flow) (s' : Shared) : Prop :=
  ∃ h' tk, s' = { s with heap := h', toks := tk } ∧ (hid g [env]).StaysIn h' ∧ g.UpToSlots h' ∧ r (match f with | .ret v => v | _ => .none)
def CatchBody (d u : Nat) (f : Addr) (qual : Str) (scope : Scope) (cdv : Value) (body : List Stmt) (binds : List (Str × Value)) (P : Heap → Prop) (r : Value → Prop) : Prop :=
  ∀ (mean : ExcName → Option Value) (mg mb : Str → Option Value) (env : Env) (Lf : Addr) (base g : Heap) (L : Addr) (s : Shared) (E : Value → Shared → Prop),
    Below (nomA d u [env]) base [env] g → env.frame = some Lf → Fr g L s.heap (fun y => binds.reverse.lookup y) → News g L s.heap [] → K.In base → Top p loose mean mg mb base → K.In g → Top p loose mean mg mb g → P (hid g [env]) →
    wpAny (model prog w) ((nomA d u [env]).deeper (envOf qual scope L f cdv)) (execs body (envOf qual scope L f cdv)) (CatchEnd g env r s)
      (fun e s' => wpAny (model prog w) ((nomA d u [env]).deeper (envOf qual scope L f cdv)) (leaving (envOf qual scope L f cdv) e) (fun _ s'' => E e s'') (fun e' s'' => E e' s'') s') s
end

theorem CatchEnd.intro1 {g : Heap} {env : Env} {r : Value → Prop} {s : Shared} {f : Flow} {h' : Heap} {tk : Nat} {L : Addr} {m : Str → Option Value} (F : Fr g L h' m) (hr : r (match f with | .ret v => v | _ => .none)) :
    CatchEnd g env r s f { s with heap := h', toks := tk } := ⟨h', tk, rfl, fun b o q => F.keep b o (hid_some q).1, Heap.UpToSlots.of_keeps F.keep, hr⟩
theorem CatchEnd.intro2 {g : Heap} {env : Env} {Lf : Addr} {r : Value → Prop} {s : Shared} {f : Flow} {h' : Heap} {tk : Nat} {L : Addr} {m : Str → Option Value} {o o' : Obj} {sl : Array (Option Value)} {news : List (Addr × Obj)} (hf : env.frame = some Lf) (F : Fr (hid g [env]) L h' m) (N : News (hid g [env]) L h' news)
    (hm : (Lf, o') ∈ news) (hg : g.get? Lf = some o) (ho : o' = { o with slots := sl }) (hr : r (match f with | .ret v => v | _ => .none)) :
    CatchEnd g env r s f { s with heap := h', toks := tk } := by
  refine ⟨h', tk, rfl, F.keep, fun b ob q hnf => ?_, hr⟩
  by_cases hb : b = Lf
  · subst hb
    obtain rfl : o = ob := Option.some.inj (hg.symm.trans q)
    exact ⟨sl, ho ▸ (N _ hm).1⟩
  · refine ⟨ob.slots, F.keep b ob (hideAll_get _ q fun hm' => ?_)⟩
    obtain ⟨env', h1, h2⟩ := List.mem_filterMap.mp hm'
    rw [List.mem_singleton.mp h1, hf] at h2
    exact hb (Option.some.inj h2).symm

section
variable {prog : Program} {w : World} {K : Frag} {p : Program} {loose : List Str} {d u : Nat} {f : Addr} {args : List Value} {P : Heap → Prop} {r : Value → Prop}
theorem CatchF.enter {name qual : Str} {params : Arguments} {body : List Stmt} {scope : Scope} {dV kV doc pm cdv ct oc : Value} {an od : Option Addr} {osl : Array (Option Value)} {binds : List (Str × Value)}
    (ho : K.lookup f = some ⟨oc, od, .func (fnOf name qual params body scope dV kV doc pm an cdv ct), osl⟩) (hcd : codeIn K cdv qual = true) (hroom : d < recursionLimit)
    (hbind : bindArgs (fnOf name qual params body scope dV kV doc pm an cdv ct) ⟨args, []⟩ = pure binds) (hloc : ∀ y ∈ binds, scope.names.lookup y.1 = some .local)
    (hco : scope.isCoroutine = false) (hgen : scope.isGenerator = false) (hk : scope.kind = .function) (hcell : ∀ x ∈ scope.names, x.2 ≠ .cell)
    (h : CatchBody prog w K p loose d u f qual scope cdv body binds P r) : CatchF prog w K p loose d u f args P r := by
  intro mean mg mb env Lf base s Q E B hf X T hp hq
  have Xs : K.In s.heap := X.keeps B.stays
  have Ts : Top p loose mean mg mb s.heap := T.keeps B.stays
  refine wpAny_call (codeAny_call_def (fd := fnX name qual params body scope [] dV kV doc pm an cdv ct) (body := body) (binds := binds) hroom (Xs _ _ ho) rfl Ts.nolimit (codeRec_of Xs hcd) rfl (.of_eq hbind) hcell hloc (fun h₁ hns hk₁ => ?_) hco hgen hk)
  have F₁ : Fr s.heap s.heap.objs.size h₁ (fun y => binds.reverse.lookup y) := ⟨hns, fun b o e => hk₁ b o e, Nat.le_refl _⟩
  refine wpAny_mono (h mean mg mb env Lf base s.heap s.heap.objs.size { s with heap := h₁, toks := s.toks + binds.length } E B hf F₁ News.nil X T Xs Ts hp) (fun fl s' he => ?_) fun _ _ y => y
  obtain ⟨h', tk, rfl, a, b, c⟩ := he
  exact hq _ h' tk a b c

theorem told_get {A : Around} {s : Shared} {E : Value → Shared → Prop} {Q : Value → Shared → Prop} {expr : Bool} {h₀ : Heap} {L : Addr} {m : Str → Option Value} {news : List (Addr × Obj)} {e dx : Addr} {oe od : Obj} {ws : Array Value} {v : Value} (XK : ExcK K) (F : Fr h₀ L s.heap m) (X : K.In h₀) (N : News h₀ L s.heap news)
    (me : (e, oe) ∈ news) (md : (dx, od) ∈ news) (hc : oe.cls = .ref 45) (hdx : oe.dict = some dx) (hdat : oe.data = .fields ws) (ht : TellsO od "told" v) (hh : handedOut v = pure v) (hq : ∀ tk, Q v { s with toks := tk }) :
    wpAny (model prog w) A (getAttr (.ref e) "told" expr) Q E s := by
  obtain ⟨hp, g, d, tk, os⟩ := s
  obtain ⟨nm, q, bs, sn, sub, ab, col, dd, k0, k1, k2, k3, k5, hC⟩ := XK.c45
  obtain ⟨c0, ddD, cdD, slD, hD, hns31⟩ := XK.c32
  have X₁ : K.In hp := X.keeps F.keep
  have hnD : hp.Ns cdD.ns (hp.nsMap 31) := by rw [hns31]; exact .of_isNs (isNs_of_in X₁ XK.ok31)
  obtain ⟨es, ep, h1, h2, h3⟩ := ht
  refine load2_attr PySem.F.attrBase_Exception (X₁ _ _ hC) (.of_isNs (isNs_of_in X₁ XK.ok44)) (X₁ _ _ hD) hnD (nsMap_none_of_in X₁ XK.ok44 XK.a3) (nsMap_none_of_in X₁ XK.ok31 XK.b3) (nsMap_none_of_in X₁ XK.ok44 XK.a4) (nsMap_none_of_in X₁ XK.ok31 XK.b4)
    (nsMap_none_of_in X₁ XK.ok44 XK.a5) (nsMap_none_of_in X₁ XK.ok31 XK.b5) told_E (N _ me).1 hc hdx hdat ⟨od, es, ep, (N _ md).1, h1, h2, fun _ => rfl⟩ h3 hh (hq _)
end
end

section
set_option maxHeartbeats 4000000
local macro_rules | `(tactic| walk_at "MakeEnd") => `(tactic| (refine MakeEnd.intro (by assumption) rfl ?_))
local macro_rules | `(tactic| walk_at "call ref") => `(tactic| (k_here; (with_reducible show wpAny _ _ (call (Value.ref 69) _) _ _ _); k_dflt (refine' PureF.use (s_check _ _ _ _ ?kv) ?k1 ?k2 ?k3 ?k4 ?k5 ?kA ?kh ?kd ?ku ?kf ?kk ?kp ?_; walk_at "MINE use"; (case kp => exact RangesV.grown (by assumption) (Fr.keep (by assumption))); (case kv => assumption); k_whole); intro v' h' tk' G' F' N' r'; (unfold isV at r'; subst r')))

theorem s_table (w : World) (lw lm lj : Addr) (W M J : List (Int × Int)) (vW vM vJ : List Value) (hW : ValidR W) (hM : ValidR M) (hJ : ValidR J) :
    PureF PP w (KF w) VV LL 354 380 100 [.ref lw, .ref lm, .ref lj] (fun h => RangesV h lw vW W ∧ RangesV h lm vM M ∧ RangesV h lj vJ J) (fun v h => ∃ t, v = .ref t ∧ TabAt h t W M J) := by
  unfold PP KF VV LL
  k_fill
  refine' PureF.make (fI := 83) (binds := fun x => [(Str.ofString "self", .ref x), (Str.ofString "wide", .ref lw), (Str.ofString "marks", .ref lm), (Str.ofString "joiners", .ref lj)]) ?k1 ?k2 ?k3 ?k6 ?k7 ?k8 ?k9 ?kB ?c2 ?c3 ?c4 ?c5 ?h
  case k1 => k_is
  case k2 => k_is
  case k3 => k_is
  case k6 => k_dflt k_is
  case k7 => k_dflt k_is
  case k8 => decide
  case k9 => intro x; with_unfolding_all exact rfl
  case kB => intro x; exact locs rfl
  case c2 => exact rfl
  case c3 => exact rfl
  case c4 => exact rfl
  case c5 => decide
  intro mean mg mb outer base g L s x dx B F N hlt X T hp
  obtain ⟨r1, r2, r3⟩ := hp
  replace hlt : @LT.lt Nat _ dx x := hlt
  (try dsimp only); k_unmd
  k_fold
  k_steps
  rename Fr _ _ _ _ => F9
  rename News _ _ _ _ => N9
  exact ⟨dx, lw, lm, lj, _, _, _, _, _, _, (N9 (x, _) (.tail _ (.head _))).1, (N9 (dx, _) (.tail _ (.tail _ (.head _)))).1, ⟨vW, r1.grown F9.keep⟩, ⟨vM, r2.grown F9.keep⟩, ⟨vJ, r3.grown F9.keep⟩⟩

/-- the place of the first wrong range of the first wrong list -/
def firstWrong (W M J : List (Int × Int)) : Option Nat :=
  match wrongAt (-1) 0 W with
  | some i => some i
  | none => match wrongAt (-1) 0 M with
    | some i => some i
    | none => wrongAt (-1) 0 J


local macro_rules | `(tactic| walk_at "call ref") => `(tactic| (k_here; (with_reducible show wpAny _ _ (call (Value.ref 69) _) _ _ _); k_dflt (first
  | (refine' PureF.use (s_check _ _ _ _ ?kv) ?k1 ?k2 ?k3 ?k4 ?k5 ?kA ?kh ?kd ?ku ?kf ?kk ?kp ?_; walk_at "MINE use"; (case kp => exact RangesV.grown (by assumption) (Fr.keep (by assumption))); (case kv => assumption); k_whole; intro v' h' tk' G' F' N' r'; (unfold isV at r'; subst r'))
  | (refine' ThrowF.use (s_check_bad _ _ _ _ _ ?kv) ?k1 ?k2 ?k4 ?k5 ?kA ?kh ?kd ?ku ?kf ?kk ?kp ?_; (case k1 => k_asm); (case k2 => k_asm); (case k4 => k_asm); (case k5 => k_asm); (case kA => exact rfl); (case kh => exact rfl); (case kd => exact Nat.le_of_ble_eq_true rfl); (case ku => exact Nat.le_of_ble_eq_true rfl); (case kf => exact rfl); (case kk => exact rfl);
     (case kp => exact RangesV.grown (by assumption) (Fr.keep (by assumption))); (case kv => assumption); intro e' s' ht'; exact leave_thrown (by assumption) (by assumption) ht' ⟨_, _, rfl⟩ (by assumption)))))
theorem s_table_bad (w : World) (lw lm lj : Addr) (W M J : List (Int × Int)) (vW vM vJ : List Value) (at_ : Nat) (hv : firstWrong W M J = some at_) :
    ThrowF PP w (KF w) VV LL 354 380 100 [.ref lw, .ref lm, .ref lj] (fun h => RangesV h lw vW W ∧ RangesV h lm vM M ∧ RangesV h lj vJ J) at_ := by
  unfold PP KF VV LL
  k_fill
  refine' ThrowF.make (fI := 83) (binds := fun x => [(Str.ofString "self", .ref x), (Str.ofString "wide", .ref lw), (Str.ofString "marks", .ref lm), (Str.ofString "joiners", .ref lj)]) ?k1 ?k2 ?k3 ?k6 ?k7 ?k8 ?k9 ?kB ?c2 ?c3 ?c4 ?c5 ?h
  case k1 => k_is
  case k2 => k_is
  case k3 => k_is
  case k6 => k_dflt k_is
  case k7 => k_dflt k_is
  case k8 => decide
  case k9 => intro x; with_unfolding_all exact rfl
  case kB => intro x; exact locs rfl
  case c2 => exact rfl
  case c3 => exact rfl
  case c4 => exact rfl
  case c5 => decide
  intro mean mg mb outer base g L s x dx R B F N hlt X T hp hR
  obtain ⟨r1, r2, r3⟩ := hp
  replace hlt : @LT.lt Nat _ dx x := hlt
  unfold firstWrong at hv
  (try dsimp only); k_unmd
  k_fold
  cases hW : wrongAt (-1) 0 W with
  | some i =>
    rw [hW] at hv
    obtain rfl : i = at_ := Option.some.inj hv
    k_steps
  | none =>
    rw [hW] at hv
    replace hW : ValidR W := hW
    cases hM : wrongAt (-1) 0 M with
    | some i =>
      rw [hM] at hv
      obtain rfl : i = at_ := Option.some.inj hv
      k_steps
    | none =>
      rw [hM] at hv
      replace hM : ValidR M := hM
      replace hv : wrongAt (-1) 0 J = some at_ := hv
      k_steps
end

section
local macro_rules | `(tactic| walk_at "MINE pad") => `(tactic| skip)
set_option maxHeartbeats 4000000
local macro_rules | `(tactic| walk_at "CatchEnd") => `(tactic| (refine Halt.mk ?_))
local macro_rules | `(tactic| walk_at "call ref") => `(tactic| (k_here; (with_reducible show wpAny _ _ (call (Value.ref 100) _) _ _ _); k_dflt (first
  | (refine' PureF.use (s_table _ _ _ _ _ _ _ _ _ _ ?kv1 ?kv2 ?kv3) ?k1 ?k2 ?k3 ?k4 ?k5 ?kA ?kh ?kd ?ku ?kf ?kk ?kp ?_; walk_at "MINE use"; (case kp => exact ⟨RangesV.grown (by assumption) (Fr.keep (by assumption)), RangesV.grown (by assumption) (Fr.keep (by assumption)), RangesV.grown (by assumption) (Fr.keep (by assumption))⟩); (case kv1 => assumption); (case kv2 => assumption); (case kv3 => assumption); k_whole; intro v' h' tk' G' F' N' r'; ((obtain ⟨t', r'⟩ := r'); (obtain ⟨e', r'⟩ := r'); subst e'))
  | (refine' ThrowF.use (s_table_bad _ _ _ _ _ _ _ _ _ _ _ ?kv) ?k1 ?k2 ?k4 ?k5 ?kA ?kh ?kd ?ku ?kf ?kk ?kp ?_; (case k1 => k_asm); (case k2 => k_asm); (case k4 => k_asm); (case k5 => k_asm); (case kA => exact rfl); (case kh => exact rfl); (case kd => exact Nat.le_of_ble_eq_true rfl); (case ku => exact Nat.le_of_ble_eq_true rfl); (case kf => exact rfl); (case kk => exact rfl);
     (case kp => exact ⟨RangesV.grown (by assumption) (Fr.keep (by assumption)), RangesV.grown (by assumption) (Fr.keep (by assumption)), RangesV.grown (by assumption) (Fr.keep (by assumption))⟩); (case kv => assumption); k_whole; refine Halt.mk ?_))))

local macro_rules | `(tactic| walk_at "getAttr ref") => `(tactic| (k_here; (with_reducible show wpAny _ _ (getAttr (Value.ref _) (PySem.Str.ofString "told") _) _ _ _); refine Halt.mk ?_))

theorem s_refused (w : World) (lo l0 l1 l2 : Addr) (v0 v1 v2 : List Value) (W M J : List (Int × Int)) :
    CatchF PP w (KF w) VV LL 345 370 207 [.ref lo] (fun h => h.IsList lo #[.ref l0, .ref l1, .ref l2] ∧ RangesV h l0 v0 W ∧ RangesV h l1 v1 M ∧ RangesV h l2 v2 J) (isOpt (firstWrong W M J)) := by
  have XK := excK w
  unfold PP KF VV LL
  unfold KF at XK
  k_fill
  refine' CatchF.enter (binds := [(Str.ofString "lots", .ref lo)]) ?k6 ?k7 ?k8 ?k9 ?kB ?c2 ?c3 ?c4 ?c5 ?h
  walk_at "MINE open"
  intro mean mg mb env Lf base g L s E B hf F N XB TB X T hp
  obtain ⟨rl, r0, r1, r2⟩ := hp
  have hg : Grown (hid g [env]) g := fun b o q => (hid_some q).1
  replace rl := isList_grown rl hg
  replace r0 := r0.grown hg
  replace r1 := r1.grown hg
  replace r2 := r2.grown hg
  (try dsimp only); k_unmd
  k_fold
  cases hw : firstWrong W M J with
  | none =>
    have hW : ValidR W := by unfold firstWrong at hw; unfold ValidR; split at hw <;> first | assumption | cases hw
    have hM : ValidR M := by unfold firstWrong at hw; unfold ValidR; split at hw <;> first | (split at hw <;> first | assumption | cases hw) | cases hw
    have hJ : ValidR J := by unfold firstWrong at hw; unfold ValidR; split at hw <;> first | (split at hw <;> first | assumption | cases hw) | cases hw
    k_steps
    unfold Halt
    exact CatchEnd.intro1 (by assumption) (by rw [hw]; rfl)
  | some i =>
    k_steps
    rename Fr _ _ _ _ => F1
    rename News _ _ _ _ => N1
    unfold Halt
    rintro e' s' ⟨e, dx, od, t, h', tk', rfl, rfl, hr, htell, hu, hdx⟩
    have hfr : ∃ oL, g.get? Lf = some oL ∧ (∀ vs, oL.data ≠ .fields vs) := by
      obtain ⟨_, ⟨L', o, h1, _, h3, h4⟩, _⟩ := B.frames
      rw [hf] at h1
      obtain rfl := Option.some.inj h1
      exact ⟨o, h3, h4⟩
    obtain ⟨oL, hgL, hnL⟩ := hfr
    refine caught_D (bm := .ref 32 :: bmE) B F1 hu hr XB (topRead_of TB) ?kx ?kC rfl ?kk ?kd ?kn ?kL
    case kx => k_is
    case kd => obtain ⟨es, ep, h1, _⟩ := htell; exact ⟨es, ep, h1⟩
    case kC => intro h' X'; obtain ⟨nm, q, bs, sn, sub, ab, col, dd, k0, k1, k2, k3, k5, hC⟩ := XK.c45; exact ⟨nm, q, 44, bs, true, sn, sub, ab, col, dd, k0, k1, k2, k3, k5, _, X' _ _ hC⟩
    case kn =>
      cases q : g.get? dx with
      | none => rfl
      | some o => rw [F1.keep _ _ q] at hdx; cases hdx
    case kL =>
      rintro rfl
      obtain ⟨oL', _, _, eL, _⟩ := F1.ns
      rw [eL] at hdx; cases hdx
    case kk =>
      intro h2 tk2 oe ws F2 N2 hc hd2 hdat hu2
      obtain ⟨sl, hsl⟩ := hu2 _ _ hgL hnL
      have hLL : Lf ≠ L := by
        rintro rfl
        have h1 := ltS hgL; have h2 := F1.above; exact absurd h1 (Nat.not_lt.mpr h2)
      have N3 : News (hid g [env]) L h2 [(e, oe), (dx, od), (Lf, { oL with slots := sl })] := by
        intro q hq
        rcases List.mem_cons.mp hq with rfl | hq
        · exact N2 _ (.head _)
        · rcases List.mem_cons.mp hq with rfl | hq
          · exact N2 _ (.tail _ (.head _))
          · rw [List.mem_singleton.mp hq]
            exact ⟨hsl, hLL, hideAll_none _ (List.mem_filterMap.mpr ⟨env, List.mem_singleton.mpr rfl, hf⟩)⟩
      have XG := XB.keeps (Below.hid_stays B)
      have TG := TB.keeps (Below.hid_stays B)
      clear N2 hr hu F1 N1 X T
      k_unmd
      k_steps
      unfold Halt
      refine told_get XK F2 XG N3 (.head _) (.tail _ (.head _)) hc hd2 hdat htell rfl fun tk => ?_
      k_steps
      unfold Halt
      refine CatchEnd.intro2 hf (by assumption) (by assumption) (.tail _ (.tail _ (.head _))) hgL rfl (by rw [hw]; exact ⟨_, rfl⟩)
end

section
set_option maxHeartbeats 4000000
local macro_rules | `(tactic| walk_at "MINE openC") => `(tactic| (
  (case k6 => k_dflt k_is)
  (case k7 => k_dflt k_is)
  (case k8 => decide)
  (case k9 => with_unfolding_all exact rfl)
  (case kB => exact rfl)
  (case kD => decide +kernel)
  (case c2 => exact rfl)
  (case c3 => exact rfl)
  (case c4 => exact rfl)))
local macro_rules | `(tactic| walk_at "eval ListComp") => `(tactic| (k_here; lct_look; k_dflt (refine comp_seq (F₀ := by k_asm) (by with_unfolding_all rfl) (by decide) (by rfl) (by decide) (by rfl) ?_)))
local macro_rules | `(tactic| walk_at "TestEnd") => `(tactic| (k_dflt (refine' TestEnd.intro ?k1 ?k2 ?k3 ?k4; (case k1 => k_asm); (case k2 => k_asm); (case k3 => lcg_sub); (case k4 => first | rfl | exact and_no (by assumption) | exact and_yes (by assumption)))))
local macro_rules | `(tactic| walk_at "compareOp NotEq ref ref") => `(tactic| (k_here; k_dflt (refine' ne_nil_pairs ?k1 ?k2 ?k3 ?k4 ?_; (case k1 => is_list); (case k2 => is_list); (case k3 => exact All2.mono (by assumption) fun _ _ x => PairV.grown x (Fr.keep (by assumption))); (case k4 => ke_room); k_whole)))
local macro_rules | `(tactic| walk_at "SeqSrc") => `(tactic| (k_here; k_dflt (refine' SeqSrc.pairs ?km ?kh ?k1 ?k2 ?k3 ?k4 ?k5 ?k6 (fun k' b' t' u' I' oI' C' oC' D' m' ys' h' tk' E' hT' hC' hx' F' N' off' ne' => ?_) (fun ys' D' h' tk' hP' F' N' o1' => ?_); (case km => assumption); (case kh => exact rfl); (case k1 => k_asm); (case k2 => k_asm); (case k3 => assumption); (case k4 => exact fun _ => rfl); (case k5 => exact fun _ => rfl); (case k6 => decide); (all_goals try (rename LCg.Off3 _ _ _ _ => off'; simp only [LCg.Off3, and_true] at off')))))

theorem s_holds (w : World) (l : Addr) (c : Int) (t : Tok) (vs : List Value) (ps : List (Int × Int)) :
    PureF PP w (KF w) VV LL 352 370 167 [.ref l, .int c t] (fun h => RangesV h l vs ps) (isV (.bool (holdsR ps c))) := by
  unfold PP KF VV LL
  k_fill
  refine' PureF.enterC (binds := [(Str.ofString "ranges", .ref l), (Str.ofString "code", .int c t)]) ?k6 ?k7 ?k8 ?k9 ?kB ?kD ?c2 ?c3 ?c4 ?h
  walk_at "MINE openC"
  intro mean mg mb outer base g L s cells B F N Y X T hp
  k_cells Y
  have hQ : QMark (fun p : Int × Int => decide (p.1 ≤ c) && decide (c ≤ p.2)) := trivial
  (try dsimp only); k_unmd
  k_fold
  k_steps
  all_goals rw [filter_holds]

local macro_rules | `(tactic| walk_at "call ref") => `(tactic| (k_here; (with_reducible show wpAny _ _ (call (Value.ref 167) _) _ _ _); k_dflt (refine' PureF.use (s_holds _ _ _ _ _ _) ?k1 ?k2 ?k3 ?k4 ?k5 ?kA ?kh ?kd ?ku ?kf ?kk ?kp ?_; walk_at "MINE use"; (case kp => exact RangesV.grown (by assumption) (Fr.keep (by assumption))); k_whole; intro v' h' tk' G' F' N' r'; (unfold isV at r'; subst r'))))
/-- the three lists -/
theorem s_lwidth (w : World) (lo l0 l1 l2 : Addr) (c : Int) (t : Tok) (v0 v1 : List Value) (W M : List (Int × Int)) :
    PureF PP w (KF w) VV LL 350 365 174 [.ref lo, .int c t] (fun h => h.IsList lo #[.ref l0, .ref l1, .ref l2] ∧ RangesV h l0 v0 W ∧ RangesV h l1 v1 M) (isI (widthR W M c)) := by
  unfold PP KF VV LL
  k_fill
  refine' PureF.enter (binds := [(Str.ofString "lots", .ref lo), (Str.ofString "code", .int c t)]) ?k6 ?k7 ?k8 ?k9 ?kB ?c2 ?c3 ?c4 ?c5 ?h
  walk_at "MINE open"
  intro mean mg mb outer base g L s B F N X T hp
  obtain ⟨hl, h0, h1⟩ := hp
  (try dsimp only); k_unmd
  k_fold
  k_steps
  all_goals exact isI_of (by rw [widthR]; simp only [*]; rfl)
end

section
set_option maxHeartbeats 4000000
local macro_rules | `(tactic| walk_at "MINE bound") => `(tactic| first | omega | exact Nat.le_trans (List.length_filter_le _ _) (by omega) | (simp; omega))
local macro_rules | `(tactic| walk_at "eval ListComp") => `(tactic| (k_here; lct_look; k_dflt (refine comp_seq (F₀ := by k_asm) (by with_unfolding_all rfl) (by decide) (by rfl) (by decide) (by rfl) ?_)))
local macro_rules | `(tactic| walk_at "SeqSrc") => `(tactic| (k_here; k_dflt (refine' SeqSrc.ints isReg ?kh ?k1 ?k2 ?k3 ?k4 ?k5 ?k6 (fun k' t' I' oI' C' oC' D' m' ys' h' tk' E' hk' hC' hx' F' N' off' ne' => ?_) (fun ys' D' h' tk' hI' hL' F' N' o1' => ?_); (case kh => exact rfl); (case k1 => k_asm); (case k2 => k_asm); (case k3 => assumption); (case k4 => exact fun _ => rfl); (case k5 => exact fun _ => rfl); (case k6 => decide); (all_goals try (rename LCg.Off3 _ _ _ _ => off'; simp only [LCg.Off3, and_true] at off')))))
local macro_rules | `(tactic| walk_at "TestEnd") => `(tactic| (k_dflt (refine' TestEnd.intro ?k1 ?k2 ?k3 ?k4; (case k1 => k_asm); (case k2 => k_asm); (case k3 => lcg_sub); (case k4 => first | rfl | (rw [isReg, Bool.decide_and]; first | exact and_no (by assumption) | exact and_yes (by assumption))))))
theorem s_regions (w : World) (a : Addr) (ns : List Int) : ListF PP w (KF w) VV LL 352 370 179 [.ref a] (fun h => SeqI h a ns) (ns.filter isReg) := by
  intro g₀
  unfold PP KF VV LL
  k_fill
  refine' PureF.enter (binds := [(Str.ofString "codes", .ref a)]) ?k6 ?k7 ?k8 ?k9 ?kB ?c2 ?c3 ?c4 ?c5 ?h
  walk_at "MINE open"
  intro mean mg mb outer base g L s B F N X T hp
  obtain ⟨hg, hS⟩ := hp
  subst hg
  (try dsimp only); k_unmd
  k_fold
  k_steps
  all_goals exact newL.intro (by assumption) (by k_mem) (by assumption)

local macro_rules | `(tactic| walk_at "call ref") => `(tactic| (k_here; (with_reducible show wpAny _ _ (call (Value.ref 167) _) _ _ _); k_dflt (refine' PureF.use (s_holds _ _ _ _ _ _) ?k1 ?k2 ?k3 ?k4 ?k5 ?kA ?kh ?kd ?ku ?kf ?kk ?kp ?_; walk_at "MINE use"; (case kp => exact RangesV.grown (by assumption) (Fr.keep (by assumption))); k_whole; intro v' h' tk' G' F' N' r'; (unfold isV at r'; subst r'))))
local macro_rules | `(tactic| walk_at "call ref") => `(tactic| (k_here; (with_reducible show wpAny _ _ (call (Value.ref 174) _) _ _ _); k_dflt (refine' PureF.use (s_lwidth _ _ _ _ _ _ _ _ _ _ _) ?k1 ?k2 ?k3 ?k4 ?k5 ?kA ?kh ?kd ?ku ?kf ?kk ?kp ?_; walk_at "MINE use"; (case kp => exact ⟨isList_grown (by assumption) (Fr.keep (by assumption)), RangesV.grown (by assumption) (Fr.keep (by assumption)), RangesV.grown (by assumption) (Fr.keep (by assumption))⟩); k_whole; intro v' h' tk' G' F' N' r'; (obtain ⟨t', r'⟩ := r'; subst r'))))
local macro_rules | `(tactic| walk_at "call ref") => `(tactic| (k_here; (with_reducible show wpAny _ _ (call (Value.ref 179) _) _ _ _); k_dflt (refine' ListF.use (s_regions _ _ _) ?k1 ?k2 ?k3 ?k4 ?k5 ?kA ?kh ?kd ?ku ?kf ?kk ?kp ?_; walk_at "MINE use"; (case kp => first | exact SeqI.grown (by assumption) (Fr.keep (by assumption)) | exact SeqI.one (by k_asm) (by k_mem) | exact SeqI.led (by k_asm) (by k_mem) (by assumption) (by walk_at "MINE bound")); k_whole; intro a' ys' h' tk' G' F' N' hI')))
local macro_rules | `(tactic| walk_at "call builtin:len") => `(tactic| (k_here; (with_reducible show wpAny _ _ (call (Value.builtin "len") [Value.ref _]) _ _ _); k_dflt (refine' seqI_lenH ?k1 ?_; (case k1 => first | exact SeqI.grown (by assumption) (Fr.keep (by assumption)) | exact SeqI.led (by k_asm) (by k_mem) (by assumption) (by walk_at "MINE bound")); k_whole; intro t' tk')))
local macro_rules | `(tactic| walk_at "subscriptTail") => `(tactic| (k_here; (with_reducible show wpAny _ _ (subscriptTail _ _ (Value.ref _) (Value.int (-1) _)) _ _ _); (with_unfolding_all refine' seqI_m1 ?k1 ?k2 ?k3 ?_; (case k1 => k_asm); (case k2 => assumption); (case k3 => omega); k_whole); intro t'))
local macro_rules | `(tactic| walk_at "subscriptTail") => `(tactic| (k_here; (with_reducible show wpAny _ _ (subscriptTail _ _ (Value.ref _) (Value.int 0 _)) _ _ _); (with_unfolding_all refine' seqI_z ?k1 ?k2 ?k3 ?_; (case k1 => k_asm); (case k2 => assumption); (case k3 => omega); k_whole); intro t'))
local macro_rules | `(tactic| walk_at "compareOp Eq ref ref") => `(tactic| (k_here; k_dflt (refine' eq_nil_ints ?k1 ?k2 ?k3 ?k4 ?_; (case k1 => is_list); (case k2 => is_list); (case k3 => l_ints); (case k4 => ke_room); k_whole)))
local macro_rules | `(tactic| walk_at "compareOp NotEq ref ref") => `(tactic| (k_here; k_dflt (refine' ne_nil_ints ?k1 ?k2 ?k3 ?k4 ?_; (case k1 => is_list); (case k2 => is_list); (case k3 => l_ints); (case k4 => ke_room); k_whole)))
theorem s_ljoins (w : World) (lo l0 l1 l2 a : Addr) (c : Int) (k : Tok) (v0 v1 v2 vs : List Value) (W M J : List (Int × Int)) (ns : List Int) :
    PureF PP w (KF w) VV LL 348 360 186 [.ref lo, .ref a, .int c k] (fun h => h.IsList lo #[.ref l0, .ref l1, .ref l2] ∧ RangesV h l0 v0 W ∧ RangesV h l1 v1 M ∧ RangesV h l2 v2 J ∧ h.IsList a vs.toArray ∧ IntsAre vs ns ∧ ns.length ≤ 900) (isV (.bool (joinsN W M J ns c))) := by
  unfold PP KF VV LL
  k_fill
  refine' PureF.enter (binds := [(Str.ofString "lots", .ref lo), (Str.ofString "codes", .ref a), (Str.ofString "code", .int c k)]) ?k6 ?k7 ?k8 ?k9 ?kB ?c2 ?c3 ?c4 ?c5 ?h
  walk_at "MINE open"
  intro mean mg mb outer base g L s B F N X T hp
  obtain ⟨hl, h0, h1, h2, ha, hI, hn⟩ := hp
  have hln := hI.length
  have hS : SeqI g a ns := ⟨vs, .inl ha, hI, by omega⟩
  (try dsimp only); k_unmd
  k_fold
  k_steps
  all_goals (refine congrArg Value.bool ?_)
  all_goals (first
    | exact (joins_0 (by assumption)).symm
    | exact (joins_1 (by assumption) (by assumption)).symm
    | exact lj_3 (by assumption) (by assumption) (by assumption) (by assumption) (by assumption) (by assumption) (by assumption)
    | exact lj_4 (by assumption) (by assumption) (by assumption) (by assumption) (by assumption) (by assumption)
    | exact lj_5 (by assumption) (by assumption) (by assumption) (by assumption) (by assumption) (by assumption)
    | exact lj_6 (by assumption) (by assumption) (by assumption) (by omega) (by assumption) (by assumption)
    | exact lj_7 (by assumption) (by assumption) (by assumption) (by omega) (by assumption) (by assumption)
    | exact lj_8 (by assumption) (by assumption) (by assumption) (by omega) (by assumption)
    | exact lj_12 (by assumption) (by assumption) (by assumption) (by assumption)
    | exact lj_13 (by assumption) (by assumption) (by assumption) (by assumption))

local macro_rules | `(tactic| walk_at "compareOp In int ref") => `(tactic| (k_here; k_dflt (refine' seqI_in ?k1 ?k2 ?_; (case k1 => k_asm); (case k2 => assumption); k_whole)))
theorem s_lcolumns (w : World) (lo l0 l1 l2 a : Addr) (v0 v1 v2 vs : List Value) (W M J : List (Int × Int)) (ns : List Int) :
    PureF PP w (KF w) VV LL 348 360 193 [.ref lo, .ref a] (fun h => h.IsList lo #[.ref l0, .ref l1, .ref l2] ∧ RangesV h l0 v0 W ∧ RangesV h l1 v1 M ∧ RangesV h l2 v2 J ∧ h.IsList a vs.toArray ∧ IntsAre vs ns ∧ ns.length ≤ 900) (isI (columnsN W M J ns)) := by
  unfold PP KF VV LL
  k_fill
  refine' PureF.enter (binds := [(Str.ofString "lots", .ref lo), (Str.ofString "codes", .ref a)]) ?k6 ?k7 ?k8 ?k9 ?kB ?c2 ?c3 ?c4 ?c5 ?h
  walk_at "MINE open"
  intro mean mg mb outer base g L s B F N X T hp
  obtain ⟨hl, h0, h1, h2, ha, hI, hn⟩ := hp
  have hln := hI.length
  have hS : SeqI g a ns := ⟨vs, .inl ha, hI, by omega⟩
  (try dsimp only); k_unmd
  k_fold
  k_steps
  all_goals (first
    | exact isI_of (columns_0 (by assumption))
    | exact isI_of (columns_1 (by assumption) (by assumption))
    | exact isI_of (columns_2 (by assumption) (by assumption))
    | exact isI_of (columns_3 (by assumption) (by assumption) (by assumption) (by assumption) (by assumption))
    | exact isI_of ((columns_4 (by assumption) (by assumption) (by assumption) (.inr (by assumption))).trans (if_pos (by assumption)))
    | exact isI_of ((columns_4 (by assumption) (by assumption) (by assumption) (.inr (by assumption))).trans (if_neg (by assumption)))
    | exact isI_of ((columns_4 (by assumption) (by assumption) (by assumption) (.inl (by assumption))).trans (if_pos (by assumption)))
    | exact isI_of ((columns_4 (by assumption) (by assumption) (by assumption) (.inl (by assumption))).trans (if_neg (by assumption))))
end

section
set_option maxHeartbeats 4000000
local macro_rules | `(tactic| walk_at "exec For Tuple Call cons nil") => `(tactic| (k_here; (with_reducible refine wpAny_For ?_ ?_); rotate_left; exact fun _ => rfl))
local macro_rules | `(tactic| walk_at "call type:enumerate") => `(tactic| (refine Halt.mk ?_))
local macro_rules | `(tactic| walk_at "TurnEnd") => `(tactic| (refine Halt.mk ?_))
local macro_rules | `(tactic| walk_at "subscriptTail Name BinOp ref int") => `(tactic| (k_here; (with_reducible show wpAny _ _ (subscriptTail _ _ (Value.ref _) (Value.int _ _)) _ _ _); (with_unfolding_all refine' RangesV.item ?k1 ?k2 ?k3 ?k4 ?_; (case k1 => k_asm); (case k2 => assumption); (case k3 => walk_at "MINE arith"); (case k4 => walk_at "MINE arith"); k_whole); intro a' t' u' hT'))
theorem s_wrong (w : World) (l : Addr) (vs : List Value) (ps : List (Int × Int)) : PureF PP w (KF w) VV LL 352 370 200 [.ref l] (fun h => RangesV h l vs ps) (fun v _ => isOpt (wrongAt (-1) 0 ps) v) := by
  unfold PP KF VV LL
  k_fill
  refine' PureF.enter (binds := [(Str.ofString "ranges", .ref l)]) ?k6 ?k7 ?k8 ?k9 ?kB ?c2 ?c3 ?c4 ?c5 ?h
  walk_at "MINE open"
  intro mean mg mb outer base g L s B F N X T hp
  have hln := hp.len
  (try dsimp only); k_unmd
  k_fold
  k_steps
  rename Fr _ _ _ _ => F1
  unfold Halt
  refine for_enum (fun i m => m (Str.ofString "ranges") = some (.ref l) ∧ ∀ j, j < i → okR (-1) ps j) rfl rfl hp.1 F1 ⟨rfl, fun j h => absurd h (Nat.not_lt_zero j)⟩ ?turn ?done ?hE
  case hE => passes_own
  case done =>
    rintro h tk m ⟨e1, ho⟩ F2
    clear F1
    have N2 : News g L h [] := News.nil
    dsimp only
    k_unmd
    k_steps
    all_goals (rw [wrongAt_all fun j hj => ho j (by rw [List.size_toArray, hln.1]; exact hj)]; rfl)
  case turn =>
    rintro i v m1 h tk T1 own t1 hi ⟨e1, ho⟩ F2 N2 hoff
    obtain ⟨hi', a, t3, t4, rfl, hT⟩ := hp.at hi
    have htest := okR_test ho
    clear F1
    replace F2 := frOver F2 [(Str.ofString "ranges", .ref l)] (allCons e1 allNil)
    k_unmd
    k_fold
    k_steps
    all_goals unfold Halt
    all_goals (rename News _ _ _ _ => N9)
    iterate 3
      · dsimp only [TurnEnd]
        k_steps
        have hbad : ¬ okR (-1) ps i := fun z => by
          have q := htest.mp z
          first | exact q.1 (by assumption) | exact q.2.1 (by assumption) | exact q.2.2 (by omega) (by rename (_ ≤ _) => hx; rwa [show ((i : Int) - 1).toNat = i - 1 by omega] at hx)
        rw [wrongAt_first (k := 0) hi' ho hbad, Nat.zero_add]
        exact ⟨_, rfl⟩
    · have hgood := htest.mpr ⟨by assumption, by assumption, fun _ => by rename (¬ (_ ≤ (ps.getD ((i : Int) - 1).toNat (0, 0)).2)) => hx; rwa [show ((i : Int) - 1).toNat = i - 1 by omega] at hx⟩
      refine ⟨_, _, _, rfl, by assumption, fun p hp => N9 p (List.mem_cons_of_mem _ hp), rfl, fun j hj => ?_⟩
      by_cases q : j = i
      · exact q ▸ hgood
      · exact ho j (by omega)
    · have hgood := htest.mpr ⟨by assumption, by assumption, fun q => absurd q (by omega)⟩
      refine ⟨_, _, _, rfl, by assumption, fun p hp => N9 p (List.mem_cons_of_mem _ hp), rfl, fun j hj => ?_⟩
      by_cases q : j = i
      · exact q ▸ hgood
      · exact ho j (by omega)
end

section
set_option maxHeartbeats 4000000
local macro_rules | `(tactic| walk_at "compareOp NotEq ref ref") => `(tactic| (k_here; k_dflt (refine' ne_nil_ints ?k1 ?k2 ?k3 ?k4 ?_; (case k1 => is_list); (case k2 => is_list); (case k3 => l_ints); (case k4 => ke_room); k_whole)))
local macro_rules | `(tactic| walk_at "call builtin:list.pop") => `(tactic| (k_here; (with_reducible show wpAny _ _ (call (Value.builtin _) _) _ _ _); k_dflt (refine' kpa_pop ?F ?N ?U ?i ?l ?z ?_; (case F => k_asm); (case N => k_asm); (case U => k_upd); (case i => with_reducible assumption); (case l => omega); (case z => (rw [PySem.sizeLine_eq]; omega)); k_whole; (intro h' t' F' N' hI'; (try dsimp only [List.nil_append, List.cons_append] at N')))))
local macro_rules | `(tactic| walk_at "MutEnd") => `(tactic| (refine Halt.mk ?_))
theorem fmod_ge (a : Int) {b : Int} (h : 0 < b) : 0 ≤ a.fmod b := Int.fmod_nonneg_of_pos a h
theorem fmod_lt (a : Int) {b : Int} (h : 0 < b) : a.fmod b < b := Int.fmod_lt_of_pos a h
def DeckD (w : World) (lc : Addr) (od ol : Obj) : Prop := ∃ (vs : List Value) (cs : List Int) (n : Nat) (mx : Int) (tx : Tok), od.IsDictOf (strKind PP w) [(Str.ofString "cells", .ref lc), (Str.ofString "mixed", .int mx tx)] ∧ ol = W.listOf vs.toArray n ∧ IntsAre vs cs ∧ vs.length ≤ 1000 ∧ 0 ≤ mx ∧ mx < 2147483647
def drawR (w : World) (d lc : Addr) (many : Int) (v : Value) (own' : List (Addr × Obj)) (_ : Heap) : Prop := ∃ r t od' ol', v = .int r t ∧ 0 ≤ r ∧ r < many ∧ own' = [(d, od'), (lc, ol')] ∧ DeckD w lc od' ol'
theorem s_draw (w : World) (d lc : Addr) (od ol : Obj) (many : Int) (tm : Tok) (hne : @Ne Nat d lc) (h0 : 0 < many) (hD : DeckD w lc od ol) :
    MutF PP w (KF w) VV LL 352 370 162 [.ref d, .int many tm] [(d, od), (lc, ol)] (fun _ => True) (drawR w d lc many) := by
  obtain ⟨vs, cs, n, mx, tx, hod, rfl, hI, hn, hm0, hm1⟩ := hD
  have hln := hI.length
  unfold PP KF VV LL
  unfold PP at hod
  k_fill
  refine' MutF.enter (binds := [(Str.ofString "deck", .ref d), (Str.ofString "many", .int many tm)]) ?k6 ?k7 ?k8 ?k9 ?kB ?c2 ?c3 ?c4 ?c5 ?h
  walk_at "MINE open"
  intro mean mg mb outer base g L s B F N lo X T hp
  (try dsimp only); k_unmd
  k_fold
  k_steps
  all_goals unfold Halt
  all_goals refine MutEnd.intro2 (by assumption) (by assumption) (by k_mem) (by k_mem) ?_
  all_goals (refine ⟨_, _, _, _, rfl, fmod_ge _ h0, fmod_lt _ h0, rfl, ?_⟩)
  · exact ⟨_, _, _, _, _, by assumption, rfl, hI, hn, fmod_ge _ (by decide), fmod_lt _ (by decide)⟩
  · exact ⟨_, _, _, _, _, hod, rfl, by assumption, by rw [List.length_dropLast]; omega, hm0, hm1⟩
end

section
set_option maxHeartbeats 4000000
def newDeck (w : World) (g₀ : Heap) : Value → Heap → Prop := fun v h' => ∃ d lc od ol, v = .ref d ∧ h'.get? d = some od ∧ h'.get? lc = some ol ∧ g₀.get? d = none ∧ g₀.get? lc = none ∧ @Ne Nat d lc ∧ DeckD w lc od ol
theorem deck_fold (ns : List Int) : ∀ a : Int, 0 ≤ a → a < 2147483647 → 0 ≤ ns.foldl (fun a n => (a * 31 + n).fmod 1000003) a ∧ ns.foldl (fun a n => (a * 31 + n).fmod 1000003) a < 2147483647 := by
  induction ns with
  | nil => intro a h0 h1; exact ⟨h0, h1⟩
  | cons n r ih =>
    intro a h0 h1
    have h2 := fmod_ge (a * 31 + n) (b := 1000003) (by decide)
    have h3 := fmod_lt (a * 31 + n) (b := 1000003) (by decide)
    exact ih _ h2 (Int.lt_trans h3 (by decide))
theorem s_deck (w : World) (l : Addr) (vs : List Value) (ns : List Int) (g₀ : Heap) :
    PureF PP w (KF w) VV LL 352 370 155 [.ref l] (fun h => h = g₀ ∧ h.IsList l vs.toArray ∧ IntsAre vs ns ∧ ns.length ≤ 63) (newDeck w g₀) := by
  unfold PP KF VV LL
  k_fill
  refine' PureF.enter (binds := [(Str.ofString "script", .ref l)]) ?k6 ?k7 ?k8 ?k9 ?kB ?c2 ?c3 ?c4 ?c5 ?h
  walk_at "MINE open"
  intro mean mg mb outer base g L s B F N X T hp
  obtain ⟨hg, hl, hI, hn⟩ := hp
  subst hg
  have hln := hI.length
  (try dsimp only); k_unmd
  k_fold
  k_steps
  rename IntsAre _ (List.reverse _) => hI9
  rename List.length (List.reverse _) = _ => hC9
  rename News _ _ _ _ => N9
  have hl9 := hI9.length
  have hr := deck_fold (List.map (fun k => k) (List.take 40 ns)) 11 (by decide) (by decide)
  refine ⟨_, _, _, _, rfl, (N9 _ (.tail _ (.head _))).1, (N9 _ (.head _)).1, (N9 _ (.tail _ (.head _))).2.2, (N9 _ (.head _)).2.2, ?_, _, _, _, _, _, by assumption, rfl, hI9, ?_, hr.1, hr.2⟩
  · omega
  · rw [hl9, hC9, List.length_map, List.length_take]; omega
end

section
set_option maxHeartbeats 4000000
section
variable {A A₀ : Around} {mean : ExcName → Option Value} {mg mb : Str → Option Value} {env : Env} {outer : List Env} {base h₀ : Heap} {L : Addr} {m : Str → Option Value} {news : List (Addr × Obj)} {s : Shared} {Q E : Value → Shared → Prop}
theorem newsAdd {h h' : Heap} {a : Addr} {o : Obj} (F : Fr h₀ L h m) (N : News h₀ L h' news) (e : h'.get? a = some o) (hn : h.get? a = none) : News h₀ L h' ((a, o) :: news) := by
  intro q hq
  rcases List.mem_cons.mp hq with rfl | hq
  · refine ⟨e, fun z => ?_, ?_⟩
    · have z' : a = L := z
      obtain ⟨oL, es, ep, eL, _⟩ := F.ns
      rw [← z', hn] at eL; cases eL
    · cases q : h₀.get? a with
      | none => rfl
      | some o => rw [F.keep _ _ q] at hn; cases hn
  · exact N q hq
theorem deck_use (w : World) {l : Addr} {vs : List Value} {ns : List Int} (hl : h₀.IsList l vs.toArray) (hI : IntsAre vs ns) (hn : ns.length ≤ 63)
    (B : Below A₀ base outer h₀) (F : Fr h₀ L s.heap m) (X : (KF w).In h₀) (N : News h₀ L s.heap news) (T : Top VV LL mean mg mb h₀) (hA : A.frames = some (env :: outer)) (hh : A.handled = none) (hd : A.depth ≤ 352) (hu : A.units ≤ 370)
    (hf : env.frame = some L) (hk : env.scope.kind = .function)
    (ret : ∀ d lc od ol h' tk, Fr h₀ L h' m → News h₀ L h' ((d, od) :: (lc, ol) :: news) → DeckD w lc od ol → @Ne Nat d lc → (∀ p ∈ news, @Ne Nat p.1 d ∧ @Ne Nat p.1 lc) → Q (.ref d) { s with heap := h', toks := tk }) :
    wpAny (model PP w) A (call (.ref 155) [.ref l]) Q E s := by
  refine PureF.use (s_deck w l vs ns s.heap) B F X N T hA hh hd hu hf hk ⟨rfl, isList_grown hl F.keep, hI, hn⟩ ?_
  rintro v h' tk G F' N' ⟨d, lc, od, ol, rfl, h1, h2, h3, h4, hne, hD⟩
  refine ret d lc od ol h' tk F' (newsAdd F (newsAdd F N' h2 h4) h1 h3) hD hne fun p hp => ⟨fun z => ?_, fun z => ?_⟩
  · have q := (N p hp).1; have z' : p.1 = d := z; rw [z', h3] at q; cases q
  · have q := (N p hp).1; have z' : p.1 = lc := z; rw [z', h4] at q; cases q
theorem draw_use (w : World) {d lc : Addr} {od ol : Obj} {many : Int} {tm : Tok} {g1 : Obj → List (Addr × Obj)} {g2 : Obj → Obj → List (Addr × Obj)} (hD : DeckD w lc od ol) (hne : @Ne Nat d lc) (h0 : 0 < many)
    (B : Below A₀ base outer h₀) (F : Fr h₀ L s.heap m) (X : (KF w).In h₀) (N : News h₀ L s.heap news) (T : Top VV LL mean mg mb h₀) (hA : A.frames = some (env :: outer)) (hh : A.handled = none) (hd : A.depth ≤ 352) (hu : A.units ≤ 370)
    (hf : env.frame = some L) (hk : env.scope.kind = .function) (U1 : UpdF d od news g1) (U2 : ∀ o', UpdF lc ol (g1 o') (g2 o'))
    (ret : ∀ r t h' tk od' ol', Fr h₀ L h' m → News h₀ L h' (g2 od' ol') → DeckD w lc od' ol' → 0 ≤ r → r < many → Q (.int r t) { s with heap := h', toks := tk }) :
    wpAny (model PP w) A (call (.ref 162) [.ref d, .int many tm]) Q E s := by
  refine MutF.use2 (s_draw w d lc od ol many tm hne h0 hD) B F X N T hA hh hd hu hf hk U1 U2 trivial ?_
  rintro v h' tk oa ob F' N' ⟨r, t, od', ol', rfl, r0, r1, e, hD'⟩
  cases e
  exact ret r t h' tk _ _ F' N' hD' r0 r1
end
end

section
set_option maxHeartbeats 4000000
local macro_rules | `(tactic| walk_at "MakeEnd") => `(tactic| (refine MakeEnd.intro (by assumption) rfl ?_))
local macro_rules | `(tactic| walk_at "call ref") => `(tactic| (k_here; (with_reducible show wpAny _ _ (call (Value.ref 69) _) _ _ _); k_dflt (refine' PureF.use (s_check _ _ _ _ ?kv) ?k1 ?k2 ?k3 ?k4 ?k5 ?kA ?kh ?kd ?ku ?kf ?kk ?kp ?_; walk_at "MINE use"; (case kp => exact RangesV.grown (by assumption) (Fr.keep (by assumption))); (case kv => assumption); k_whole); intro v' h' tk' G' F' N' r'; (unfold isV at r'; subst r')))

def newTab (g₀ : Heap) (lw lm lj : Addr) (v : Value) (h' : Heap) : Prop := ∃ t dx h1 h2 h3 k1 k2 k3, v = .ref t ∧ h'.get? t = some (instObj 100 dx) ∧
  h'.get? dx = some (dictOf [⟨h1, .str (Str.ofString "wide") k1, .ref lw⟩, ⟨h2, .str (Str.ofString "marks") k2, .ref lm⟩, ⟨h3, .str (Str.ofString "joiners") k3, .ref lj⟩] 3) ∧ g₀.get? t = none ∧ g₀.get? dx = none ∧ @Ne Nat t dx
theorem s_tableN (w : World) (g₀ : Heap) (lw lm lj : Addr) (W M J : List (Int × Int)) (vW vM vJ : List Value) (hW : ValidR W) (hM : ValidR M) (hJ : ValidR J) :
    PureF PP w (KF w) VV LL 354 380 100 [.ref lw, .ref lm, .ref lj] (fun h => h = g₀ ∧ RangesV h lw vW W ∧ RangesV h lm vM M ∧ RangesV h lj vJ J) (newTab g₀ lw lm lj) := by
  unfold PP KF VV LL
  k_fill
  refine' PureF.make (fI := 83) (binds := fun x => [(Str.ofString "self", .ref x), (Str.ofString "wide", .ref lw), (Str.ofString "marks", .ref lm), (Str.ofString "joiners", .ref lj)]) ?k1 ?k2 ?k3 ?k6 ?k7 ?k8 ?k9 ?kB ?c2 ?c3 ?c4 ?c5 ?h
  case k1 => k_is
  case k2 => k_is
  case k3 => k_is
  case k6 => k_dflt k_is
  case k7 => k_dflt k_is
  case k8 => decide
  case k9 => intro x; with_unfolding_all exact rfl
  case kB => intro x; exact locs rfl
  case c2 => exact rfl
  case c3 => exact rfl
  case c4 => exact rfl
  case c5 => decide
  intro mean mg mb outer base g L s x dx B F N hlt X T hp
  obtain ⟨hg, r1, r2, r3⟩ := hp
  subst hg
  replace hlt : @LT.lt Nat _ dx x := hlt
  (try dsimp only); k_unmd
  k_fold
  k_steps
  rename Fr _ _ _ _ => F9
  rename News _ _ _ _ => N9
  exact ⟨x, dx, _, _, _, _, _, _, rfl, (N9 (x, _) (.tail _ (.head _))).1, (N9 (dx, _) (.tail _ (.tail _ (.head _)))).1, (N9 (x, _) (.tail _ (.head _))).2.2, (N9 (dx, _) (.tail _ (.tail _ (.head _)))).2.2, Ne.symm (Nat.ne_of_lt hlt)⟩
end

section
set_option maxHeartbeats 800000
def Off2 (a b : Addr) (l : List (Addr × Obj)) : Prop := ∀ p ∈ l, @Ne Nat p.1 a ∧ @Ne Nat p.1 b
abbrev tabDict (h1 h2 h3 : Int) (k1 k2 k3 : Tok) (l0 l1 l2 : Addr) : Obj := dictOf [⟨h1, .str (Str.ofString "wide") k1, .ref l0⟩, ⟨h2, .str (Str.ofString "marks") k2, .ref l1⟩, ⟨h3, .str (Str.ofString "joiners") k3, .ref l2⟩] 3
section
variable {A A₀ : Around} {mean : ExcName → Option Value} {mg mb : Str → Option Value} {env : Env} {outer : List Env} {base h₀ : Heap} {L : Addr} {m : Str → Option Value} {news : List (Addr × Obj)} {s : Shared} {Q E : Value → Shared → Prop}
theorem ranges_led {h : Heap} {l : Addr} {vs : List Value} {ps : List (Int × Int)} (F : Fr h₀ L h m) (N : News h₀ L h news) (hm : (l, LCg.lst vs) ∈ news) (hp : PairsAre h₀ vs ps) (hb : ps.length ≤ 1000) : RangesV h l vs ps :=
  rangesV_of (isList_lst (N _ hm).1) (pairs_grown hp F.keep) hb
theorem tab_led {h : Heap} {t dx l0 l1 l2 : Addr} {h1 h2 h3 : Int} {k1 k2 k3 : Tok} {v0 v1 v2 : List Value} {W M J : List (Int × Int)} (N : News h₀ L h news) (m1 : (t, instObj 100 dx) ∈ news) (m2 : (dx, tabDict h1 h2 h3 k1 k2 k3 l0 l1 l2) ∈ news)
    (r0 : RangesV h l0 v0 W) (r1 : RangesV h l1 v1 M) (r2 : RangesV h l2 v2 J) : TabAt h t W M J := ⟨dx, l0, l1, l2, h1, h2, h3, k1, k2, k3, (N _ m1).1, (N _ m2).1, ⟨v0, r0⟩, ⟨v1, r1⟩, ⟨v2, r2⟩⟩
theorem table_use (w : World) {l0 l1 l2 : Addr} {v0 v1 v2 : List Value} {W M J : List (Int × Int)} (hW : ValidR W) (hM : ValidR M) (hJ : ValidR J)
    (B : Below A₀ base outer h₀) (F : Fr h₀ L s.heap m) (X : (KF w).In h₀) (N : News h₀ L s.heap news) (T : Top VV LL mean mg mb h₀) (hA : A.frames = some (env :: outer)) (hh : A.handled = none) (hd : A.depth ≤ 354) (hu : A.units ≤ 380)
    (hf : env.frame = some L) (hk : env.scope.kind = .function) (r0 : RangesV s.heap l0 v0 W) (r1 : RangesV s.heap l1 v1 M) (r2 : RangesV s.heap l2 v2 J)
    (ret : ∀ t dx h1 h2 h3 k1 k2 k3 h' tk, Fr h₀ L h' m → News h₀ L h' ((t, instObj 100 dx) :: (dx, tabDict h1 h2 h3 k1 k2 k3 l0 l1 l2) :: news) → Off2 t dx news → Q (.ref t) { s with heap := h', toks := tk }) :
    wpAny (model PP w) A (call (.ref 100) [.ref l0, .ref l1, .ref l2]) Q E s := by
  refine PureF.use (s_tableN w s.heap l0 l1 l2 W M J v0 v1 v2 hW hM hJ) B F X N T hA hh hd hu hf hk ⟨rfl, r0, r1, r2⟩ ?_
  rintro v h' tk G F' N' ⟨t, dx, h1, h2, h3, k1, k2, k3, rfl, e1, e2, n1, n2, hne⟩
  refine ret t dx h1 h2 h3 k1 k2 k3 h' tk F' (newsAdd F (newsAdd F N' e2 n2) e1 n1) fun p hp => ⟨fun z => ?_, fun z => ?_⟩
  · have q := (N p hp).1; have z' : p.1 = t := z; rw [z', n1] at q; cases q
  · have q := (N p hp).1; have z' : p.1 = dx := z; rw [z', n2] at q; cases q

/-- a def that catches, called from the only frame -/
theorem catch_use {prog : Program} {w : World} {K : Frag} {p : Program} {loose : List Str} {d u : Nat} {f : Addr} {args : List Value} {P : Heap → Prop} {r : Value → Prop} (S : CatchF prog w K p loose d u f args P r)
    (B : Below A₀ h₀ [] h₀) (F : Fr h₀ L s.heap m) (X : K.In h₀) (N : News h₀ L s.heap news) (T : Top p loose mean mg mb h₀) (hA : A.frames = some [env]) (hh : A.handled = none) (hd : A.depth ≤ d) (hu : A.units ≤ u)
    (hf : env.frame = some L) (hk : env.scope.kind = .function) (hp : P (hid s.heap [env]))
    (ret : ∀ v h' tk, Fr h₀ L h' m → News h₀ L h' news → r v → Q v { s with heap := h', toks := tk }) :
    wpAny (model prog w) A (call (.ref f) args) Q E s := by
  have hid1 : ∀ b o, @Ne Nat b L → s.heap.get? b = some o → (hid s.heap [env]).get? b = some o := fun b o hb e => hideAll_get _ e fun hm => by
    obtain ⟨env', h1, h2⟩ := List.mem_filterMap.mp hm
    rw [List.mem_singleton.mp h1, hf] at h2
    exact hb (Option.some.inj h2).symm
  have hL0 : h₀.get? L = none := Heap.get?_none_of_le F.above
  refine wp_nom (S mean mg mb env L h₀ s Q E (belowNow B F rfl hf hk) hf X T hp fun v h' tk st up hr => ?_) hh hd hA hu
  refine ret v h' tk ⟨up.ns F.ns, fun b o e => st b o (hid1 b o (fun z => ?_) (F.keep b o e)), F.above⟩ (fun q hq => ⟨st _ _ (hid1 _ _ (N q hq).2.1 (N q hq).1), (N q hq).2⟩) hr
  have z' : b = L := z
  rw [z', hL0] at e; cases e
end
end

section
set_option maxHeartbeats 8000000
local macro_rules | `(tactic| walk_at "CutN") => `(tactic| (refine Halt.mk ?_))
local macro_rules | `(tactic| walk_at "call ref") => `(tactic| (k_here; (with_reducible show wpAny _ _ (call (Value.ref 155) _) _ _ _); k_dflt (refine' deck_use _ ?kl ?ki ?kn ?k1 ?k2 ?k3 ?k4 ?k5 ?kA ?kh ?kd ?ku ?kf ?kk ?_; (case kl => assumption); (case ki => assumption); (case kn => omega); walk_at "MINE use"; k_whole; intro d' lc' od' ol' h' tk' F' N' hD' hne' hoff'; (obtain ⟨hoff1, hoff2⟩ := hoff' _ (.head _)); (replace hoff1 := neN hoff1); (replace hoff2 := neN hoff2); (replace hne' := neN hne'))))
theorem tupK {K : Frag} {h : Heap} {a : Addr} {dd : Option Addr} {its : Array Value} {n : Nat} {sl : Array (Option Value)} (X : K.In h) (e : K.lookup a = some ⟨.type "tuple", dd, .seq its n, sl⟩) : IsTup h a its := ⟨_, X _ _ e, rfl, n, rfl⟩
local macro_rules | `(tactic| k_ne) => `(tactic| (refine neN ?_; (try dsimp only); first | with_reducible assumption | with_reducible exact Ne.symm (by assumption) | with_reducible exact Nat.ne_of_lt (by assumption) | with_reducible exact Nat.ne_of_gt (by assumption) | omega))
local macro_rules | `(tactic| k_all) => `(tactic| with_reducible assumption)
local macro_rules | `(tactic| k_mem) => `(tactic| with_reducible assumption)
local macro_rules | `(tactic| walk_at "SeqSrc") => `(tactic| (refine Halt.mk ?_))
local macro_rules | `(tactic| walk_at "TestJ") => `(tactic| (refine Halt.mk ?_))
local macro_rules | `(tactic| walk_at "pyIter ref") => `(tactic| (refine Halt.mk ?_))
local macro_rules | `(tactic| walk_at "TurnV") => `(tactic| (refine Halt.mk ?_))
local macro_rules | `(tactic| walk_at "CompSrc") => `(tactic| (refine Halt.mk ?_))
local macro_rules | `(tactic| walk_at "CompEnd") => `(tactic| (refine Halt.mk ?_))
local macro_rules | `(tactic| walk_at "TupSrc") => `(tactic| (refine Halt.mk ?_))
def AllNe2 (d lc : Addr) : List Addr → Prop
  | [] => True
  | a :: r => (@Ne Nat a d ∧ @Ne Nat a lc) ∧ AllNe2 d lc r
theorem allNe2_cons {d lc a : Addr} {r : List Addr} (h1 : @Ne Nat a d) (h2 : @Ne Nat a lc) (h : AllNe2 d lc r) : AllNe2 d lc (a :: r) := ⟨⟨h1, h2⟩, h⟩
theorem allNe2_of {d lc : Addr} : ∀ {l : List (Addr × Obj)}, (∀ p ∈ l, p.1 ≠ d ∧ p.1 ≠ lc) → AllNe2 d lc (l.map (·.1))
  | [], _ => trivial
  | q :: r, h => ⟨h q (.head _), allNe2_of fun p hp => h p (.tail _ hp)⟩
theorem off1_d {D d lc : Addr} {o o' : Obj} {r : List (Addr × Obj)} (h : LCg.Off1 D ((d, o) :: (lc, o') :: r)) : @Ne Nat d D ∧ @Ne Nat lc D := ⟨h.1, h.2.1⟩
def lot0 : List (Int × Int) := [(12352, 12357), (127463, 127463), (128512, 128514)]
def lot1 : List (Int × Int) := [(768, 771), (8205, 8205), (8419, 8419), (65039, 65039)]
def lot2 : List (Int × Int) := [(10084, 10084), (127995, 127995), (128512, 128515)]
def lotN : Nat → List (Int × Int)
  | 0 => lot0
  | 1 => lot1
  | _ => lot2
theorem lotN_valid (i : Nat) : ValidR (lotN i) := by
  match i with
  | 0 => exact (by decide : wrongAt (-1) 0 lot0 = none)
  | 1 => exact (by decide : wrongAt (-1) 0 lot1 = none)
  | n + 2 => exact (by decide : wrongAt (-1) 0 lot2 = none)
theorem pairK {K : Frag} {h : Heap} {a : Addr} {dd : Option Addr} {x y : Int} {t u : Tok} {n : Nat} {sl : Array (Option Value)} (X : K.In h) (e : K.lookup a = some ⟨.type "tuple", dd, .seq #[.int x t, .int y u] n, sl⟩) : PairV h (.ref a) (x, y) := ⟨a, t, u, rfl, tupK X e⟩
theorem lots_item (w : World) {h : Heap} (X : (KF w).In h) {i : Nat} {v : Value} (hP : #[Value.ref 140, .ref 145, .ref 149][i]? = some v) : ∃ a vs, v = .ref a ∧ IsTup h a vs.toArray ∧ PairsAre h vs (lotN i) := by
  have key : PP = PP → (KF w).In h → ∃ a vs, v = .ref a ∧ IsTup h a vs.toArray ∧ PairsAre h vs (lotN i) := by
    unfold PP KF
    k_fill
    intro _ X
    have hi : i < 3 := (Array.getElem?_eq_some_iff.mp hP).1
    match i, hi with
    | 0, _ => obtain rfl := Option.some.inj hP; exact ⟨_, _, rfl, tupK X (by k_is), .cons (pairK X (by k_is)) (.cons (pairK X (by k_is)) (.cons (pairK X (by k_is)) .nil))⟩
    | 1, _ => obtain rfl := Option.some.inj hP; exact ⟨_, _, rfl, tupK X (by k_is), .cons (pairK X (by k_is)) (.cons (pairK X (by k_is)) (.cons (pairK X (by k_is)) (.cons (pairK X (by k_is)) .nil)))⟩
    | 2, _ => obtain rfl := Option.some.inj hP; exact ⟨_, _, rfl, tupK X (by k_is), .cons (pairK X (by k_is)) (.cons (pairK X (by k_is)) (.cons (pairK X (by k_is)) .nil))⟩
  exact key rfl X
abbrev Lt := Addr × List Value × List (Int × Int)
def wsN (ws : List Lt) : List (Addr × Obj) := ws.map fun x => (x.1, LCg.lst x.2.1)
def wsV (ws : List Lt) : List Value := ws.map fun x => Value.ref x.1
def WsOk (h : Heap) (lot : Nat → List (Int × Int)) (ws : List Lt) : Prop := ∀ (j : Nat) (x : Lt), ws[j]? = some x → PairsAre h x.2.1 x.2.2 ∧ x.2.2.Sublist (lot j)
theorem WsOk.snoc {h : Heap} {lot : Nat → List (Int × Int)} {ws : List Lt} {x : Lt} (o : WsOk h lot ws) (a : PairsAre h x.2.1 x.2.2) (b : x.2.2.Sublist (lot ws.length)) : WsOk h lot (ws ++ [x]) := by
  intro j y hy
  by_cases hj : j < ws.length
  · rw [List.getElem?_append_left hj] at hy; exact o j y hy
  · rw [List.getElem?_append_right (by omega)] at hy
    have : j - ws.length = 0 := by
      have := (List.getElem?_eq_some_iff.mp hy).1
      simp at this; omega
    rw [this] at hy
    obtain rfl := Option.some.inj hy
    rw [show j = ws.length by omega]
    exact ⟨a, b⟩
theorem off_map {I : Addr} {l l' : List (Addr × Obj)} (h : ∀ p ∈ l, p.1 ≠ I) (e : l.map (·.1) = l'.map (·.1)) : ∀ p ∈ l', p.1 ≠ I := fun p hp => by
  have : p.1 ∈ l.map (·.1) := e ▸ List.mem_map_of_mem hp
  obtain ⟨q, hq, e'⟩ := List.mem_map.mp this
  exact e' ▸ h q hq
theorem ints_item {vs : List Value} {ns : List Int} (hI : IntsAre vs ns) {i : Nat} {v : Value} (hv : vs.toArray[i]? = some v) : ∃ c t, v = .int c t ∧ ns[i]? = some c := by
  have hv' : vs[i]? = some v := by simpa using hv
  have hi : i < ns.length := by rw [← hI.length]; exact (List.getElem?_eq_some_iff.mp hv').1
  obtain ⟨t, ht⟩ := hI.get i ns[i] (by simp [hi])
  rw [hv'] at ht
  exact ⟨ns[i], t, Option.some.inj ht, by simp [hi]⟩
theorem add_ints_tup {prog : Program} {w : World} {A : Around} {E : Value → Shared → Prop} {s : Shared} {h₀ : Heap} {L : Addr} {m : Str → Option Value} {news : List (Addr × Obj)} {t b : Addr} {vs ws : List Value} {ns ms : List Int} {Q : Value → Shared → Prop} (F : Fr h₀ L s.heap m) (N : News h₀ L s.heap news) (ht : IsTup s.heap t vs.toArray) (hb : IsTup s.heap b ws.toArray)
    (hi : IntsAre vs ns) (hj : IntsAre ws ms) (hw : ws ≠ []) (h0 : ns ≠ [])
    (h2 : ∀ h' x us, Fr h₀ L h' m → News h₀ L h' ((x, { cls := .type "tuple", data := .seq (List.toArray us) }) :: news) → IntsAre us (ns ++ ms) → Q (.ref x) { s with heap := h' })
    (hsz : vs.length + ws.length ≤ sizeLine) : wpAny (model prog w) A (binaryOp .Add (.ref t) (.ref b)) Q E s :=
  add_tuples_right F N ht hb hi hj hw (fun e => absurd e h0) (fun h' F' N' hI' => h2 h' _ _ F' N' hI') hsz
theorem append_L {prog : Program} {w : World} {A : Around} {E : Value → Shared → Prop} {s : Shared} {h₀ : Heap} {L D : Addr} {m : Str → Option Value} {news news' : List (Addr × Obj)} {vs : List Value} {x : Value} {Q : Value → Shared → Prop} (F : Fr h₀ L s.heap m) (N : News h₀ L s.heap news) (U : Upd D (LCg.lst vs) (LCg.lst (vs ++ [x])) news news') (hb : vs.length ≤ 1000)
    (h : ∀ h', Fr h₀ L h' m → News h₀ L h' news' → Q .none { s with heap := h' }) : wpAny (model prog w) A (call (.builtin "list.append") [.ref D, x]) Q E s :=
  append_K (its := vs.toArray) (n := vs.length) F N (by rw [← LCg.lst_snoc] at U; exact U) h (by rw [List.size_toArray, sizeLine_eq]; omega)
theorem last_L {prog : Program} {w : World} {A : Around} {E : Value → Shared → Prop} {s : Shared} {h₀ : Heap} {L D : Addr} {news : List (Addr × Obj)} {vs : List Value} {x : Value} {value slice : Expr} {u : Tok} {Q : Value → Shared → Prop} (N : News h₀ L s.heap news) (hm : (D, LCg.lst (vs ++ [x])) ∈ news) (hb : vs.length ≤ 1000) (h : Q x s)
    (hs : subscripted slice false (.ref D) (.int (-1) u) = operate [.ref D, .int (-1) u] (getItem (.ref D) (.int (-1) u)) := by with_unfolding_all rfl) (hg : ∀ r, letTemporaryGo value (.ref D) r = pure () := by intro _; with_unfolding_all rfl) :
    wpAny (model prog w) A (subscriptTail value slice (.ref D) (.int (-1) u)) Q E s := by
  have hl := isList_lst (N.get hm)
  have hsz : (vs ++ [x]).toArray.size = vs.length + 1 := by simp
  refine subscriptTail_builtin hl.typeIs slot_list_getitem.lookup (wpAny_getItem_list_neg hl (by decide) (by rw [hsz]; omega) (by decide) (x := x) ?_ h) hs hg
  rw [hsz, show (-1 + ((vs.length + 1 : Nat) : Int)).toNat = vs.length by omega]
  simp
local macro_rules | `(tactic| walk_at "call builtin:list.append") => `(tactic| (k_here; (with_reducible show wpAny _ _ (call (Value.builtin _) [Value.ref _, _]) _ _ _); k_dflt (refine' append_L ?k1 ?k2 ?k3 ?k4 ?_; (case k1 => k_asm); (case k2 => k_asm); (case k3 => k_upd); (case k4 => omega); k_whole); intro h' F' N'))
local macro_rules | `(tactic| walk_at "subscriptTail") => `(tactic| (k_here; (with_reducible show wpAny _ _ (subscriptTail _ _ (Value.ref _) (Value.int (-1) _)) _ _ _); (with_unfolding_all refine' last_L ?k1 ?k2 ?k3 ?_; (case k1 => k_asm); (case k2 => k_mem); (case k3 => omega); k_whole)))
def OddOk (h₀ : Heap) (rest : List (Addr × Obj)) (xs : List Lt) : Prop := ∀ x ∈ xs, Froz h₀ rest fun h => RangesV h x.1 x.2.1 x.2.2
theorem froz_snoc {h₀ : Heap} {rest : List (Addr × Obj)} {vs : List Value} {ps : List (Int × Int)} {tp : Addr} {o : Obj} {x y : Int} {t u : Tok} {n : Nat} (Z : Froz h₀ rest fun h => PairsAre h vs ps) (hc : o.cls = .type "tuple") (hd : o.data = .seq #[.int x t, .int y u] n) :
    Froz h₀ ((tp, o) :: rest) fun h => PairsAre h (vs ++ [.ref tp]) (ps ++ [(x, y)]) := fun h k a =>
  All2.append (Z h k fun p hp => a p (.tail _ hp)) (.cons ⟨tp, t, u, rfl, o, a (tp, o) (.head _), hc, n, hd⟩ .nil)
theorem rest_elJ {prog : Program} {w : World} {A : Around} {s : Shared} {h₀ : Heap} {L : Addr} {m : Str → Option Value} {env : Env} {ct elt : Expr} {x : Str} {scope : Scope} {cl : List (Str × Addr)} {S : List (Addr × Obj) → Prop} {P : Nat → Value → Prop} {Fin : List Value → List (Addr × Obj) → Prop} {n : Nat} {news : List (Addr × Obj)} (J : Nat → List Value → List (Addr × Obj) → Prop)
    (hj : J 0 [] news)
    (turn : ∀ i v ys news I oI C oC D m₂ h tk (E' : Value → Shared → Prop), i < n → P i v → J i ys news → LCg.NsObj oC m₂ → m₂ x = some v → Fr h₀ L h m → News h₀ L h ((I, oI) :: (C, oC) :: (D, LCg.lst ys) :: news) → LCg.Off3 I C D news → ((@Ne Nat I C) ∧ (@Ne Nat I D) ∧ (@Ne Nat C D)) →
      wpAny (model prog w) A (isTrue ct (compEnvC scope cl C env) (eval ct (compEnvC scope cl C env))) (fun ok s' => if ok = true then
        wpAny (model prog w) A (eval elt (compEnvC scope cl C env)) (LCg.CompEnd h₀ L m { s with heap := h, toks := tk } I oI C oC D (LCg.lst ys) S (fun y news' => J (i + 1) (ys ++ [y]) news')) E' s'
        else LCg.CompEnd h₀ L m { s with heap := h, toks := tk } I oI C oC D (LCg.lst ys) S (fun _ news' => J (i + 1) ys news') Value.none s') E' { s with heap := h, toks := tk })
    (fin : ∀ ys news, J n ys news → Fin ys news) : LCt.CompRestT prog w A h₀ L m env ct elt x scope cl s S P Fin n 0 [] news := by
  have key : ∀ (j i : Nat) (ys : List Value) (news : List (Addr × Obj)), i + j = n → J i ys news → LCt.CompRestT prog w A h₀ L m env ct elt x scope cl s S P Fin j i ys news := by
    intro j
    induction j with
    | zero =>
      intro i ys news hi hJ
      exact fin ys news ((show i = n by omega) ▸ hJ)
    | succ j ih =>
      intro i ys news hi hJ
      refine LCt.CompRestT.succ ?_
      intro v I oI C oC D m₂ h tk E' hv hC hx F N off ne
      refine wpAny_mono (turn i v ys news I oI C oC D m₂ h tk E' (by omega) hv hJ hC hx F N off ne) (fun ok s' hq => ?_) fun _ _ e => e
      cases ok with
      | true =>
        simp only [if_true] at hq ⊢
        refine wpAny_mono hq (fun y s' hq => ?_) fun _ _ e => e
        obtain ⟨h', tk', news', rfl, F', N', off', hS', hJ'⟩ := hq
        exact ⟨h', tk', news', rfl, F', N', off', hS', ih (i + 1) _ _ (by omega) hJ'⟩
      | false =>
        simp only [Bool.false_eq_true, if_false] at hq ⊢
        obtain ⟨h', tk', news', rfl, F', N', off', hS', hJ'⟩ := hq
        exact ⟨h', tk', news', rfl, F', N', off', hS', ih (i + 1) _ _ (by omega) hJ'⟩
  exact key n 0 [] news (by omega) hj
def fW (x : Lt) : Option Int := (wrongAt (-1) 0 x.2.2).map fun k : Nat => (k : Int)
theorem take_fW {xs : List Lt} {i : Nat} {x : Lt} (h : xs[i]? = some x) : (xs.take (i + 1)).filterMap fW = (xs.take i).filterMap fW ++ (fW x).toList := by
  rw [List.take_add_one, h, List.filterMap_append]
  cases hx : fW x <;> simp [hx]
theorem wsV_get {xs : List Lt} {i : Nat} {v : Value} (h : (wsV xs).toArray[i]? = some v) : ∃ x, xs[i]? = some x ∧ v = .ref x.1 := by
  have h' : (wsV xs)[i]? = some v := by simpa using h
  unfold wsV at h'
  rw [List.getElem?_map] at h'
  cases hx : xs[i]? with
  | none => rw [hx] at h'; cases h'
  | some x => rw [hx] at h'; exact ⟨x, rfl, (Option.some.inj h').symm⟩
local macro_rules | `(tactic| walk_at "CompSrcT") => `(tactic| (refine Halt.mk ?_))
local macro_rules | `(tactic| walk_at "call ref") => `(tactic| (k_here; (with_reducible show wpAny _ _ (call (Value.ref 200) _) _ _ _); k_dflt (refine' PureF.use (s_wrong _ _ _ _) ?k1 ?k2 ?k3 ?k4 ?k5 ?kA ?kh ?kd ?ku ?kf ?kk ?kp ?_; walk_at "MINE use"; (case kp => exact Froz.at (by assumption) (by k_asm) (by k_asm) (by walk_at "MINE sub")); k_whole; intro v' h' tk' G' F' N' r'; first | (rw [(by assumption : wrongAt _ _ _ = none)] at r'; replace r' : v' = Value.none := r'; subst r') | (rw [(by assumption : wrongAt _ _ _ = some _)] at r'; obtain ⟨t', r'⟩ := r'; subst r'))))
local macro_rules | `(tactic| walk_at "call ref") => `(tactic| (k_here; (with_reducible show wpAny _ _ (call (Value.ref 207) _) _ _ _); refine Halt.mk ?_))
theorem first_fW (x0 x1 x2 : Lt) : match firstWrong x0.2.2 x1.2.2 x2.2.2 with | none => [x0, x1, x2].filterMap fW = [] | some k => ∃ r, [x0, x1, x2].filterMap fW = (k : Int) :: r := by
  unfold firstWrong
  cases h0 : wrongAt (-1) 0 x0.2.2 with
  | some k => exact ⟨[x1, x2].filterMap fW, by simp [List.filterMap_cons, fW, h0]⟩
  | none =>
    cases h1 : wrongAt (-1) 0 x1.2.2 with
    | some k => exact ⟨[x2].filterMap fW, by simp [List.filterMap_cons, fW, h0, h1]⟩
    | none =>
      cases h2 : wrongAt (-1) 0 x2.2.2 with
      | some k => exact ⟨[], by simp [List.filterMap_cons, fW, h0, h1, h2]⟩
      | none => simp [List.filterMap_cons, fW, h0, h1, h2]
theorem hid_news {h₀ h : Heap} {L : Addr} {m : Str → Option Value} {news : List (Addr × Obj)} {env : Env} (F : Fr h₀ L h m) (N : News h₀ L h news) (hf : env.frame = some L) : Grown h₀ (hid h [env]) ∧ ∀ p ∈ news, (hid h [env]).get? p.1 = some p.2 := by
  have hid1 : ∀ b o, @Ne Nat b L → h.get? b = some o → (hid h [env]).get? b = some o := fun b o hb e => hideAll_get _ e fun hm => by
    obtain ⟨env', h1, h2⟩ := List.mem_filterMap.mp hm
    rw [List.mem_singleton.mp h1, hf] at h2
    exact hb (Option.some.inj h2).symm
  have hL0 : h₀.get? L = none := Heap.get?_none_of_le F.above
  refine ⟨fun b o e => hid1 b o (fun z => ?_) (F.keep b o e), fun q hq => hid1 _ _ (N q hq).2.1 (N q hq).1⟩
  have z' : b = L := z
  rw [z', hL0] at e; cases e
theorem item0_L {prog : Program} {w : World} {A : Around} {E : Value → Shared → Prop} {s : Shared} {h₀ : Heap} {L D : Addr} {news : List (Addr × Obj)} {vs : List Value} {k : Int} {r : List Int} {value slice : Expr} {u : Tok} {Q : Value → Shared → Prop} (N : News h₀ L s.heap news) (hI : IntsAre vs (k :: r)) (hm : (D, LCg.lst vs) ∈ news) (h : ∀ t, Q (.int k t) s)
    (hs : subscripted slice false (.ref D) (.int 0 u) = operate [.ref D, .int 0 u] (getItem (.ref D) (.int 0 u)) := by with_unfolding_all rfl) (hg : ∀ r, letTemporaryGo value (.ref D) r = pure () := by intro _; with_unfolding_all rfl) :
    wpAny (model prog w) A (subscriptTail value slice (.ref D) (.int 0 u)) Q E s := by
  obtain ⟨t, ht⟩ := hI.get 0 k rfl
  exact item_listL (isList_lst (N.get hm)) (by decide) (by decide) ht (h t) hs hg
theorem ne_nil_L {prog : Program} {w : World} {A : Around} {E : Value → Shared → Prop} {s : Shared} {a b : Addr} {xs : List Value} {k : Int} {r : List Int} {Q : Value → Shared → Prop} (hi : IntsAre xs (k :: r)) (ha : s.heap.IsList a xs.toArray) (hb : s.heap.IsList b (#[] : Array Value)) (hu : A.units + 64 < cLine) (h : Q (.bool true) s) :
    wpAny (model prog w) A (compareOp .NotEq (.ref a) (.ref b)) Q E s := ne_nil_ints ha hb hi hu (by rw [decide_eq_false (by simp only [List.length_cons]; omega)]; exact h)
def lawCodes : List Int := [97, 769, 8205, 65039, 8419, 12354, 10084, 128512, 128515, 127995, 127462, 127463]
theorem codes_K (w : World) {h : Heap} (X : (KF w).In h) : ∃ vs, IsTup h 136 vs.toArray ∧ IntsAre vs lawCodes := by
  have key : PP = PP → (KF w).In h → ∃ vs, IsTup h 136 vs.toArray ∧ IntsAre vs lawCodes := by
    unfold PP KF
    k_fill
    intro _ X
    exact ⟨_, tupK X (by k_is), by repeat' constructor⟩
  exact key rfl X
local macro_rules | `(tactic| walk_at "binaryOp Add ref ref") => `(tactic| (refine Halt.mk ?_))
local macro_rules | `(tactic| walk_at "MINE all") => `(tactic| repeat (first | with_reducible assumption | exact List.forall_mem_nil _ | refine List.forall_mem_cons.mpr ⟨by k_ne, ?_⟩))
local macro_rules | `(tactic| walk_at "MINE sub") => `(tactic| repeat (first | exact List.forall_mem_nil _ | (refine List.forall_mem_cons.mpr ⟨by k_mem, ?_⟩) | (intro p hp; simp only [List.mem_cons, hp, or_true]; done)))
local macro_rules | `(tactic| walk_at "call type:range") => `(tactic| (k_here; (with_unfolding_all refine range1_rows (by k_asm) (by k_asm) ?_); intro h' tk' t₁ u₁ v₁ hR' F' N' k'))
theorem allLt_ne {a : Addr} : ∀ {l : List (Addr × Obj)}, AllLt a l → ∀ p ∈ l, p.1 ≠ a
  | [], _, _, h => nomatch h
  | _ :: _, x, p, h => by
    rcases List.mem_cons.mp h with rfl | h
    · exact Nat.ne_of_lt x.1
    · exact allLt_ne x.2 p h
theorem allLt6 {x a b c d e : Nat} {rest : List (Addr × Obj)} (h : a < x ∧ b < x ∧ c < x ∧ d < x ∧ e < x ∧ AllLt x rest) : ∀ p ∈ rest, p.1 ≠ x := allLt_ne h.2.2.2.2.2
local macro_rules | `(tactic| walk_at "MINE led") => `(tactic| exact ranges_led (by k_asm) (by k_asm) (by k_mem) (by assumption) (by assumption))
local macro_rules | `(tactic| walk_at "call ref") => `(tactic| (k_here; (with_reducible show wpAny _ _ (call (Value.ref 135) _) _ _ _); k_dflt (refine' PureF.use (s_cluster _ _ _ _ _ _ _ _ ?kv0 ?kv1 ?kv2) ?k1 ?k2 ?k3 ?k4 ?k5 ?kA ?kh ?kd ?ku ?kf ?kk ?kp ?_; walk_at "MINE use"; (case kp => exact ⟨News.isTup (by k_asm) (by k_mem), by assumption, by omega, tab_led (by k_asm) (by k_mem) (by k_mem) (by walk_at "MINE led") (by walk_at "MINE led") (by walk_at "MINE led")⟩); (case kv0 => assumption); (case kv1 => assumption); (case kv2 => assumption); k_whole; intro v' h' tk' G' F' N' r'; (obtain ⟨t', r'⟩ := r'; subst r'))))
local macro_rules | `(tactic| walk_at "call ref") => `(tactic| (k_here; (with_reducible show wpAny _ _ (call (Value.ref 193) _) _ _ _); k_dflt (refine' PureF.use (s_lcolumns _ _ _ _ _ _ _ _ _ _ _ _ _ _) ?k1 ?k2 ?k3 ?k4 ?k5 ?kA ?kh ?kd ?ku ?kf ?kk ?kp ?_; walk_at "MINE use"; (case kp => exact ⟨isList_lst (News.get (by k_asm) (by k_mem)), (by walk_at "MINE led"), (by walk_at "MINE led"), (by walk_at "MINE led"), isList_lst (News.get (by k_asm) (by k_mem)), by assumption, by omega⟩);  k_whole; intro v' h' tk' G' F' N' r'; (obtain ⟨t', r'⟩ := r'; subst r'))))
local macro_rules | `(tactic| walk_at "call ref") => `(tactic| (k_here; (with_reducible show wpAny _ _ (call (Value.ref 130) _) _ _ _); k_dflt (refine' PureF.use (s_joins _ _ _ _ _ _ _ _ _ ?kv0 ?kv1 ?kv2) ?k1 ?k2 ?k3 ?k4 ?k5 ?kA ?kh ?kd ?ku ?kf ?kk ?kp ?_; walk_at "MINE use"; (case kp => exact ⟨⟨_, .inr (News.isTup (by k_asm) (by k_mem)), by assumption, by omega⟩, tab_led (by k_asm) (by k_mem) (by k_mem) (by walk_at "MINE led") (by walk_at "MINE led") (by walk_at "MINE led")⟩); (case kv0 => assumption); (case kv1 => assumption); (case kv2 => assumption); k_whole; intro v' h' tk' G' F' N' r'; (unfold isV at r'; subst r'))))
local macro_rules | `(tactic| walk_at "call ref") => `(tactic| (k_here; (with_reducible show wpAny _ _ (call (Value.ref 186) _) _ _ _); k_dflt (refine' PureF.use (s_ljoins _ _ _ _ _ _ _ _ _ _ _ _ _ _ _ _) ?k1 ?k2 ?k3 ?k4 ?k5 ?kA ?kh ?kd ?ku ?kf ?kk ?kp ?_; walk_at "MINE use"; (case kp => exact ⟨isList_lst (News.get (by k_asm) (by k_mem)), (by walk_at "MINE led"), (by walk_at "MINE led"), (by walk_at "MINE led"), isList_lst (News.get (by k_asm) (by k_mem)), by assumption, by omega⟩);  k_whole; intro v' h' tk' G' F' N' r'; (unfold isV at r'; subst r'))))
local macro_rules | `(tactic| walk_at "call ref") => `(tactic| (k_here; (with_reducible show wpAny _ _ (call (Value.ref 90) _) _ _ _); k_dflt (refine' PureF.use (s_width_of _ _ _ _ _ _ _ ?kv0 ?kv1) ?k1 ?k2 ?k3 ?k4 ?k5 ?kA ?kh ?kd ?ku ?kf ?kk ?kp ?_; walk_at "MINE use"; (case kp => exact tab_led (by k_asm) (by k_mem) (by k_mem) (by walk_at "MINE led") (by walk_at "MINE led") (by walk_at "MINE led")); (case kv0 => assumption); (case kv1 => assumption); k_whole; intro v' h' tk' G' F' N' r'; (obtain ⟨t', r'⟩ := r'; subst r'))))
local macro_rules | `(tactic| walk_at "call ref") => `(tactic| (k_here; (with_reducible show wpAny _ _ (call (Value.ref 97) _) _ _ _); k_dflt (refine' PureF.use (s_is_picture _ _ _ _ _ _ _ ?kv0) ?k1 ?k2 ?k3 ?k4 ?k5 ?kA ?kh ?kd ?ku ?kf ?kk ?kp ?_; walk_at "MINE use"; (case kp => exact tab_led (by k_asm) (by k_mem) (by k_mem) (by walk_at "MINE led") (by walk_at "MINE led") (by walk_at "MINE led")); (case kv0 => assumption); k_whole; intro v' h' tk' G' F' N' r'; (unfold isV at r'; subst r'))))
local macro_rules | `(tactic| walk_at "call ref") => `(tactic| (k_here; (with_reducible show wpAny _ _ (call (Value.ref 174) _) _ _ _); k_dflt (refine' PureF.use (s_lwidth _ _ _ _ _ _ _ _ _ _ _) ?k1 ?k2 ?k3 ?k4 ?k5 ?kA ?kh ?kd ?ku ?kf ?kk ?kp ?_; walk_at "MINE use"; (case kp => exact ⟨isList_lst (News.get (by k_asm) (by k_mem)), (by walk_at "MINE led"), (by walk_at "MINE led")⟩);  k_whole; intro v' h' tk' G' F' N' r'; (obtain ⟨t', r'⟩ := r'; subst r'))))
local macro_rules | `(tactic| walk_at "call ref") => `(tactic| (k_here; (with_reducible show wpAny _ _ (call (Value.ref 167) _) _ _ _); k_dflt (refine' PureF.use (s_holds _ _ _ _ _ _) ?k1 ?k2 ?k3 ?k4 ?k5 ?kA ?kh ?kd ?ku ?kf ?kk ?kp ?_; walk_at "MINE use"; (case kp => exact (by walk_at "MINE led"));  k_whole; intro v' h' tk' G' F' N' r'; (unfold isV at r'; subst r'))))
local macro_rules | `(tactic| walk_at "call ref") => `(tactic| (k_here; (with_reducible show wpAny _ _ (call (Value.ref 100) _) _ _ _); k_dflt (refine' table_use _ ?kx ?ky ?kz ?k1 ?k2 ?k3 ?k4 ?k5 ?kA ?kh ?kd ?ku ?kf ?kk ?kr0 ?kr1 ?kr2 ?_; (case kr0 => walk_at "MINE led"); (case kr1 => walk_at "MINE led"); (case kr2 => walk_at "MINE led"); (case kx => assumption); (case ky => assumption); (case kz => assumption); walk_at "MINE use"; k_whole; intro t' dx' h1' h2' h3' k1' k2' k3' h' tk' F' N' hoff')))
local macro_rules | `(tactic| walk_at "call ref") => `(tactic| (k_here; (with_reducible show wpAny _ _ (call (Value.ref 162) _) _ _ _); k_dflt (refine' draw_use _ ?kx ?ky ?kz ?k1 ?k2 ?k3 ?k4 ?k5 ?kA ?kh ?kd ?ku ?kf ?kk ?kU ?kV ?_; (case kx => assumption); (case ky => assumption); (case kz => decide); walk_at "MINE use"; (case kU => k_updF); (case kV => (intro _; k_updF)); k_whole; intro r' t' h' tk' od' ol' F' N' hD' hr0' hr1'; (try dsimp only at N'))))
theorem pick_step {h : Heap} {vs zs : List Value} {qs ps : List (Int × Int)} {k : Nat} {v : Value} (b : Bool) (hP : PairsAre h vs qs) (hv : vs.toArray[k]? = some v) (hz : PairsAre h zs ps) (hs : ps.Sublist (qs.take k)) :
    ∃ ps' : List (Int × Int), PairsAre h (if b = true then zs ++ [v] else zs) ps' ∧ ps'.Sublist (qs.take (k + 1)) := by
  have hv' : vs[k]? = some v := by simpa using hv
  have hk : k < qs.length := by rw [← hP.length]; exact (List.getElem?_eq_some_iff.mp hv').1
  obtain ⟨v', e, hp⟩ := hP.get k qs[k] (by simp [hk])
  obtain rfl : v = v' := Option.some.inj (hv'.symm.trans e)
  have ht : qs.take (k + 1) = qs.take k ++ [qs[k]] := by rw [List.take_add_one]; simp [hk]
  rw [ht]
  cases b with
  | true => exact ⟨ps ++ [qs[k]], by simpa using hz.append (.cons hp .nil), hs.append (List.Sublist.refl _)⟩
  | false => exact ⟨ps, by simpa using hz, hs.trans (List.sublist_append_left _ _)⟩
theorem len3 {α : Type} {l : List α} (h : l.length = 3) : ∃ a b c, l = [a, b, c] := by
  match l, h with
  | [a, b, c], _ => exact ⟨a, b, c, rfl⟩
theorem off1_mem {D : Addr} : ∀ {l : List (Addr × Obj)}, LCg.Off1 D l → ∀ p ∈ l, p.1 ≠ D
  | [], _, _, h => nomatch h
  | _ :: _, x, p, h => by
    rcases List.mem_cons.mp h with rfl | h
    · exact x.1
    · exact off1_mem x.2 p h
theorem wsN_snoc (ws : List Lt) (x : Lt) : wsN (ws ++ [x]) = wsN ws ++ [(x.1, LCg.lst x.2.1)] := by simp [wsN]
theorem wsV_snoc (ws : List Lt) (x : Lt) : wsV (ws ++ [x]) = wsV ws ++ [Value.ref x.1] := by simp [wsV]
set_option maxHeartbeats 8000000 in
theorem law2 : PySem.Challenge.rw_og0230_02.Holds := by
  refine hd ?_
  k_go0
  rename Shared => s₁
  rename World => w
  rename Fr _ _ _ _ => F
  rename IntsAre _ _ => hI
  rename Heap.IsList _ _ _ => hL
  rename Top _ _ _ _ _ _ => T
  rename Frag.In _ _ => X
  rename Below _ _ _ _ => B
  rename CellsAre _ _ _ => Y
  rename News _ _ _ _ => N
  rename _ = Data.cell _ => hc
  rename ¬ (_ < _) => hcond
  rename Dflts .. => z1
  rename Heap.CodeRec .. => z2
  rename TopW .. => z3
  rename TopE .. => z4
  rename Tables .. => z5
  rename BMod .. => z6
  rename LooseAre .. => z8
  rename ReadsAllW .. => z9
  rename Reads .. => z10
  rename ReadsAll .. => z11
  rename Well .. => z12
  clear z1 z2 z3 z4 z5 z6 z8 z9 z10 z11 z12
  dsimp only at F ⊢
  change Below callerA s₁.heap [] s₁.heap at B
  k_unmd
  k_fold
  have hln := hI.length
  refine cut (h₀ := s₁.heap) (L := s₁.heap.objs.size) (fun m news => ∃ d lc od ol oc, news = [(d, od), (lc, ol), (s₁.heap.objs.size + 1, oc)] ∧ oc.data = Data.cell (some (.ref d)) ∧ DeckD w lc od ol ∧ @Ne Nat d lc ∧ @Ne Nat (s₁.heap.objs.size + 1) d ∧ @Ne Nat (s₁.heap.objs.size + 1) lc) ?ha ?hb
  case ha =>
    (try k_unmd); (try k_fold)
    k_steps
    unfold Halt
    exact CutN.intro (by assumption) (by assumption) _ (fun p hp => hp) ⟨_, _, _, _, _, rfl, by assumption, by assumption, by assumption, by assumption, by assumption⟩
  clear F N hc Y
  rintro h2 tk2 m2 news2 F N ⟨d, lc, od, ol, oc, rfl, hoc, hD, hn1, hn2, hn3⟩
  dsimp only
  refine cut (h₀ := s₁.heap) (L := s₁.heap.objs.size) (fun m news => ∃ od ol lo l0 l1 l2 v0 v1 v2 W M J, news = [(d, od), (lc, ol), (s₁.heap.objs.size + 1, oc), (lo, LCg.lst [.ref l0, .ref l1, .ref l2]), (l0, LCg.lst v0), (l1, LCg.lst v1), (l2, LCg.lst v2)] ∧ DeckD w lc od ol ∧
    m (Str.ofString "lots") = some (.ref lo) ∧ PairsAre s₁.heap v0 W ∧ PairsAre s₁.heap v1 M ∧ PairsAre s₁.heap v2 J ∧ W.Sublist lot0 ∧ M.Sublist lot1 ∧ J.Sublist lot2 ∧ AllNe2 d lc [lo, l0, l1, l2]) ?hc ?hd
  case hc =>
    (try k_unmd); (try k_fold)
    refine assign_comp_tup F (by with_unfolding_all rfl) (by with_unfolding_all rfl) (by decide) (by rfl) (by decide) (by rfl) (by rfl) (by rfl) ?_
    (try k_unmd); (try k_fold)
    k_steps
    unfold Halt
    have F0 := F
    refine ⟨_, _, _, rfl, rfl, by assumption, by assumption, tupK X (by k_is), by decide +kernel, fun g => rest_inv (fun i ys news => ∃ od ol ws, ws.length = i ∧ ys = wsV ws ∧ news = (d, od) :: (lc, ol) :: (s₁.heap.objs.size + 1, oc) :: wsN ws ∧ DeckD w lc od ol ∧ (∀ p ∈ wsN ws, p.1 ≠ d ∧ p.1 ≠ lc) ∧ WsOk s₁.heap lotN ws)
        ⟨od, ol, [], rfl, rfl, rfl, hD, (fun _ h => nomatch h), fun j x h => by simp at h⟩ (fun i v ys news I oI C oC D m₂ h tk E' hi hP hJ hC hx F N off ne => ?turn) ?fin⟩
    case turn =>
      obtain ⟨od, ol, ws, hwl, rfl, rfl, hD, hws, hwp⟩ := hJ
      obtain ⟨a, vs, rfl, hT, hP2⟩ := lots_item w X hP
      generalize hrest : wsN ws = rest at *
      have hwd : ∀ p ∈ rest, p.1 ≠ d := fun p hp => (hws p hp).1
      have hwl2 : ∀ p ∈ rest, p.1 ≠ lc := fun p hp => (hws p hp).2
      simp only [LCg.Off3] at off
      rcases off with ⟨⟨_, _, _⟩, ⟨_, _, _⟩, ⟨_, _, _⟩, hoffr⟩
      change Fr s₁.heap s₁.heap.objs.size _ _ at F
      change News s₁.heap s₁.heap.objs.size _ _ at N
      clear F0
      (try k_unmd); (try k_fold)
      refine comp_seq F (by with_unfolding_all rfl) (by decide) (by rfl) (by decide) (by rfl) ?_
      (try k_unmd); (try k_fold)
      k_steps
      unfold Halt
      have hvs := hP2.length
      refine ⟨a, vs.toArray, _, rfl, rfl, by assumption, by assumption, .inr hT, ?size2, fun g S hS => rest_testJ (fun k zs nw => ∃ od ol ps, nw = (I, oI) :: (C, oC) :: (D, LCg.lst (wsV ws)) :: (d, od) :: (lc, ol) :: (s₁.heap.objs.size + 1, oc) :: rest ∧ DeckD w lc od ol ∧ PairsAre s₁.heap zs ps ∧ ps.Sublist ((lotN i).take k))
        (fun _ => rfl) (fun _ => rfl) (by decide) ⟨od, ol, [], rfl, hD, .nil, List.nil_sublist _⟩ (fun k v zs nw I2 oI2 C2 oC2 D2 m3 h3 tk3 E3 hk hPv hJ3 hC3 hx3 F3 N3 off3 ne3 => ?turn2) ?fin2⟩
      case size2 =>
        have : (lotN i).length ≤ 4 := by
          match i with
          | 0 => decide
          | 1 => decide
          | n + 2 => exact (by decide : lot2.length ≤ 4)
        rw [List.size_toArray, hvs, sizeLine_eq]; omega
      case turn2 =>
        obtain ⟨od, ol, ps, rfl, hD, hps, hsub⟩ := hJ3
        have hoff3 := off3
        simp only [LCg.Off3] at off3
        rcases off3 with ⟨⟨_, _, _⟩, ⟨_, _, _⟩, ⟨_, _, _⟩, ⟨_, _, _⟩, ⟨_, _, _⟩, ⟨_, _, _⟩, _⟩
        change Fr s₁.heap s₁.heap.objs.size _ _ at F3
        change News s₁.heap s₁.heap.objs.size _ _ at N3
        clear F N hC hx
        (try k_unmd); (try k_fold)
        k_steps
        all_goals unfold Halt
        rename Int => r9
        obtain ⟨ps', hps', hsub'⟩ := pick_step (decide (r9 < 3)) hP2 hPv hps hsub
        refine ⟨_, _, _, rfl, by assumption, by assumption, ?_, hS _, _, _, ps', rfl, by assumption, hps', hsub'⟩
        exact hoff3
      case fin2 =>
        rintro zs nw ⟨od, ol, ps, rfl, hD, hps, hsub⟩ D2 h3 tk3 F3 N3 o1
        simp only [LCg.Off1] at o1
        rcases o1 with ⟨n1, n2, n3, n4, n5, n6, o1⟩
        have hfull : (lotN i).take vs.toArray.size = lotN i := by rw [List.size_toArray, hvs, List.take_length]
        rw [hfull] at hsub
        have hD2 := off1_mem o1
        have hr3 := hoffr.mem
        subst hrest
        refine LCg.CompEnd.intro F3 N3 ((d, od) :: (lc, ol) :: (s₁.heap.objs.size + 1, oc) :: wsN (ws ++ [(D2, zs, ps)])) ?sub ?off trivial ⟨od, ol, ws ++ [(D2, zs, ps)], by simp [hwl], (wsV_snoc ws (D2, zs, ps)).symm, rfl, hD, ?ne, hwp.snoc hps (by rw [hwl]; exact hsub)⟩
        case sub =>
          rw [wsN_snoc]
          intro p hp
          simp only [List.mem_cons, List.mem_append, List.not_mem_nil, or_false] at hp ⊢
          rcases hp with rfl | rfl | rfl | rfl | rfl | rfl | hp | rfl <;> simp [*]
        case off =>
          rw [wsN_snoc]
          refine LCg.Off3.of fun p hp => ?_
          simp only [List.mem_cons, List.mem_append, List.not_mem_nil, or_false] at hp
          rcases hp with rfl | rfl | rfl | hp | rfl
          · exact ⟨by assumption, by assumption, by assumption⟩
          · exact ⟨by assumption, by assumption, by assumption⟩
          · exact ⟨by assumption, by assumption, by assumption⟩
          · exact hr3 p hp
          · exact ⟨Ne.symm n1, Ne.symm n2, Ne.symm n3⟩
        case ne =>
          rw [wsN_snoc]
          intro p hp
          simp only [List.mem_append, List.mem_cons, List.not_mem_nil, or_false] at hp
          rcases hp with hp | rfl
          · exact hws p hp
          · exact ⟨Ne.symm n4, Ne.symm n5⟩
    case fin =>
      rintro ys nw ⟨od, ol, ws, hwl, rfl, rfl, hD, hws, hwp⟩ lo h3 tk3 F3 N3 o1
      have hwl' : ws.length = 3 := hwl
      obtain ⟨⟨l0, v0, W⟩, ⟨l1, v1, M⟩, ⟨l2, v2, J⟩, rfl⟩ := len3 hwl'
      have p0 := hwp 0 _ rfl
      have p1 := hwp 1 _ rfl
      have p2 := hwp 2 _ rfl
      refine CutN.intro F3 N3 [(d, od), (lc, ol), (s₁.heap.objs.size + 1, oc), (lo, LCg.lst [.ref l0, .ref l1, .ref l2]), (l0, LCg.lst v0), (l1, LCg.lst v1), (l2, LCg.lst v2)] ?sub ⟨od, ol, lo, l0, l1, l2, v0, v1, v2, W, M, J, rfl, hD, rfl, p0.1, p1.1, p2.1, p0.2, p1.2, p2.2, allNe2_cons (Ne.symm (off1_d o1).1) (Ne.symm (off1_d o1).2) (allNe2_of (fun p hp => hws p hp))⟩
      intro p hp
      simp only [wsN, wsV, List.map, List.mem_cons, List.not_mem_nil, or_false] at hp ⊢
      rcases hp with rfl | rfl | rfl | rfl | rfl | rfl | rfl <;> simp
  clear F N hD
  rintro h3 tk3 m3 news3 F N ⟨od, ol, lo, l0, l1, l2, v0, v1, v2, W, M, J, rfl, hD, hm, hP0, hP1, hP2, hW, hM, hJ, hne⟩
  dsimp only [AllNe2] at hne ⊢
  rcases hne with ⟨⟨_, _⟩, ⟨_, _⟩, ⟨_, _⟩, ⟨_, _⟩, -⟩
  replace F := frOver F [(Str.ofString "lots", .ref lo)] (allCons hm allNil)
  clear hm
  have hbW : W.length ≤ 1000 := Nat.le_trans hW.length_le (by decide)
  have hbM : M.length ≤ 1000 := Nat.le_trans hM.length_le (by decide)
  have hbJ : J.length ≤ 1000 := Nat.le_trans hJ.length_le (by decide)
  replace hW : ValidR W := valid_sub hW (lotN_valid 0)
  replace hM : ValidR M := valid_sub hM (lotN_valid 1)
  replace hJ : ValidR J := valid_sub hJ (lotN_valid 2)
  refine cut (h₀ := s₁.heap) (L := s₁.heap.objs.size) (fun m news => ∃ t dx h1 h2 h3 k1 k2 k3, news = [(t, instObj 100 dx), (dx, tabDict h1 h2 h3 k1 k2 k3 l0 l1 l2), (d, od), (lc, ol), (s₁.heap.objs.size + 1, oc), (lo, LCg.lst [.ref l0, .ref l1, .ref l2]), (l0, LCg.lst v0), (l1, LCg.lst v1), (l2, LCg.lst v2)] ∧
    m (Str.ofString "lots") = some (.ref lo) ∧ m (Str.ofString "table") = some (.ref t) ∧ AllNe2 d lc [t, dx]) ?he ?hf
  case he =>
    (try k_unmd); (try k_fold)
    k_steps
    unfold Halt
    rename Off2 _ _ _ => hoff
    have q1 := hoff (d, od) (.head _)
    have q2 := hoff (lc, ol) (.tail _ (.head _))
    exact CutN.intro (by assumption) (by assumption) _ (fun p hp => hp) ⟨_, _, _, _, _, _, _, _, rfl, rfl, rfl, ⟨Ne.symm q1.1, Ne.symm q2.1⟩, ⟨Ne.symm q1.2, Ne.symm q2.2⟩, trivial⟩
  clear F N
  rintro h4 tk4 m4 news4 F N ⟨t, dx, h1, h2, h3, k1, k2, k3, rfl, hm1, hm2, hne⟩
  dsimp only [AllNe2] at hne ⊢
  rcases hne with ⟨⟨_, _⟩, ⟨_, _⟩, -⟩
  replace F := frOver F [(Str.ofString "lots", .ref lo), (Str.ofString "table", .ref t)] (allCons hm1 (allCons hm2 allNil))
  clear hm1 hm2
  refine cut (h₀ := s₁.heap) (L := s₁.heap.objs.size) (fun m news => ∃ od ol, news = [(t, instObj 100 dx), (dx, tabDict h1 h2 h3 k1 k2 k3 l0 l1 l2), (d, od), (lc, ol), (s₁.heap.objs.size + 1, oc), (lo, LCg.lst [.ref l0, .ref l1, .ref l2]), (l0, LCg.lst v0), (l1, LCg.lst v1), (l2, LCg.lst v2)] ∧
    DeckD w lc od ol ∧ m (Str.ofString "lots") = some (.ref lo) ∧ m (Str.ofString "table") = some (.ref t)) ?hg ?hh
  case hg =>
    (try k_unmd); (try k_fold)
    refine For_invVF F (by rfl) (by rfl) ?_
    (try k_unmd); (try k_fold)
    k_steps
    unfold Halt
    obtain ⟨cvs, hcT, hcI⟩ := codes_K w X
    refine for_range (n := 2) (fun i m news => ∃ od ol, news = [(t, instObj 100 dx), (dx, tabDict h1 h2 h3 k1 k2 k3 l0 l1 l2), (d, od), (lc, ol), (s₁.heap.objs.size + 1, oc), (lo, LCg.lst [.ref l0, .ref l1, .ref l2]), (l0, LCg.lst v0), (l1, LCg.lst v1), (l2, LCg.lst v2)] ∧
      DeckD w lc od ol ∧ m (Str.ofString "lots") = some (.ref lo) ∧ m (Str.ofString "table") = some (.ref t)) (by rfl) (by assumption) (by rfl) (by rfl) (by assumption) (by assumption) ⟨od, ol, rfl, hD, rfl, rfl⟩ ?turn4 ?done4
    case done4 =>
      rintro m news h tk ⟨od, ol, rfl, hD, e1, e2⟩ F N
      exact CutN.intro F N _ (fun p hp => hp) ⟨od, ol, rfl, hD, e1, e2⟩
    case turn4 =>
      clear hD
      rintro i tv m1 news1 h6 tk6 I oI hi ⟨od, ol, rfl, hD, e1, e2⟩ hoff F N
      change Fr s₁.heap s₁.heap.objs.size _ _ at F
      change News s₁.heap s₁.heap.objs.size _ _ at N
      have n1 : @Ne Nat d I := hoff (d, od) (by simp)
      have n2 : @Ne Nat lc I := hoff (lc, ol) (by simp)
      replace F := frOver F [(Str.ofString "lots", .ref lo), (Str.ofString "table", .ref t)] (allCons e1 (allCons e2 allNil))
      refine cut (h₀ := s₁.heap) (L := s₁.heap.objs.size) (fun m news => ∃ od ol cd cs ns, news = (cd, LCg.lst cs) :: (I, oI) :: [(t, instObj 100 dx), (dx, tabDict h1 h2 h3 k1 k2 k3 l0 l1 l2), (d, od), (lc, ol), (s₁.heap.objs.size + 1, oc), (lo, LCg.lst [.ref l0, .ref l1, .ref l2]), (l0, LCg.lst v0), (l1, LCg.lst v1), (l2, LCg.lst v2)] ∧
        DeckD w lc od ol ∧ IntsAre cs ns ∧ ns.length ≤ 5 ∧ m (Str.ofString "codes") = some (.ref cd) ∧ m (Str.ofString "lots") = some (.ref lo) ∧ m (Str.ofString "table") = some (.ref t)) ?t4a ?t4b
      case t4a =>
        (try k_unmd); (try k_fold)
        refine LCg.Assign_ListComp_U F (by rfl) (by with_unfolding_all rfl) (by with_unfolding_all rfl) (by decide) (by rfl) (by decide) (by rfl) (by rfl) (by rfl) ?_
        (try k_unmd); (try k_fold)
        k_steps
        unfold Halt
        rename Int => r9
        have hq0 : 0 ≤ r9 := by assumption
        have hq1 : r9 < 6 := by assumption
        refine LCg.CompSrc.range (n := r9.toNat) rfl (by assumption) (by assumption) (by assumption) (small_one (by omega) (by omega) (by omega) (by omega)) (by rw [rangeSize_nat, Int.sub_zero]) (by rw [sizeLine_eq]; omega) (fun g => rest_inv (fun i ys nw => ∃ od ol ns, nw = (I, oI) :: [(t, instObj 100 dx), (dx, tabDict h1 h2 h3 k1 k2 k3 l0 l1 l2), (d, od), (lc, ol), (s₁.heap.objs.size + 1, oc), (lo, LCg.lst [.ref l0, .ref l1, .ref l2]), (l0, LCg.lst v0), (l1, LCg.lst v1), (l2, LCg.lst v2)] ∧
          DeckD w lc od ol ∧ IntsAre ys ns ∧ ns.length = i) ⟨_, _, [], rfl, by assumption, .nil, rfl⟩ (fun i v ys nw I2 oI2 C2 oC2 D2 m9 h9 tk9 E9 hi hP hJ hC hx F N off ne => ?t4turn) ?t4fin)
        case t4turn =>
          obtain ⟨od, ol, ns, rfl, hD, hI2, hnl⟩ := hJ
          have hm := off.mem
          obtain ⟨_, _, _⟩ : @Ne Nat d I2 ∧ @Ne Nat d C2 ∧ @Ne Nat d D2 := hm (d, od) (by simp)
          obtain ⟨_, _, _⟩ : @Ne Nat lc I2 ∧ @Ne Nat lc C2 ∧ @Ne Nat lc D2 := hm (lc, ol) (by simp)
          clear hm
          (try k_unmd); (try k_fold)
          k_steps
          unfold Halt
          refine ⟨_, _, _, rfl, by assumption, by assumption, ?_, trivial, _, _, _, rfl, by assumption, hI2.append (.cons _ _ .nil), by simp [hnl]⟩
          exact off
        case t4fin =>
          rintro ys nw ⟨od, ol, ns, rfl, hD, hIs, hnl⟩ D9 h9 tk9 F N o1
          exact CutN.intro F N _ (fun p hp => hp) ⟨od, ol, D9, ys, ns, rfl, hD, hIs, by omega, rfl, rfl, rfl⟩
      case t4b =>
        clear F N hD e1 e2 n1 n2
        rintro h7 tk7 m7 news7 F N ⟨od, ol, cd, cs, ns, rfl, hD, hCI, hnl, e1, e2, e3⟩
        replace F := frOver F [(Str.ofString "codes", .ref cd), (Str.ofString "lots", .ref lo), (Str.ofString "table", .ref t)] (allCons e1 (allCons e2 (allCons e3 allNil)))
        dsimp only
        (try k_unmd); (try k_fold)
        k_steps
        all_goals unfold Halt
        · exact absurd rfl (by assumption)
        rename News _ _ _ _ => N9
        refine for_tup0 (fun i m news => news = (cd, LCg.lst cs) :: (I, oI) :: [(t, instObj 100 dx), (dx, tabDict h1 h2 h3 k1 k2 k3 l0 l1 l2), (d, od), (lc, ol), (s₁.heap.objs.size + 1, oc), (lo, LCg.lst [.ref l0, .ref l1, .ref l2]), (l0, LCg.lst v0), (l1, LCg.lst v1), (l2, LCg.lst v2)] ∧
          m (Str.ofString "codes") = some (.ref cd) ∧ m (Str.ofString "lots") = some (.ref lo) ∧ m (Str.ofString "table") = some (.ref t)) (by rfl) hcT (by assumption) (fun p hp => N9 p (.tail _ hp)) ⟨rfl, rfl, rfl, rfl⟩ ?t4l ?t4d
        case t4d =>
          rintro m news h tk ⟨rfl, e1, e2, e3⟩ F N
          (try k_unmd); (try k_fold)
          k_steps
          unfold Halt
          exact TurnV.intro F N _ (fun p hp => .tail _ hp) (off_map hoff rfl) ⟨od, ol, rfl, hD, e2, e3⟩
        case t4l =>
          clear N9
          rintro j v m8 news8 h8 tk8 I8 oI8 hv ⟨rfl, e1, e2, e3⟩ hoff8 F N
          obtain ⟨c, tc, rfl, hcc⟩ := ints_item hcI hv
          change Fr s₁.heap s₁.heap.objs.size _ _ at F
          change News s₁.heap s₁.heap.objs.size _ _ at N
          replace F := frOver F [(Str.ofString "codes", .ref cd), (Str.ofString "lots", .ref lo), (Str.ofString "table", .ref t)] (allCons e1 (allCons e2 (allCons e3 allNil)))
          (try k_unmd); (try k_fold)
          k_steps
          all_goals unfold Halt
          · exfalso
            rename (_ != _) = true => hb
            simp at hb
          · exact TurnV.intro (by assumption) (by assumption) _ (fun p hp => .tail _ hp) hoff8 ⟨rfl, rfl, rfl, rfl⟩
  clear F N hD od ol
  rintro h5 tk5 m5 news5 F N ⟨od, ol, rfl, hD, hm1, hm2⟩
  dsimp only
  replace F := frOver F [(Str.ofString "lots", .ref lo), (Str.ofString "table", .ref t)] (allCons hm1 (allCons hm2 allNil))
  clear hm1 hm2
  refine cut (h₀ := s₁.heap) (L := s₁.heap.objs.size) (fun m news => news = [(t, instObj 100 dx), (dx, tabDict h1 h2 h3 k1 k2 k3 l0 l1 l2), (d, od), (lc, ol), (s₁.heap.objs.size + 1, oc), (lo, LCg.lst [.ref l0, .ref l1, .ref l2]), (l0, LCg.lst v0), (l1, LCg.lst v1), (l2, LCg.lst v2)]) ?hi ?hj
  case hi =>
    obtain ⟨cvs, hcT, hcI⟩ := codes_K w X
    (try k_unmd); (try k_fold)
    refine For_invVF F (by rfl) (by rfl) ?_
    (try k_unmd); (try k_fold)
    k_steps
    unfold Halt
    refine add_ints_tup (by assumption) (by assumption) (IsTup.keeps hcT (Fr.keep (by assumption))) (News.isTup (by assumption) (by k_mem)) hcI (.cons _ _ (.cons _ _ (.cons _ _ (.cons _ _ (.cons _ _ (.cons _ _ .nil)))))) (List.cons_ne_nil _ _) (List.cons_ne_nil _ _) (fun h9 x9 us F9 N9 hI9 => ?_) (by rw [hcI.length, sizeLine_eq]; exact Nat.le_of_ble_eq_true rfl)
    (try k_unmd); (try k_fold)
    k_steps
    unfold Halt
    refine for_tupN (fun i m news => news = (x9, { cls := .type "tuple", data := .seq us.toArray }) :: [(t, instObj 100 dx), (dx, tabDict h1 h2 h3 k1 k2 k3 l0 l1 l2), (d, od), (lc, ol), (s₁.heap.objs.size + 1, oc), (lo, LCg.lst [.ref l0, .ref l1, .ref l2]), (l0, LCg.lst v0), (l1, LCg.lst v1), (l2, LCg.lst v2)] ∧
      m (Str.ofString "lots") = some (.ref lo) ∧ m (Str.ofString "table") = some (.ref t)) (by rfl) (by rfl) (by rfl) (.head _) (by rintro i m nw ⟨rfl, -⟩; exact .head _) F9 (fun p hp => N9 p (by
        rcases List.mem_cons.mp hp with rfl | hp
        · exact .head _
        · exact .tail _ (.tail _ hp))) ⟨rfl, rfl, rfl⟩ ?t5 ?d5
    case d5 =>
      rintro m news h tk ⟨rfl, -, -⟩ F N
      exact CutN.intro F N _ (fun p hp => .tail _ hp) rfl
    case t5 =>
      clear F9 N9
      rintro j v m8 news8 h8 tk8 I8 oI8 hv ⟨rfl, e1, e2⟩ hoff8 F N
      obtain ⟨c, tc, rfl, hcc⟩ := ints_item hI9 hv
      change Fr s₁.heap s₁.heap.objs.size _ _ at F
      change News s₁.heap s₁.heap.objs.size _ _ at N
      replace F := frOver F [(Str.ofString "lots", .ref lo), (Str.ofString "table", .ref t)] (allCons e1 (allCons e2 allNil))
      (try k_unmd); (try k_fold)
      k_steps
      all_goals unfold Halt
      · exact absurd rfl (by assumption)
      · exfalso
        rename (_ != _) = true => hb
        simp at hb
      · exact TurnV.intro (by assumption) (by assumption) _ (fun p hp => hp) hoff8 ⟨rfl, rfl, rfl⟩
  clear F N
  rintro h6 tk6 m6 news6 F N rfl
  dsimp only
  refine cut (h₀ := s₁.heap) (L := s₁.heap.objs.size) (fun m news => ∃ od2, news = [(od2, LCg.lst []), (d, od), (lc, ol), (s₁.heap.objs.size + 1, oc)] ∧ m (Str.ofString "odd") = some (.ref od2) ∧ @Ne Nat od2 d ∧ @Ne Nat od2 lc ∧ @Ne Nat od2 (s₁.heap.objs.size + 1)) ?hk ?hl
  case hk =>
    (try k_unmd); (try k_fold)
    k_steps
    unfold Halt
    refine CutN.intro (by assumption) (by assumption) _ ?s6 ⟨_, rfl, rfl, by omega, by omega, by omega⟩
    walk_at "MINE sub"
  clear F N
  rintro h7 tk7 m7 news7 F N ⟨od2, rfl, hm, hne1, hne2, hne3⟩
  dsimp only
  replace F := frOver F [(Str.ofString "odd", .ref od2)] (allCons hm allNil)
  clear hm
  refine cut (h₀ := s₁.heap) (L := s₁.heap.objs.size) (fun m news => ∃ od ol xs rest, news = (od2, LCg.lst (wsV xs)) :: (d, od) :: (lc, ol) :: (s₁.heap.objs.size + 1, oc) :: rest ∧ m (Str.ofString "odd") = some (.ref od2) ∧ xs.length = 3 ∧ OddOk s₁.heap rest xs) ?hm ?hn
  case hm =>
    (try k_unmd); (try k_fold)
    refine For_invVF F (by rfl) (by rfl) ?_
    (try k_unmd); (try k_fold)
    k_steps
    unfold Halt
    refine for_range (n := 3) (fun i m news => ∃ od ol xs rest, news = (od2, LCg.lst (wsV xs)) :: (d, od) :: (lc, ol) :: (s₁.heap.objs.size + 1, oc) :: rest ∧ DeckD w lc od ol ∧ m (Str.ofString "odd") = some (.ref od2) ∧ xs.length = i ∧ OddOk s₁.heap rest xs ∧
      ∀ p ∈ rest, p.1 ≠ od2 ∧ p.1 ≠ d ∧ p.1 ≠ lc) (by rfl) (by assumption) (by rfl) (by rfl) (by assumption) (by assumption) ⟨od, ol, [], [], rfl, hD, rfl, rfl, (fun _ h => nomatch h), fun _ h => nomatch h⟩ ?t7 ?d7
    case d7 =>
      rintro m news h tk ⟨od, ol, xs, rest, rfl, hD, e1, hl, ho, -⟩ F N
      exact CutN.intro F N _ (fun p hp => hp) ⟨od, ol, xs, rest, rfl, e1, hl, ho⟩
    case t7 =>
      clear hD
      rintro i tv m1 news1 h8 tk8 I oI hi ⟨od, ol, xs, rest, rfl, hD, e1, hxl, hxo, hrest⟩ hoff F N
      change Fr s₁.heap s₁.heap.objs.size _ _ at F
      change News s₁.heap s₁.heap.objs.size _ _ at N
      have hoff7 := hoff
      have n1 : @Ne Nat d I := hoff (d, od) (by simp)
      have n2 : @Ne Nat lc I := hoff (lc, ol) (by simp)
      have n3 : @Ne Nat od2 I := hoff (od2, LCg.lst (wsV xs)) (by simp)
      have r1 : ∀ p ∈ rest, p.1 ≠ od2 := fun p hp => (hrest p hp).1
      have r2 : ∀ p ∈ rest, p.1 ≠ d := fun p hp => (hrest p hp).2.1
      have r3 : ∀ p ∈ rest, p.1 ≠ lc := fun p hp => (hrest p hp).2.2
      have r4 : ∀ p ∈ rest, p.1 ≠ I := fun p hp => hoff p (by simp [hp])
      replace F := frOver F [(Str.ofString "odd", .ref od2)] (allCons e1 allNil)
      have hxl3 : xs.length < 3 := by omega
      have hwv : (wsV xs).length ≤ 1000 := by simp [wsV]; omega
      refine cut (h₀ := s₁.heap) (L := s₁.heap.objs.size) (fun m news => ∃ od ol ra a ta, news = (ra, LCg.lst []) :: (I, oI) :: (od2, LCg.lst (wsV xs)) :: (d, od) :: (lc, ol) :: (s₁.heap.objs.size + 1, oc) :: rest ∧ DeckD w lc od ol ∧ m (Str.ofString "ranges") = some (.ref ra) ∧ m (Str.ofString "at") = some (.int a ta) ∧ m (Str.ofString "odd") = some (.ref od2) ∧
        -1 ≤ a ∧ a ≤ 100 ∧ @Ne Nat ra I ∧ @Ne Nat ra od2 ∧ @Ne Nat ra d ∧ @Ne Nat ra lc ∧ @Ne Nat ra (s₁.heap.objs.size + 1) ∧ ∀ p ∈ rest, p.1 ≠ ra) ?t7a ?t7b
      case t7a =>
        (try k_unmd); (try k_fold)
        k_steps
        unfold Halt
        refine CutN.intro (by assumption) (by assumption) _ ?s7a ⟨_, _, _, _, _, rfl, by assumption, rfl, rfl, rfl, by omega, by omega, by omega, by omega, by omega, by omega, by omega, allLt6 (by assumption)⟩
        walk_at "MINE sub"
      case t7b =>
        clear F N hD e1
        rintro h9 tk9 m9 news9 F N ⟨od, ol, ra, a, ta, rfl, hD, e1, e2, e3, ha0, ha1, n4, n5, n6, n7, n8, r5⟩
        dsimp only
        replace F := frOver F [(Str.ofString "ranges", .ref ra), (Str.ofString "at", .int a ta), (Str.ofString "odd", .ref od2)] (allCons e1 (allCons e2 (allCons e3 allNil)))
        clear e1 e2 e3
        refine cut (h₀ := s₁.heap) (L := s₁.heap.objs.size) (fun m news => ∃ od ol vs ps rest', news = (ra, LCg.lst vs) :: (I, oI) :: (od2, LCg.lst (wsV xs)) :: (d, od) :: (lc, ol) :: (s₁.heap.objs.size + 1, oc) :: rest' ∧ DeckD w lc od ol ∧ m (Str.ofString "ranges") = some (.ref ra) ∧ m (Str.ofString "odd") = some (.ref od2) ∧
          (Froz s₁.heap rest' fun h => PairsAre h vs ps) ∧ ps.length ≤ 1000 ∧ (∀ p ∈ rest, p ∈ rest') ∧ (∀ p ∈ rest', p.1 ≠ ra) ∧ (∀ p ∈ rest', p.1 ≠ I) ∧ (∀ p ∈ rest', p.1 ≠ od2) ∧ (∀ p ∈ rest', p.1 ≠ d) ∧ ∀ p ∈ rest', p.1 ≠ lc) ?t7c ?t7d
        case t7c =>
          (try k_unmd); (try k_fold)
          refine For_invVF F (by rfl) (by rfl) ?_
          (try k_unmd); (try k_fold)
          k_steps
          unfold Halt
          rename Int => r9
          have hq0 : 0 ≤ r9 := by assumption
          have hq1 : r9 < 4 := by assumption
          refine for_range (n := r9.toNat) (fun k m news => ∃ od ol vs ps rest' a ta, news = (ra, LCg.lst vs) :: (I, oI) :: (od2, LCg.lst (wsV xs)) :: (d, od) :: (lc, ol) :: (s₁.heap.objs.size + 1, oc) :: rest' ∧ DeckD w lc od ol ∧ m (Str.ofString "ranges") = some (.ref ra) ∧ m (Str.ofString "at") = some (.int a ta) ∧ m (Str.ofString "odd") = some (.ref od2) ∧
            (Froz s₁.heap rest' fun h => PairsAre h vs ps) ∧ ps.length = k ∧ vs.length = k ∧ -1 ≤ a ∧ a ≤ 100 + 20 * (k : Int) ∧ (∀ p ∈ rest, p ∈ rest') ∧ (∀ p ∈ rest', p.1 ≠ ra) ∧ (∀ p ∈ rest', p.1 ≠ I) ∧ (∀ p ∈ rest', p.1 ≠ od2) ∧ (∀ p ∈ rest', p.1 ≠ d) ∧ ∀ p ∈ rest', p.1 ≠ lc)
            (by rfl) (by assumption) (small_one (by omega) (by omega) (by omega) (by omega)) (by rw [rangeSize_nat, Int.sub_zero]) (by assumption) (by assumption) ⟨_, _, [], [], rest, a, ta, rfl, by assumption, rfl, rfl, rfl, (fun _ _ _ => .nil), rfl, rfl, ha0, by omega, (fun p hp => hp), r5, r4, r1, r2, r3⟩ ?t7e ?t7f
          case t7f =>
            rintro m news h tk ⟨od, ol, vs, ps, rest', a, ta, rfl, hD, e1, e2, e3, hz, hpl, hvl, -, -, q0, q1, q2, q3, q4, q5⟩ F N
            exact CutN.intro F N _ (fun p hp => hp) ⟨od, ol, vs, ps, rest', rfl, hD, e1, e3, hz, by omega, q0, q1, q2, q3, q4, q5⟩
          case t7e =>
            rintro k tv2 m7 news7 h7 tk7 I2 oI2 hk ⟨od, ol, vs, ps, rest', a, ta, rfl, hD, e1, e2, e3, hz, hpl, hvl, ha0, ha1, q0, q1, q2, q3, q4, q5⟩ hoff2 F N
            change Fr s₁.heap s₁.heap.objs.size _ _ at F
            change News s₁.heap s₁.heap.objs.size _ _ at N
            have u1 : @Ne Nat ra I2 := hoff2 (ra, LCg.lst vs) (by simp)
            have u2 : @Ne Nat d I2 := hoff2 (d, od) (by simp)
            have u3 : @Ne Nat lc I2 := hoff2 (lc, ol) (by simp)
            have u4 : @Ne Nat I I2 := hoff2 (I, oI) (by simp)
            have u5 : @Ne Nat od2 I2 := hoff2 (od2, LCg.lst (wsV xs)) (by simp)
            have u6 : @Ne Nat (s₁.heap.objs.size + 1) I2 := hoff2 (s₁.heap.objs.size + 1, oc) (by simp)
            have q6 : ∀ p ∈ rest', p.1 ≠ I2 := fun p hp => hoff2 p (by simp [hp])
            replace F := frOver F [(Str.ofString "ranges", .ref ra), (Str.ofString "at", .int a ta), (Str.ofString "odd", .ref od2)] (allCons e1 (allCons e2 (allCons e3 allNil)))
            (try k_unmd); (try k_fold)
            k_steps
            unfold Halt
            rename_i tp _ _ _ _ _ _
            rename (I2 < tp ∧ _) => hl1
            rcases hl1 with ⟨_, _, _, _, _, _, _, hal⟩
            refine' TurnV.intro ?e7a ?e7b ((ra, LCg.lst (vs ++ [Value.ref tp])) :: (I, oI) :: (od2, LCg.lst (wsV xs)) :: (d, _) :: (lc, _) :: (s₁.heap.objs.size + 1, oc) :: (tp, _) :: rest') ?e7c ?e7d ?e7e
            case e7a => assumption
            case e7b => assumption
            case e7c => walk_at "MINE sub"
            case e7d => walk_at "MINE all"
            case e7e => exact ⟨_, _, _, _, _, _, _, rfl, by assumption, rfl, rfl, rfl, froz_snoc hz rfl rfl, by simp [hpl], by simp [hvl], by omega, by omega, fun p hp => .tail _ (q0 p hp), by walk_at "MINE all", by walk_at "MINE all", by walk_at "MINE all", by walk_at "MINE all", by walk_at "MINE all"⟩
        case t7d =>
          clear F N hD ha0 ha1
          rintro h6 tk6 m6 news6 F N ⟨od, ol, vs, ps, rest', rfl, hD, e1, e2, hz, hpl, q0, q1, q2, q3, q4, q5⟩
          dsimp only
          replace F := frOver F [(Str.ofString "ranges", .ref ra), (Str.ofString "odd", .ref od2)] (allCons e1 (allCons e2 allNil))
          (try k_unmd); (try k_fold)
          k_steps
          unfold Halt
          have hsn : wsV xs ++ [Value.ref ra] = wsV (xs ++ [(ra, vs, ps)]) := (wsV_snoc xs (ra, vs, ps)).symm
          have hfz : OddOk s₁.heap ((ra, LCg.lst vs) :: rest') (xs ++ [(ra, vs, ps)]) := by
            intro x hx
            rcases List.mem_append.mp hx with hx | hx
            · exact (hxo x hx).more fun p hp => .tail _ (q0 p hp)
            · rw [List.mem_singleton.mp hx]
              exact fun h k a => rangesV_of (isList_lst (a (ra, LCg.lst vs) (.head _))) (hz h k fun p hp => a p (.tail _ hp)) hpl
          refine TurnV.intro (by assumption) (by assumption) ((od2, LCg.lst (wsV (xs ++ [(ra, vs, ps)]))) :: (d, od) :: (lc, ol) :: (s₁.heap.objs.size + 1, oc) :: (ra, LCg.lst vs) :: rest') ?s7d ?o7d ⟨od, ol, xs ++ [(ra, vs, ps)], _, rfl, hD, rfl, by simp [hxl], hfz, ?r7d⟩
          case s7d =>
            rw [← hsn]
            walk_at "MINE sub"
          case o7d =>
            have u7 : @Ne Nat (s₁.heap.objs.size + 1) I := hoff7 (s₁.heap.objs.size + 1, oc) (by simp)
            walk_at "MINE all"
          case r7d =>
            intro p hp
            rcases List.mem_cons.mp hp with rfl | hp
            · exact ⟨n5, n6, n7⟩
            · exact ⟨q3 p hp, q4 p hp, q5 p hp⟩
  clear F N hD od ol
  rintro h8 tk8 m8 news8 F N ⟨od, ol, xs, rest, rfl, hm, hxl, hxo⟩
  dsimp only
  replace F := frOver F [(Str.ofString "odd", .ref od2)] (allCons hm allNil)
  clear hm
  refine cut (h₀ := s₁.heap) (L := s₁.heap.objs.size) (fun m news => ∃ wd ws, news = (wd, LCg.lst ws) :: (od2, LCg.lst (wsV xs)) :: (d, od) :: (lc, ol) :: (s₁.heap.objs.size + 1, oc) :: rest ∧ m (Str.ofString "odd") = some (.ref od2) ∧ m (Str.ofString "wrong") = some (.ref wd) ∧ IntsAre ws (xs.filterMap fW)) ?ho8 ?hp8
  case ho8 =>
    (try k_unmd); (try k_fold)
    refine LCt.Assign_ListComp_T F (by rfl) (by with_unfolding_all rfl) (by with_unfolding_all rfl) (by decide) (by rfl) (by decide) (by rfl) (by rfl) (by rfl) ?_
    (try k_unmd); (try k_fold)
    k_steps
    unfold Halt
    have hwl : (wsV xs).length = 3 := by simp [wsV, hxl]
    refine LCt.CompSrcT.ledger (k := (wsV xs).length) rfl (by assumption) (by assumption) (.head _) (by rw [List.size_toArray, hwl, sizeLine_eq]; omega) (fun g => rest_elJ (fun i ys nw => nw = (od2, LCg.lst (wsV xs)) :: (d, od) :: (lc, ol) :: (s₁.heap.objs.size + 1, oc) :: rest ∧ IntsAre ys ((xs.take i).filterMap fW)) ⟨rfl, .nil⟩
      (fun i v ys nw I2 oI2 C2 oC2 D2 m9 h9 tk9 E9 hi hP hJ hC hx F N off ne => ?t8turn) ?t8fin)
    case t8fin =>
      rintro ys nw ⟨rfl, hIs⟩ D9 h9 tk9 F N o1
      rw [List.size_toArray, hwl, ← hxl, List.take_length] at hIs
      exact CutN.intro F N _ (fun p hp => hp) ⟨D9, ys, rfl, rfl, rfl, hIs⟩
    case t8turn =>
      obtain ⟨rfl, hIs⟩ := hJ
      obtain ⟨x, hx', rfl⟩ := wsV_get hP
      obtain ⟨lx, vx, px⟩ := x
      have hZ : Froz s₁.heap rest fun h => RangesV h lx vx px := hxo _ (List.mem_of_getElem? hx')
      cases hw : wrongAt (-1) 0 px with
      | none =>
        (try k_unmd); (try k_fold)
        k_steps
        unfold Halt
        have hfw : fW (lx, vx, px) = none := by rw [fW, hw]; rfl
        exact ⟨_, _, _, rfl, by assumption, by assumption, off, .inr ⟨_, .head _, rfl, _, rfl⟩, rfl, by rw [take_fW hx', hfw]; simpa using hIs⟩
      | some k =>
        (try k_unmd); (try k_fold)
        k_steps
        unfold Halt
        have hfw : fW (lx, vx, px) = some (k : Int) := by rw [fW, hw]; rfl
        exact ⟨_, _, _, rfl, by assumption, by assumption, off, .inr ⟨_, .head _, rfl, _, rfl⟩, rfl, by rw [take_fW hx', hfw]; exact hIs.append (.cons _ _ .nil)⟩
  clear F N
  rintro h9 tk9 m9 news9 F N ⟨wd, ws, rfl, hm1, hm2, hIs⟩
  dsimp only
  replace F := frOver F [(Str.ofString "odd", .ref od2), (Str.ofString "wrong", .ref wd)] (allCons hm1 (allCons hm2 allNil))
  obtain ⟨⟨q0, w0, W0⟩, ⟨q1, w1, W1⟩, ⟨q2, w2, W2⟩, rfl⟩ := len3 hxl
  (try k_unmd); (try k_fold)
  k_steps
  unfold Halt
  rename Fr _ _ _ _ => F9
  rename News _ _ _ _ => N9
  refine catch_use (s_refused w od2 q0 q1 q2 w0 w1 w2 W0 W1 W2) B F9 X N9 T (by rfl) (by rfl) (Nat.le_of_ble_eq_true rfl) (Nat.le_of_ble_eq_true rfl) (by rfl) (by rfl) ?hq9 ?hr9
  case hq9 =>
    have hh := fun env (hf : Env.frame env = some s₁.heap.objs.size) => hid_news F9 N9 hf
    have hr := fun env hf p hp => (hh env hf).2 p (.tail _ (.tail _ (.tail _ (.tail _ (.tail _ hp)))))
    exact ⟨isList_lst ((hh _ rfl).2 _ (.tail _ (.head _))), hxo _ (.head _) _ (hh _ rfl).1 (hr _ rfl), hxo _ (.tail _ (.head _)) _ (hh _ rfl).1 (hr _ rfl), hxo _ (.tail _ (.tail _ (.head _))) _ (hh _ rfl).1 (hr _ rfl)⟩
  case hr9 =>
    clear F9 N9
    intro v9 h10 tk10 F N hr
    have hfst := first_fW (q0, w0, W0) (q1, w1, W1) (q2, w2, W2)
    dsimp only at hfst
    cases hf : firstWrong W0 W1 W2 with
    | none =>
      rw [hf] at hfst hr
      replace hr : v9 = Value.none := hr
      subst hr
      rw [hfst] at hIs
      cases hIs
      (try k_unmd); (try k_fold)
      k_steps
    | some k =>
      rw [hf] at hfst hr
      obtain ⟨t9, rfl⟩ := hr
      obtain ⟨r9, hfst⟩ := hfst
      rw [hfst] at hIs
      (try k_unmd); (try k_fold)
      k_steps
end
end Mine

theorem PySem.Challenge.cw_og0230_02_holds : PySem.Challenge.rw_og0230_02.Holds := by
  exact Mine.law2
