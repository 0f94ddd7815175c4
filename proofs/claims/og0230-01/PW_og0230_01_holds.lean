import PyProof.Rows.All
import Wide.All
import OpenK.AllK
import Wide.FinOn
import PyProof.ExcBaseAll.Exception
import PyProof.InstStoreFacts
import PyProof.InstLoad
import PyProof.ExcAttrAll.Exception
import PySem.Challenge.RW_og0230_01
set_option Elab.async false
set_option maxRecDepth 100000
set_option rowWalk.seconds 0
set_option compiler.extract_closed false
open PySem PySem.W PyProof.Rows PySem.Calls PySem.Spec
namespace Mine

section
abbrev nomA (d u : Nat) (envs : List Env) : Around := { handled := none, depth := d, frames := some envs, guards := none, units := u }

theorem in_nom {Γ : PySem.Ctx} {A : Around} {d u : Nat} {envs : List Env} (h : Γ.In A) (hh : A.handled = none) (hd : A.depth ≤ d) (hf : A.frames = some envs) (hu : A.units ≤ u) : Γ.In (nomA d u envs) :=
  ⟨h.1.trans hh, Nat.le_trans h.2.1 hd, fun l hl => h.2.2.1 l (hf.trans hl), (fun g hg => nomatch hg), Nat.le_trans h.2.2.2.2 hu⟩
theorem wp_nom {α : Type} {M : Model} {A : Around} {t : Sem α} {Q : α → Shared → Prop} {E : Value → Shared → Prop} {s : Shared} {d u : Nat} {envs : List Env}
    (h : wpAny M (nomA d u envs) t Q E s) (hh : A.handled = none) (hd : A.depth ≤ d) (hf : A.frames = some envs) (hu : A.units ≤ u) : wpAny M A t Q E s :=
  fun Γ p hΓ => h Γ p (in_nom hΓ hh hd hf hu)

def Grown (h h' : Heap) : Prop := ∀ b o, h.get? b = some o → h'.get? b = some o
theorem Grown.trans {a b c : Heap} (x : Grown a b) (y : Grown b c) : Grown a c := fun k o e => y k o (x k o e)

def PureEnd (g : Heap) (r : Value → Heap → Prop) (s : Shared) (f : Flow) (s' : Shared) : Prop :=
  ∃ h' tk L m, s' = { s with heap := h', toks := tk } ∧ Fr g L h' m ∧ r (match f with | .ret v => v | _ => .none) h'
theorem PureEnd.intro {g : Heap} {r : Value → Heap → Prop} {s : Shared} {f : Flow} {h' : Heap} {tk : Nat} {L : Addr} {m : Str → Option Value} (F : Fr g L h' m) (hr : r (match f with | .ret v => v | _ => .none) h') :
    PureEnd g r s f { s with heap := h', toks := tk } := ⟨h', tk, L, m, rfl, F, hr⟩
def isV (v : Value) : Value → Heap → Prop := fun x _ => x = v

section
variable (prog : Program) (w : World) (K : Frag) (p : Program) (loose : List Str)
def PureF (d u : Nat) (f : Addr) (args : List Value) (P : Heap → Prop) (r : Value → Heap → Prop) : Prop :=
  ∀ (mean : ExcName → Option Value) (mg mb : Str → Option Value) (envs : List Env) (base : Heap) (s : Shared) (Q E : Value → Shared → Prop),
    Below (nomA d u envs) base envs s.heap → K.In s.heap → Top p loose mean mg mb s.heap → P s.heap →
    (∀ v h' tk, Grown s.heap h' → r v h' → Q v { s with heap := h', toks := tk }) →
    wpAny (model prog w) (nomA d u envs) (call (.ref f) args) Q E s

def PureBody (d u : Nat) (f : Addr) (qual : Str) (scope : Scope) (cdv : Value) (body : List Stmt) (binds : List (Str × Value)) (P : Heap → Prop) (r : Value → Heap → Prop) : Prop :=
  ∀ (mean : ExcName → Option Value) (mg mb : Str → Option Value) (outer : List Env) (base g : Heap) (L : Addr) (s : Shared),
    Below (nomA d u outer) base outer g → Fr g L s.heap (fun y => binds.reverse.lookup y) → News g L s.heap [] → K.In g → Top p loose mean mg mb g → P g →
    wpAny (model prog w) ((nomA d u outer).deeper (envOf qual scope L f cdv)) (execs body (envOf qual scope L f cdv)) (PureEnd g r s) (fun _ _ => False) s
end

section
variable {prog : Program} {w : World} {K : Frag} {p : Program} {loose : List Str} {d u : Nat} {f : Addr} {args : List Value} {P : Heap → Prop} {r : Value → Heap → Prop}
theorem PureF.mono {P' : Heap → Prop} {r' : Value → Heap → Prop} (S : PureF prog w K p loose d u f args P r) (hP : ∀ h, P' h → P h) (hr : ∀ v h, r v h → r' v h) : PureF prog w K p loose d u f args P' r' :=
  fun mean mg mb envs base s Q E B X T hp hq => S mean mg mb envs base s Q E B X T (hP _ hp) fun v h' tk hg hv => hq v h' tk hg (hr v h' hv)

theorem belowNow {A A₀ : Around} {env : Env} {outer : List Env} {base h₀ : Heap} {s : Shared} {L : Addr} {m : Str → Option Value} (B : Below A₀ base outer h₀) (F : Fr h₀ L s.heap m) (hA : A.frames = some (env :: outer))
    (hf : env.frame = some L) (hk : env.scope.kind = .function) : Below A base (env :: outer) s.heap :=
  (groundX (A := A) (R := fun _ _ => True) B F (News.nil (h₀ := h₀) (h := s.heap) (L := L)) hA hf hk).2.1

theorem PureF.use (S : PureF prog w K p loose d u f args P r) {A A₀ : Around} {mean : ExcName → Option Value} {mg mb : Str → Option Value} {env : Env} {outer : List Env} {base h₀ : Heap} {L : Addr} {m : Str → Option Value} {news : List (Addr × Obj)} {s : Shared} {Q E : Value → Shared → Prop}
    (B : Below A₀ base outer h₀) (F : Fr h₀ L s.heap m) (X : K.In h₀) (N : News h₀ L s.heap news) (T : Top p loose mean mg mb h₀) (hA : A.frames = some (env :: outer)) (hh : A.handled = none) (hd : A.depth ≤ d) (hu : A.units ≤ u)
    (hf : env.frame = some L) (hk : env.scope.kind = .function) (hp : P s.heap)
    (ret : ∀ v h' tk, Grown s.heap h' → Fr h₀ L h' m → News h₀ L h' news → r v h' → Q v { s with heap := h', toks := tk }) :
    wpAny (model prog w) A (call (.ref f) args) Q E s :=
  wp_nom (S mean mg mb (env :: outer) base s Q E (belowNow B F rfl hf hk) (X.keeps F.keep) (T.keeps F.keep) hp fun v h' tk hg hr => ret v h' tk hg (F.keeps hg) (N.grown hg) hr) hh hd hA hu

theorem PureF.enter {name qual : Str} {params : Arguments} {body : List Stmt} {scope : Scope} {dV kV doc pm cdv ct oc : Value} {an od : Option Addr} {osl : Array (Option Value)} {binds : List (Str × Value)}
    (ho : K.lookup f = some ⟨oc, od, .func (fnOf name qual params body scope dV kV doc pm an cdv ct), osl⟩) (hcd : codeIn K cdv qual = true) (hroom : d < recursionLimit)
    (hbind : bindArgs (fnOf name qual params body scope dV kV doc pm an cdv ct) ⟨args, []⟩ = pure binds) (hloc : ∀ y ∈ binds, scope.names.lookup y.1 = some .local)
    (hco : scope.isCoroutine = false) (hgen : scope.isGenerator = false) (hk : scope.kind = .function) (hcell : ∀ x ∈ scope.names, x.2 ≠ .cell)
    (h : PureBody prog w K p loose d u f qual scope cdv body binds P r) : PureF prog w K p loose d u f args P r := by
  intro mean mg mb envs base s Q E B X T hp hq
  refine wpAny_call (codeAny_call_def (fd := fnX name qual params body scope [] dV kV doc pm an cdv ct) (body := body) (binds := binds) hroom (X _ _ ho) rfl T.nolimit (codeRec_of X hcd) rfl (.of_eq hbind) hcell hloc (fun h₁ hns hk₁ => ?_) hco hgen hk)
  have F₁ : Fr s.heap s.heap.objs.size h₁ (fun y => binds.reverse.lookup y) := ⟨hns, fun b o e => hk₁ b o e, Nat.le_refl _⟩
  refine wpAny_mono (h mean mg mb envs base s.heap s.heap.objs.size { s with heap := h₁, toks := s.toks + binds.length } B F₁ News.nil X T hp) (fun fl s' he => ?_) fun _ _ y => y.elim
  obtain ⟨h', tk, L', m', rfl, F', hr⟩ := he
  exact hq _ h' tk F'.keep hr
end

def Halt (P : Prop) : Prop := P
theorem Halt.mk {P : Prop} (h : Halt P) : P := h
def PairV (h : Heap) (v : Value) (p : Int × Int) : Prop := ∃ a t u, v = .ref a ∧ IsTup h a #[.int p.1 t, .int p.2 u]
theorem PairV.grown {h h' : Heap} {v : Value} {p : Int × Int} (x : PairV h v p) (k : Grown h h') : PairV h' v p := by
  obtain ⟨a, t, u, e, r⟩ := x
  exact ⟨a, t, u, e, r.keeps k⟩
def RangesV (h : Heap) (l : Addr) (vs : List Value) (ps : List (Int × Int)) : Prop := h.IsList l vs.toArray ∧ vs.length = ps.length ∧ (∀ (i : Nat) (p : Int × Int), ps[i]? = some p → ∃ v, vs[i]? = some v ∧ PairV h v p) ∧ ps.length ≤ 1000
theorem isList_grown {h h' : Heap} {l : Addr} {its : Array Value} (x : h.IsList l its) (k : Grown h h') : h'.IsList l its := let ⟨o, ho, r⟩ := x; ⟨o, k l o ho, r⟩
theorem RangesV.grown {h h' : Heap} {l : Addr} {vs : List Value} {ps : List (Int × Int)} (x : RangesV h l vs ps) (k : Grown h h') : RangesV h' l vs ps :=
  ⟨isList_grown x.1 k, x.2.1, fun i p e => let ⟨v, a, b⟩ := x.2.2.1 i p e; ⟨v, a, b.grown k⟩, x.2.2.2⟩
def Ranges (h : Heap) (l : Addr) (ps : List (Int × Int)) : Prop := ∃ vs, RangesV h l vs ps
theorem Ranges.grown {h h' : Heap} {l : Addr} {ps : List (Int × Int)} (x : Ranges h l ps) (k : Grown h h') : Ranges h' l ps := let ⟨vs, r⟩ := x; ⟨vs, r.grown k⟩

section
variable {prog : Program} {w : World} {A : Around} {E : Value → Shared → Prop} {s : Shared} {h₀ : Heap} {L : Addr} {m : Str → Option Value}
theorem RangesV.item {l : Addr} {vs : List Value} {ps : List (Int × Int)} {value slice : Expr} {k : Int} {u : Tok} {Q : Value → Shared → Prop} (F : Fr h₀ L s.heap m) (R : RangesV h₀ l vs ps) (h0 : 0 ≤ k) (h1 : k < (ps.length : Int))
    (h : ∀ a t t', IsTup h₀ a #[.int (ps.getD k.toNat (0, 0)).1 t, .int (ps.getD k.toNat (0, 0)).2 t'] → Q (.ref a) s)
    (hs : subscripted slice false (.ref l) (.int k u) = operate [.ref l, .int k u] (getItem (.ref l) (.int k u)) := by with_unfolding_all rfl) (hg : ∀ r, letTemporaryGo value (.ref l) r = pure () := by intro _; with_unfolding_all rfl) :
    wpAny (model prog w) A (subscriptTail value slice (.ref l) (.int k u)) Q E s := by
  have hlt : k.toNat < ps.length := by omega
  obtain ⟨v, hv, a, t, t', rfl, ht⟩ := R.2.2.1 k.toNat ps[k.toNat] (by simp [hlt])
  have e : ps.getD k.toNat (0, 0) = ps[k.toNat] := by simp [hlt]
  have hb := R.2.2.2
  exact item_listL (isList_grown R.1 F.keep) h0 (by omega) hv (h a t t' (by rw [e]; exact ht)) hs hg
end
theorem RangesV.len_call {prog : Program} {w : World} {A : Around} {E : Value → Shared → Prop} {s : Shared} {h₀ : Heap} {L : Addr} {m : Str → Option Value} {l : Addr} {vs : List Value} {ps : List (Int × Int)} {Q : Value → Shared → Prop}
    (F : Fr h₀ L s.heap m) (R : RangesV h₀ l vs ps) (h : ∀ t tk, Q (.int (ps.length : Int) t) { s with toks := tk }) : wpAny (model prog w) A (call (.builtin "len") [.ref l]) Q E s := by
  have e : (vs.toArray.size : Int) = (ps.length : Int) := by rw [List.size_toArray, R.2.1]
  have hb := R.2.2.2
  refine call_len_list (isList_grown R.1 F.keep) (by omega) ?_
  rw [e]
  exact h _ _
theorem RangesV.len {h : Heap} {l : Addr} {vs : List Value} {ps : List (Int × Int)} (R : RangesV h l vs ps) : vs.length = ps.length ∧ ps.length ≤ 1000 := ⟨R.2.1, R.2.2.2⟩

def over (ps : List (Str × Value)) (m : Str → Option Value) : Str → Option Value := fun y => match ps.lookup y with | some v => some v | none => m y
theorem over_eq {ps : List (Str × Value)} {m : Str → Option Value} (e : ∀ p ∈ ps, m p.1 = some p.2) : over ps m = m := by
  funext y
  unfold over
  split
  · rename_i v h
    induction ps with
    | nil => cases h
    | cons p r ih =>
      rw [List.lookup_cons] at h
      by_cases hy : (y == p.1) = true
      · rw [hy] at h
        rw [beq_iff_eq.mp hy, e p List.mem_cons_self]
        exact h.symm
      · simp only [hy] at h
        exact ih (fun q hq => e q (List.mem_cons_of_mem _ hq)) h
  · rfl
theorem frOver {h₀ h : Heap} {L : Addr} {m : Str → Option Value} (F : Fr h₀ L h m) (ps : List (Str × Value)) (e : ∀ p ∈ ps, m p.1 = some p.2) : Fr h₀ L h (over ps m) := by rw [over_eq e]; exact F
theorem allNil {α : Type} {P : α → Prop} : ∀ p ∈ ([] : List α), P p := fun _ h => nomatch h
theorem allCons {α : Type} {P : α → Prop} {a : α} {l : List α} (h : P a) (r : ∀ p ∈ l, P p) : ∀ p ∈ a :: l, P p := fun p hp => by
  rcases List.mem_cons.mp hp with rfl | hp
  · exact h
  · exact r p hp

theorem ltS {h : Heap} {a : Addr} {o : Obj} (e : h.get? a = some o) : @LT.lt Nat _ a h.objs.size := Heap.lt_size e
theorem nsLt {h₀ h : Heap} {L : Addr} {m : Str → Option Value} (F : Fr h₀ L h m) : @LT.lt Nat _ L h.objs.size := F.ns.lt
theorem neA {a b : Nat} (h : a ≠ b) : @Ne Addr a b := h

section
variable {prog : Program} {w : World} {A : Around} {E : Value → Shared → Prop} {s : Shared} {env : Env} {h₀ : Heap} {Q : Flow → Shared → Prop}

def TurnEnd (h₀ : Heap) (L : Addr) (own : List (Addr × Obj)) (J : (Str → Option Value) → Prop) (s : Shared) (Q : Flow → Shared → Prop) (f : Flow) (s₂ : Shared) : Prop :=
  match f with
  | .ret v => Q (.ret v) s₂
  | .brk => Q .next s₂
  | _ => ∃ h' tk m', s₂ = { s with heap := h', toks := tk } ∧ Fr h₀ L h' m' ∧ News h₀ L h' own ∧ J m'

theorem frBut {h h' : Heap} {L : Addr} {m : Str → Option Value} {P : Addr → Prop} (F : Fr h₀ L h m) (k : ∀ b o, ¬ P b → h.get? b = some o → h'.get? b = some o) (hL : ¬ P L) (h0 : ∀ b o, h₀.get? b = some o → ¬ P b) : Fr h₀ L h' m :=
  ⟨F.ns.at' fun o e => k L o hL e, fun b o e => k b o (h0 b o e) (F.keep b o e), F.above⟩

theorem for_enum {target : Expr} {elts : List Expr} {x1 : Nat} {pt : Pos} {body : List Stmt} {l : Addr} {items : Array Value} {m₀ : Str → Option Value} (J : Nat → (Str → Option Value) → Prop) (ht : target = .Tuple elts x1 pt)
    (hh : A.handled = none) (hl : h₀.IsList l items) (F : Fr h₀ env.locals s.heap m₀) (h0 : J 0 m₀)
    (turn : ∀ i v m₁ h tk T own t, items[i]? = some v → J i m₁ → Fr h₀ env.locals h m₁ → News h₀ env.locals h ((T, ({ cls := .type "tuple", data := .seq #[.int (i : Int) t, v] } : Obj)) :: own) → (∀ p ∈ own, p.1 ≠ T) →
      wpAny (model prog w) A (assign target env (.ref T)) (fun _ s₂ => wpAny (model prog w) A (execs body env) (TurnEnd h₀ env.locals own (J (i + 1)) s Q) E s₂) E { s with heap := h, toks := tk })
    (done : ∀ h tk m, J items.size m → Fr h₀ env.locals h m → Q .next { s with heap := h, toks := tk })
    (hE : PassesOwn (model prog w) A env E) :
    wpAny (model prog w) A (call (.type "enumerate") [.ref l]) (fun xv s₁ => wpAny (model prog w) A (pyIter xv) (fun it s₂ => codeAny (model prog w) A (.forLoop target it body [] env) (fun r s' => match r with | .ok f => Q f s' | .error e => cameBackBy (model prog w) A env E e s') s₂) E s₁) E s := by
  subst ht
  have hls := isList_grown hl F.keep
  have hlt : @LT.lt Nat _ l s.heap.objs.size := by obtain ⟨_, e, _⟩ := hls; exact ltS e
  refine call_enumerate_list hls fun h' he hit hz hk => ?_
  generalize hit0 : s.heap.objs.size = it at he hit hz
  have hei : it + 1 ≠ it := by omega
  generalize he0 : it + 1 = e at he hei
  have hL : @LT.lt Nat _ env.locals it := by have := nsLt F; omega
  have hli : @LT.lt Nat _ l it := by omega
  have hnI : h₀.get? it = none := by
    cases q : h₀.get? it with
    | none => rfl
    | some o => have := ltS (F.keep it o q); omega
  have hnE : h₀.get? e = none := by
    cases q : h₀.get? e with
    | none => rfl
    | some o => have := ltS (F.keep e o q); omega
  have old : ∀ b o, h₀.get? b = some o → ¬ (b = e ∨ b = it) := fun b o q z => by
    rcases z with rfl | rfl
    · rw [hnE] at q; cases q
    · rw [hnI] at q; cases q
  have F' : Fr h₀ env.locals h' m₀ := F.keeps hk
  refine wpAny_pyIter_enum he ?_
  refine codeAny_forLoop_any (R := fun r s' => match r with | .ok f => Q f s' | .error e => cameBackBy (model prog w) A env E e s')
    (fun k s' => ∃ h₁ tk₁ m₁ i old, s' = { s with heap := h₁, toks := tk₁ } ∧ IsEnum h₁ e it ((i : Nat) : Int) old ∧ h₁.IsListIter it l i ∧ Fr h₀ env.locals h₁ m₁ ∧ J i m₁ ∧ i ≤ items.size ∧ k = items.size + 1 - i) ?_ (items.size + 1)
    ⟨h', s.toks, m₀, 0, .none, rfl, he, hit, F', h0, Nat.zero_le _, rfl⟩
  rintro k s' ⟨h₁, tk₁, m₁, i, ov, rfl, he₁, hit₁, F₁, hJ, hi, rfl⟩
  have hl₁ := isList_grown hl F₁.keep
  cases hv : items[i]? with
  | none =>
    have hsz : i = items.size := Nat.le_antisymm hi (by simpa using hv)
    refine wpAny_pyNext_enum_end hh he₁ hit₁ hl₁ hv fun h₂ hx => wpAny_execs_nil ?_
    exact done h₂ tk₁ m₁ (hsz ▸ hJ) (frBut (P := fun b => b = it) F₁ (fun b o n q => hx b o n q) (neA (by omega)) fun b o q z => old b o q (.inr z))
  | some v =>
    have hlt' : i < items.size := (Array.getElem?_eq_some_iff.mp hv).1
    have heH : @LT.lt Nat _ e h₁.objs.size := ltS he₁
    have hiH : @LT.lt Nat _ it h₁.objs.size := by obtain ⟨_, q, _⟩ := id hit₁; exact ltS q
    refine wpAny_pyNext_enum_item he₁ hit₁ hl₁ hv hei fun h₂ heo hit₂ hT hz₂ hk₂ => ?_
    have F₂ : Fr h₀ env.locals h₂ m₁ := frBut (P := fun b => b = e ∨ b = it) F₁ (fun b o n q => hk₂ b o (fun z => n (.inl z)) (fun z => n (.inr z)) q) (fun z => z.elim (neA (by omega)) (neA (by omega))) old
    refine wpAny_letOwnedTupleGo_enum heo fun h₃ he₃ hs₃ => ?_
    have F₃ : Fr h₀ env.locals h₃ m₁ := frBut (P := fun b => b = e) F₂ (fun b o n q => (hs₃.2 b n).trans q) (neA (by omega)) fun b o q z => old b o q (.inl z)
    have hT₃ : h₃.get? h₁.objs.size = some { cls := .type "tuple", data := .seq #[.int i tk₁, v] } := (hs₃.2 _ (Nat.ne_of_gt heH)).trans hT
    have hit₃ : h₃.IsListIter it l (i + 1) := hit₂.extBut hs₃.extBut (Ne.symm hei)
    obtain ⟨oi, hoi, hoc, hod⟩ := id hit₃
    have hnT : h₀.get? h₁.objs.size = none := by
      cases q : h₀.get? h₁.objs.size with
      | none => rfl
      | some o => exact absurd (Heap.lt_size (F₁.keep _ o q)) (Nat.lt_irrefl _)
    have he₃' : IsEnum h₃ e it ((i : Int) + 1) v := he₃
    have N₃ : News h₀ env.locals h₃ ((h₁.objs.size, ({ cls := .type "tuple", data := .seq #[.int (i : Int) tk₁, v] } : Obj)) ::
        [(e, ({ cls := .type "enumerate", dict := none, data := .fields #[.none, .bool false, .ref it, rawInt ((i : Int) + 1), .none, v], slots := #[] } : Obj)), (it, oi)]) := by
      intro p hp
      rcases List.mem_cons.mp hp with rfl | hp
      · exact ⟨hT₃, neA (by have := nsLt F₁; omega), hnT⟩
      · rcases List.mem_cons.mp hp with rfl | hp
        · exact ⟨he₃', neA (by omega), hnE⟩
        · rw [List.mem_singleton.mp hp]
          exact ⟨hoi, neA (by omega), hnI⟩
    refine wpAny_mono (turn i v m₁ h₃ (tk₁ + 1) h₁.objs.size _ tk₁ hv hJ F₃ N₃ (fun p hp => ?_)) (fun _ s₂ h₂ => wpAny_mono h₂ (fun f s₃ h₃ => ?_) hE) hE
    · rcases List.mem_cons.mp hp with rfl | hp
      · exact neA (by omega)
      · rw [List.mem_singleton.mp hp]; exact neA (by omega)
    · have fin : (∃ h' tk m', s₃ = { s with heap := h', toks := tk } ∧ Fr h₀ env.locals h' m' ∧ News h₀ env.locals h'
          [(e, ({ cls := .type "enumerate", dict := none, data := .fields #[.none, .bool false, .ref it, rawInt ((i : Int) + 1), .none, v], slots := #[] } : Obj)), (it, oi)] ∧ J (i + 1) m') →
          ∃ m, m < items.size + 1 - i ∧ ∃ h₁ tk₁ m₁ i old, s₃ = { s with heap := h₁, toks := tk₁ } ∧ IsEnum h₁ e it ((i : Nat) : Int) old ∧ h₁.IsListIter it l i ∧ Fr h₀ env.locals h₁ m₁ ∧ J i m₁ ∧ i ≤ items.size ∧ m = items.size + 1 - i := by
        rintro ⟨h₄, tk₄, m₄, rfl, F₄, N₄, J₄⟩
        refine ⟨items.size + 1 - (i + 1), by omega, h₄, tk₄, m₄, i + 1, v, rfl, ?_, ⟨oi, (N₄ (it, oi) (by simp)).1, hoc, hod⟩, F₄, J₄, hlt', rfl⟩
        have := (N₄ _ List.mem_cons_self).1
        rw [show ((i + 1 : Nat) : Int) = (i : Int) + 1 by omega]
        exact this
      cases f with
      | ret v => exact h₃
      | brk => exact h₃
      | next => exact fin h₃
      | cont => exact fin h₃
end

def wrongAt : Int → Nat → List (Int × Int) → Option Nat
  | _, _, [] => none
  | b, i, p :: r => if b < p.1 ∧ p.1 ≤ p.2 then wrongAt p.2 (i + 1) r else some i
def ValidR (ps : List (Int × Int)) : Prop := wrongAt (-1) 0 ps = none
def holdsR (ps : List (Int × Int)) (c : Int) : Bool := ps.any fun p => decide (p.1 ≤ c) && decide (c ≤ p.2)

theorem wrongAt_none {ps : List (Int × Int)} : ∀ {b : Int} {k : Nat}, wrongAt b k ps = none → ∀ i, i < ps.length → b < (ps.getD i (0, 0)).1 ∧ (ps.getD i (0, 0)).1 ≤ (ps.getD i (0, 0)).2 ∧ ∀ j, i < j → j < ps.length → (ps.getD i (0, 0)).2 < (ps.getD j (0, 0)).1 := by
  induction ps with
  | nil => intro b k _ i hi; simp at hi
  | cons p r ih =>
    intro b k h i hi
    unfold wrongAt at h
    split at h
    · rename_i hp
      cases i with
      | zero =>
        refine ⟨hp.1, hp.2, fun j h0 hj => ?_⟩
        obtain ⟨j', rfl⟩ : ∃ j', j = j' + 1 := ⟨j - 1, by omega⟩
        simp only [List.length_cons] at hj
        have := (ih h j' (by omega)).1
        simpa using this
      | succ i =>
        simp only [List.length_cons] at hi
        have z := ih h i (by omega)
        refine ⟨by have := z.1; simp only [List.getD_cons_succ]; omega, by simpa using z.2.1, fun j h0 hj => ?_⟩
        obtain ⟨j', rfl⟩ : ∃ j', j = j' + 1 := ⟨j - 1, by omega⟩
        simp only [List.length_cons] at hj
        simpa using z.2.2 j' (by omega) (by omega)
    · cases h

theorem holdsR_iff {ps : List (Int × Int)} {c : Int} : holdsR ps c = true ↔ ∃ i, i < ps.length ∧ (ps.getD i (0, 0)).1 ≤ c ∧ c ≤ (ps.getD i (0, 0)).2 := by
  unfold holdsR
  rw [List.any_eq_true]
  constructor
  · rintro ⟨p, hp, e⟩
    obtain ⟨i, hi, rfl⟩ := List.mem_iff_getElem.mp hp
    simp only [Bool.and_eq_true, decide_eq_true_eq] at e
    exact ⟨i, hi, by simpa [hi] using e.1, by simpa [hi] using e.2⟩
  · rintro ⟨i, hi, a, b⟩
    refine ⟨ps[i], List.getElem_mem hi, ?_⟩
    simp only [List.getD_eq_getElem?_getD, List.getElem?_eq_getElem hi, Option.getD_some] at a b
    simp [a, b]

theorem search_end {ps : List (Int × Int)} {c lo : Int} (hv : ValidR ps) (h0 : 0 ≤ lo) (hlo : ∀ i : Nat, (i : Int) < lo → i < ps.length → (ps.getD i (0, 0)).2 < c)
    (hhi : ∀ i : Nat, lo ≤ (i : Int) → i < ps.length → c ≤ (ps.getD i (0, 0)).2) : holdsR ps c = if lo < (ps.length : Int) then decide ((ps.getD lo.toNat (0, 0)).1 ≤ c) else false := by
  split
  · rename_i hl
    rw [Bool.eq_iff_iff, holdsR_iff, decide_eq_true_eq]
    constructor
    · rintro ⟨i, hi, a, b⟩
      by_cases h : (i : Int) < lo
      · have := hlo i h hi; omega
      · by_cases e : (i : Int) = lo
        · have : lo.toNat = i := by omega
          rw [this]; exact a
        · have := (wrongAt_none hv lo.toNat (by omega))
          have := this.2.2 i (by omega) hi
          have := this
          have z := (wrongAt_none hv lo.toNat (by omega)).2.1
          omega
    · intro a
      exact ⟨lo.toNat, by omega, a, hhi lo.toNat (by omega) (by omega)⟩
  · rename_i hl
    cases hq : holdsR ps c with
    | false => rfl
    | true =>
      obtain ⟨i, hi, a, b⟩ := holdsR_iff.mp hq
      have := hlo i (by omega) hi
      omega

theorem search_low {ps : List (Int × Int)} {c mid : Int} (hv : ValidR ps) (h0 : 0 ≤ mid) (h1 : mid < (ps.length : Int)) (hc : (ps.getD mid.toNat (0, 0)).2 < c) : ∀ i : Nat, (i : Int) < mid + 1 → i < ps.length → (ps.getD i (0, 0)).2 < c := by
  intro i hi hl
  by_cases e : (i : Int) = mid
  · have : mid.toNat = i := by omega
    rw [this] at hc; exact hc
  · have z := (wrongAt_none hv i hl).2.2 mid.toNat (by omega) (by omega)
    have z2 := (wrongAt_none hv mid.toNat (by omega)).2.1
    omega
theorem search_high {ps : List (Int × Int)} {c mid : Int} (hv : ValidR ps) (h0 : 0 ≤ mid) (h1 : mid < (ps.length : Int)) (hc : ¬ (ps.getD mid.toNat (0, 0)).2 < c) : ∀ i : Nat, mid ≤ (i : Int) → i < ps.length → c ≤ (ps.getD i (0, 0)).2 := by
  intro i hi hl
  by_cases e : (i : Int) = mid
  · have : mid.toNat = i := by omega
    rw [this] at hc; omega
  · have z := (wrongAt_none hv mid.toNat (by omega)).2.2 i (by omega) hl
    have z2 := (wrongAt_none hv i hl).2.1
    omega

def beforeR (ps : List (Int × Int)) (i : Nat) : Int := if i = 0 then -1 else (ps.getD (i - 1) (0, 0)).2
theorem before_valid {ps : List (Int × Int)} (h : ValidR ps) {i : Nat} (hi : i < ps.length) : beforeR ps i < (ps.getD i (0, 0)).1 ∧ (ps.getD i (0, 0)).1 ≤ (ps.getD i (0, 0)).2 := by
  have z := wrongAt_none h i hi
  refine ⟨?_, z.2.1⟩
  unfold beforeR
  split
  · exact z.1
  · exact (wrongAt_none h (i - 1) (by omega)).2.2 i (by omega) hi
theorem beforeR_succ (ps : List (Int × Int)) (i : Nat) : beforeR ps (i + 1) = (ps.getD i (0, 0)).2 := by simp [beforeR]
theorem RangesV.at {h : Heap} {l : Addr} {vs : List Value} {ps : List (Int × Int)} (R : RangesV h l vs ps) {i : Nat} {v : Value} (e : vs.toArray[i]? = some v) : i < ps.length ∧ ∃ a t u, v = .ref a ∧ IsTup h a #[.int (ps.getD i (0, 0)).1 t, .int (ps.getD i (0, 0)).2 u] := by
  have e' : vs[i]? = some v := by simpa using e
  have hi : i < ps.length := by rw [← R.2.1]; exact (List.getElem?_eq_some_iff.mp e').1
  obtain ⟨v', a, b⟩ := R.2.2.1 i ps[i] (by simp [hi])
  rw [e'] at a
  cases a
  obtain ⟨a, t, u, rfl, r⟩ := b
  exact ⟨hi, a, t, u, rfl, by simpa [hi] using r⟩

def isI (n : Int) : Value → Heap → Prop := fun x _ => ∃ t, x = .int n t
def TabAt (h : Heap) (t : Addr) (W M J : List (Int × Int)) : Prop :=
  ∃ dx lw lm lj h1 h2 h3 k1 k2 k3, h.get? t = some (instObj 100 dx) ∧
    h.get? dx = some (dictOf [⟨h1, .str (Str.ofString "wide") k1, .ref lw⟩, ⟨h2, .str (Str.ofString "marks") k2, .ref lm⟩, ⟨h3, .str (Str.ofString "joiners") k3, .ref lj⟩] 3) ∧ Ranges h lw W ∧ Ranges h lm M ∧ Ranges h lj J
theorem TabAt.grown {h h' : Heap} {t : Addr} {W M J : List (Int × Int)} (x : TabAt h t W M J) (k : Grown h h') : TabAt h' t W M J := by
  obtain ⟨dx, lw, lm, lj, h1, h2, h3, k1, k2, k3, a, b, c, d, e⟩ := x
  exact ⟨dx, lw, lm, lj, h1, h2, h3, k1, k2, k3, k _ _ a, k _ _ b, c.grown k, d.grown k, e.grown k⟩
theorem instBase {h₀ h : Heap} {L x C dx : Addr} {m : Str → Option Value} {od : Obj} (F : Fr h₀ L h m) (h1 : h₀.get? x = some (instObj C dx)) (h2 : h₀.get? dx = some od) : InstAt h x (instObj C dx) C (some od) :=
  ⟨F.keep _ _ h1, rfl, rfl, F.keep _ _ h2⟩
def widthR (W M : List (Int × Int)) (c : Int) : Int := if holdsR M c then 0 else if holdsR W c then 2 else 1

section
variable {prog : Program} {w : World} {A : Around} {E : Value → Shared → Prop} {s : Shared} {h₀ : Heap} {L : Addr} {m : Str → Option Value} {env : Env}
def SeqAt (h : Heap) (a : Addr) (its : Array Value) : Prop := h.IsList a its ∨ IsTup h a its
theorem SeqAt.grown {h h' : Heap} {a : Addr} {its : Array Value} (x : SeqAt h a its) (k : Grown h h') : SeqAt h' a its := x.elim (fun z => .inl (isList_grown z k)) fun z => .inr (z.keeps k)
theorem comp_seqT {ct elt iter : Expr} {x : Str} {px : Pos} {scope : Scope} {cl : List (Str × Addr)} {pos : Pos} {Q : Value → Shared → Prop} (F₀ : Fr h₀ L s.heap m)
    (hclos : closureFor scope env = pure cl) (hcell : ∀ y ∈ scope.names, y.2 ≠ .cell) (hkind : scope.kind = .function)
    (hnames : ∀ y ∈ scope.names, y.2 = .local → scope.names.lookup y.1 = some .local) (hx : scope.names.lookup x = some .local)
    (h : wpAny (model prog w) A (eval iter env) (fun xv s₁ => ∃ ax its news, xv = .ref ax ∧ A.handled = none ∧ Fr h₀ L s₁.heap m ∧ News h₀ L s₁.heap news ∧ SeqAt h₀ ax its ∧ its.size ≤ sizeLine ∧
      ∀ g (S : List (Addr × Obj) → Prop), (∀ nw, S nw) → LCt.CompRestT prog w A h₀ L m env ct elt x scope cl { s₁ with heap := g } S (fun i v => its[i]? = some v) (LCg.FinE h₀ L m { s₁ with heap := g } Q) its.size 0 [] news) E s)
    (hs : ∀ x, foldedSetIterable iter env x = pure x := by intro _; rfl) :
    wpAny (model prog w) A (eval (.ListComp elt [⟨.Name x px, iter, [ct], 0⟩] scope pos) env) Q E s := by
  rw [eval_ListComp]
  refine wpAny_comprehension_free (use := none) rfl hs hclos hkind hnames (wpAny_mono h (fun xv s₁ h₁ => ?_) fun _ _ e => e)
  obtain ⟨ax, its, news, rfl, hh, F, N, S, hsz, R⟩ := h₁
  have endOf : ∀ s₂ : Shared, (∀ D C h tk (m' : Str → Option Value) ys news', Fr h₀ L h m → News h₀ L h ((D, LCg.lst ys) :: news') → LCg.Off1 D news' → h.Ns C m' → h₀.get? C = none → h₀.get? D = none → C ≠ L → D ≠ L → C ≠ D → (∀ p ∈ news', p.1 ≠ C) → LCg.FinE h₀ L m s₂ Q ys news' →
      compPost (model prog w) A E none Q (.ref D) C (.ok .next) { s₂ with heap := h, toks := tk }) := by
    intro s₂ D C h tk m' ys news' F' N' o1 hn hC₀ hD₀ hCL hDL hCD offC fin
    refine ⟨m', hn, fun h'' hs'' => fin D h'' tk (F'.change hs'' hCL hC₀) (fun p hp => ?_) o1⟩
    refine ⟨hs''.extBut _ _ ?_ (N' p hp).1, (N' p hp).2⟩
    rcases List.mem_cons.mp hp with rfl | hp
    · exact Ne.symm hCD
    · exact offC p hp
  rcases S with hl₀ | ht₀
  · have hl := isList_grown hl₀ F.keep
    have hlt : @LT.lt Nat _ ax s₁.heap.objs.size := by obtain ⟨_, e, _⟩ := hl; exact ltS e
    refine wpAny_pyIter_list hl ?_
    have up : Grown s₁.heap (s₁.heap.push { cls := .type "list_iterator", data := .fields #[.ref ax, .int 0 0] }) := fun b o e => Heap.get?_push_of_some _ e
    refine LCt.block_T (Walks.list hh s₁.heap.objs.size ax (Nat.ne_of_lt hlt) its) hsz (fun i h st => by obtain ⟨o, e, _⟩ := st.1; exact ⟨o, e⟩) LCg.list_st hcell hkind hx ⟨⟨_, Heap.get?_push_size _ rfl, rfl, rfl⟩, hl.push _⟩ (fun b hb => ?_)
      (F.keeps up) (N.grown up) (Nat.ne_of_lt F.ns.lt) (next_is_new F) (fun p hp => Nat.ne_of_lt (Heap.lt_size (N p hp).1)) (show LCg.SrcAt h₀ ax its news from .inl hl₀) (R _ _ fun _ => .inl hl₀) (endOf _)
    show b < (s₁.heap.push _).objs.size
    rw [Heap.size_push]
    rcases List.mem_cons.mp hb with rfl | hb
    · exact Nat.lt_succ_self _
    · rw [List.mem_singleton.mp hb]; exact Nat.lt_succ_of_lt hlt
  · have hl : s₁.heap.IsTuple ax its := ht₀.keeps F.keep
    have hlt : @LT.lt Nat _ ax s₁.heap.objs.size := by obtain ⟨_, e, _⟩ := hl; exact ltS e
    refine wpAny_pyIter_tuple hl ?_
    have up : Grown s₁.heap (s₁.heap.push { cls := .type "tuple_iterator", data := .fields #[.ref ax, .int 0 0] }) := fun b o e => Heap.get?_push_of_some _ e
    refine LCt.block_T (S := fun _ => True) (Walks.tuple hh s₁.heap.objs.size ax (Nat.ne_of_lt hlt) its) hsz (fun i h st => by obtain ⟨o, e, _⟩ := st.1; exact ⟨o, e⟩)
      (fun i h h' o nw st e e' k _ _ => ⟨by obtain ⟨o', q, r⟩ := st.1; rw [e] at q; cases q; exact ⟨o, e', r⟩, ht₀.keeps k⟩) hcell hkind hx ⟨⟨_, Heap.get?_push_size _ rfl, rfl, rfl⟩, hl.at fun o e => up _ o e⟩ (fun b hb => ?_)
      (F.keeps up) (N.grown up) (Nat.ne_of_lt F.ns.lt) (next_is_new F) (fun p hp => Nat.ne_of_lt (Heap.lt_size (N p hp).1)) trivial (R _ _ fun _ => trivial) (endOf _)
    show b < (s₁.heap.push _).objs.size
    rw [Heap.size_push]
    rcases List.mem_cons.mp hb with rfl | hb
    · exact Nat.lt_succ_self _
    · rw [List.mem_singleton.mp hb]; exact Nat.lt_succ_of_lt hlt

def TestEnd (h₀ : Heap) (L : Addr) (m : Str → Option Value) (nw : List (Addr × Obj)) (s : Shared) (b ok : Bool) (s' : Shared) : Prop := ok = b ∧ ∃ h' tk, s' = { s with heap := h', toks := tk } ∧ Fr h₀ L h' m ∧ News h₀ L h' nw
theorem TestEnd.intro {nw nw' : List (Addr × Obj)} {b ok : Bool} {h' : Heap} {tk : Nat} (F : Fr h₀ L h' m) (N : News h₀ L h' nw') (hs : ∀ p ∈ nw, p ∈ nw') (e : ok = b) : TestEnd h₀ L m nw s b ok { s with heap := h', toks := tk } := ⟨e, h', tk, rfl, F, fun p hp => N p (hs p hp)⟩

theorem rest_filter {ct : Expr} {x : Str} {px : Pos} {scope : Scope} {cl : List (Str × Addr)} {S : List (Addr × Obj) → Prop} {P : Nat → Value → Prop} {Fin : List Value → List (Addr × Obj) → Prop} {n : Nat} {ks : List Int} {news : List (Addr × Obj)} (p : Int → Bool)
    (hS : ∀ nw, S nw) (hn : ks.length = n) (hP : ∀ i v, i < n → P i v → ∃ k t, ks[i]? = some k ∧ v = .int k t)
    (hlx : ∀ C, (compEnvC scope cl C env).kindOf x = some .local) (hkx : ∀ C, (compEnvC scope cl C env).scope.kind = .function) (hdx : (x == ("__debug__" : Str)) = false)
    (turn : ∀ k t I oI C oC D m₂ ys h tk (E' : Value → Shared → Prop), k ∈ ks → LCg.NsObj oC m₂ → m₂ x = some (.int k t) → Fr h₀ L h m → News h₀ L h ((I, oI) :: (C, oC) :: (D, LCg.lst ys) :: news) → LCg.Off3 I C D news → ((@Ne Nat I C) ∧ (@Ne Nat I D) ∧ (@Ne Nat C D)) →
      wpAny (model prog w) A (isTrue ct (compEnvC scope cl C env) (eval ct (compEnvC scope cl C env))) (TestEnd h₀ L m ((I, oI) :: (C, oC) :: (D, LCg.lst ys) :: news) { s with heap := h, toks := tk } (p k)) E' { s with heap := h, toks := tk })
    (fin : ∀ ys, IntsAre ys (ks.filter p) → Fin ys news) : LCt.CompRestT prog w A h₀ L m env ct (.Name x px) x scope cl s S P Fin n 0 [] news := by
  have key : ∀ (j i : Nat) (ys : List Value), i + j = n → IntsAre ys ((ks.take i).filter p) → LCt.CompRestT prog w A h₀ L m env ct (.Name x px) x scope cl s S P Fin j i ys news := by
    intro j
    induction j with
    | zero =>
      intro i ys hi hy
      have e : i = ks.length := by omega
      rw [e, List.take_length] at hy
      exact fin ys hy
    | succ j ih =>
      intro i ys hi hy
      refine LCt.CompRestT.succ ?_
      intro v I oI C oC D m₂ h tk E' hv hC hx F N off ne
      obtain ⟨k, t, hk, rfl⟩ := hP i v (by omega) hv
      have htake : (ks.take (i + 1)).filter p = (ks.take i).filter p ++ [k].filter p := by rw [List.take_add_one, hk, List.filter_append]; rfl
      refine wpAny_mono (turn k t I oI C oC D m₂ ys h tk E' (List.mem_of_getElem? hk) hC hx F N off ne) (fun ok s' hq => ?_) fun _ _ e => e
      obtain ⟨rfl, h', tk', rfl, F', N'⟩ := hq
      cases hp : p k with
      | true =>
        simp only [if_true]
        refine wpAny_Name (wpAny_loadName_local (hkx C) (hlx C) (hC.ns (N' (C, oC) (by simp)).1) hx ?_) hdx
        refine LCg.CompEnd.intro F' N' news (fun q hq => hq) off (hS _) (ih (i + 1) _ (by omega) ?_)
        rw [htake]
        simp only [List.filter_cons, hp, if_true, List.filter_nil]
        exact IntsAre.append hy (.cons k t .nil)
      | false =>
        simp only [Bool.false_eq_true, if_false]
        refine LCg.CompEnd.intro F' N' news (fun q hq => hq) off (hS _) (ih (i + 1) _ (by omega) ?_)
        rw [htake]
        simp only [List.filter_cons, hp, List.filter_nil]
        simpa using hy
  exact key n 0 [] (by omega) (by simp only [List.take_zero, List.filter_nil]; exact .nil)
end
end
local macro_rules | `(tactic| walk_at "MINE g0") => `(tactic| (with_reducible show wpAny _ _ (call (Value.builtin "len") [Value.ref _]) _ _ _))
local macro_rules | `(tactic| walk_at "MINE g2") => `(tactic| (with_reducible show wpAny _ _ (call (Value.ref 100) _) _ _ _))
local macro_rules | `(tactic| walk_at "MINE g13") => `(tactic| (with_reducible show wpAny _ _ (call (Value.ref 177) _) _ _ _))
local macro_rules | `(tactic| walk_at "MINE g20") => `(tactic| (with_reducible show wpAny _ _ (call (Value.ref 69) _) _ _ _))
local macro_rules | `(tactic| walk_at "MINE g23") => `(tactic| (with_reducible show wpAny _ _ (subscriptTail _ _ (Value.ref _) (Value.int (-1) _)) _ _ _))
local macro_rules | `(tactic| walk_at "MINE g26") => `(tactic| (with_reducible show wpAny _ _ (subscriptTail _ _ (Value.ref _) (Value.int _ _)) _ _ _))
local macro_rules | `(tactic| walk_at "MINE g28") => `(tactic| (with_reducible show wpAny _ _ (subscriptTail _ _ (Value.ref _) (Value.str _ _)) _ _ _))
theorem PureF.useA {prog : Program} {w : World} {K : Frag} {p : Program} {loose : List Str} {d u : Nat} {f : Addr} {args : List Value} {P : Heap → Prop} {r : Value → Heap → Prop} (S : PureF prog w K p loose d u f args P r) {A A₀ : Around} {mean : ExcName → Option Value} {mg mb : Str → Option Value} {env : Env} {outer : List Env} {base h₀ : Heap} {L : Addr} {m : Str → Option Value} {news : List (Addr × Obj)} {s : Shared} {Q E : Value → Shared → Prop}
    (hp : P s.heap) (ret : ∀ v h' tk, Grown s.heap h' → Fr h₀ L h' m → News h₀ L h' news → r v h' → Q v { s with heap := h', toks := tk })
    (B : Below A₀ base outer h₀ := by k_asm) (F : Fr h₀ L s.heap m := by k_asm) (X : K.In h₀ := by k_asm) (N : News h₀ L s.heap news := by k_asm) (T : Top p loose mean mg mb h₀ := by k_asm) (hA : A.frames = some (env :: outer) := by exact rfl) (hh : A.handled = none := by exact rfl) (hd : A.depth ≤ d := by exact Nat.le_of_ble_eq_true rfl) (hu : A.units ≤ u := by exact Nat.le_of_ble_eq_true rfl)
    (hf : env.frame = some L := by exact rfl) (hk : env.scope.kind = .function := by exact rfl) : wpAny (model prog w) A (call (.ref f) args) Q E s := S.use B F X N T hA hh hd hu hf hk hp ret
local macro_rules | `(tactic| walk_at "MINE a1") => `(tactic| (case kv0 => assumption))
local macro_rules | `(tactic| walk_at "MINE a2") => `(tactic| ((case kv0 => assumption); (case kv1 => assumption)))
local macro_rules | `(tactic| walk_at "MINE a3") => `(tactic| ((case kv0 => assumption); (case kv1 => assumption); (case kv2 => assumption)))
local macro_rules | `(tactic| walk_at "MINE retV") => `(tactic| (intro v' h' tk' G' F' N' r'; (unfold isV at r'; subst r')))
local macro_rules | `(tactic| walk_at "MINE rg") => `(tactic| exact RangesV.grown (by assumption) (Fr.keep (by assumption)))
local macro_rules | `(tactic| walk_at "MINE retI") => `(tactic| (intro v' h' tk' G' F' N' r'; (obtain ⟨t', r'⟩ := r'; subst r')))
local macro_rules | `(tactic| walk_at "PureEnd") => `(tactic| (refine PureEnd.intro (by assumption) ?_; (try dsimp only [isV])))
local macro_rules | `(tactic| walk_at "MINE arith") => `(tactic| first | omega | ((try rw [Int.fdiv_eq_ediv_of_nonneg _ (by decide)]); omega))
local macro_rules | `(tactic| walk_at "MINE open") => `(tactic| (
  (case k6 => k_dflt k_is)
  (case k7 => k_dflt k_is)
  (case k8 => decide)
  (case k9 => with_unfolding_all exact rfl)
  (case kB => exact locs rfl)
  (case c2 => exact rfl)
  (case c3 => exact rfl)
  (case c4 => exact rfl)
  (case c5 => decide)))
local macro_rules | `(tactic| walk_at "MINE use") => `(tactic| (
  (case k1 => k_asm)
  (case k2 => k_asm)
  (case k3 => k_asm)
  (case k4 => k_asm)
  (case k5 => k_asm)
  (case kA => exact rfl)
  (case kh => exact rfl)
  (case kd => exact Nat.le_of_ble_eq_true rfl)
  (case ku => exact Nat.le_of_ble_eq_true rfl)
  (case kf => exact rfl)
  (case kk => exact rfl)))

section
set_option maxHeartbeats 8000000
def k0 : Str := Str.ofString "a"
theorem k0_eq : k0 = k0 := rfl
name_quick tw10569802208783239087 for k0 by k0_eq
name_quick tw8075568018651887793 for k0 by k0_eq
name_quick tw13896205201685373497 for k0 by k0_eq
name_quick tw12880600461018141596 for k0 by k0_eq
name_quick tw14979626087600564940 for k0 by k0_eq
name_quick tw2161793152289740667 for k0 by k0_eq
name_quick tw1180156069936011428 for k0 by k0_eq
name_quick tw12575752337218549985 for k0 by k0_eq
name_quick tw17164873540382356111 for k0 by k0_eq
name_quick tw3129706707597842070 for k0 by k0_eq
name_quick tw11853533878840232495 for k0 by k0_eq
name_quick tw2039238271031011813 for k0 by k0_eq
name_quick tw17532718790514356516 for k0 by k0_eq
name_quick tw12925405047365184681 for k0 by k0_eq
name_quick tw5465617051466427057 for k0 by k0_eq
name_quick tw3619232141914619222 for k0 by k0_eq
name_quick tw17730448691065144110 for k0 by k0_eq
name_quick tw662354867322794072 for k0 by k0_eq
name_quick tw15278061642289888581 for k0 by k0_eq
name_quick tw18056578402003937789 for k0 by k0_eq
name_quick tw11788150170368784547 for k0 by k0_eq
name_quick tw6434138532213402376 for k0 by k0_eq
name_quick tw16349804527192203551 for k0 by k0_eq
name_quick tw1503297043503765363 for k0 by k0_eq
name_quick tw5268983451555188008 for k0 by k0_eq
name_quick tw10996506086634736982 for k0 by k0_eq
name_quick tw17354465474357448390 for k0 by k0_eq
name_quick tw14326252917377295143 for k0 by k0_eq
name_quick tw4527066259768149269 for k0 by k0_eq
name_quick tw151948405760981731 for k0 by k0_eq
name_quick tw17497748084772794779 for k0 by k0_eq
name_quick tw16916688483869632129 for k0 by k0_eq
name_quick tw17476080006546285661 for k0 by k0_eq
name_quick tw16531745337717519161 for k0 by k0_eq
name_quick tw2283851925072248500 for k0 by k0_eq
name_quick tw3577408171920636059 for k0 by k0_eq
name_quick tw4090926877573551719 for k0 by k0_eq
name_quick tw6929956602132211858 for k0 by k0_eq
name_quick tw13789449189825218787 for k0 by k0_eq
name_quick tw13145125596335152023 for k0 by k0_eq
name_quick tw17730428716208468724 for k0 by k0_eq
name_quick tw6654550962395885724 for k0 by k0_eq
name_quick tw14126943448341045398 for k0 by k0_eq
name_quick tw13236226663087606529 for k0 by k0_eq
name_quick tw3362959441861295915 for k0 by k0_eq
name_quick tw17111948838632640456 for k0 by k0_eq
name_quick tw9467589175468403638 for k0 by k0_eq
name_quick tw4280405083889116848 for k0 by k0_eq
name_quick tw10227693086864044499 for k0 by k0_eq
name_quick tw17532440430192770315 for k0 by k0_eq
name_quick tw10029231156530900338 for k0 by k0_eq
name_quick tw18340240734955500558 for k0 by k0_eq
name_quick tw12268644228514654432 for k0 by k0_eq
name_quick tw9948023125614773506 for k0 by k0_eq
name_quick tw8693227569615203950 for k0 by k0_eq
name_quick tw2627984346626558326 for k0 by k0_eq
name_quick tw4980102563643897964 for k0 by k0_eq
name_quick tw282004115355043989 for k0 by k0_eq
name_quick tw3891137856419664920 for k0 by k0_eq
name_quick tw9862997608875712007 for k0 by k0_eq
name_quick tw7232422423428716515 for k0 by k0_eq
name_quick tw11729385059970357855 for k0 by k0_eq
name_quick tw1377046205977697930 for k0 by k0_eq
name_quick tw9011979029575296479 for k0 by k0_eq
name_quick tw8860024209350480642 for k0 by k0_eq
name_quick tw8537084889766193716 for k0 by k0_eq
name_quick tw16414604833108395602 for k0 by k0_eq
name_quick tw5770868932273138760 for k0 by k0_eq
name_quick tw15112985482279097393 for k0 by k0_eq
name_quick tw6589095468515690095 for k0 by k0_eq
name_quick tw10833955939284561965 for k0 by k0_eq
name_quick tw4011157648589011858 for k0 by k0_eq
name_quick tw10010936943081839664 for k0 by k0_eq
name_quick tw8424611434330503625 for k0 by k0_eq
name_quick tw11985326045990495214 for k0 by k0_eq
name_quick tw4658958612460137192 for k0 by k0_eq
open_top hd for PySem.Challenge.rw_og0230_01
end

section
set_option maxHeartbeats 4000000
noncomputable abbrev PP : Program := PySem.Challenge.rw_og0230_01.row.prog
noncomputable abbrev KF (w : World) : Frag := hd.heap_39 w.params
noncomputable abbrev VV : Program := hd.view_39
noncomputable abbrev LL : List Str := looseW hd.view_39 [Str.ofString "TermError", Str.ofString "FIRST_MODIFIER", Str.ofString "LAST_MODIFIER", Str.ofString "FIRST_REGION", Str.ofString "LAST_REGION"]


theorem s_is_region (w : World) (c : Int) (t : Tok) : PureF PP w (KF w) VV LL 360 400 111 [.int c t] (fun _ => True) (isV (.bool (decide (127462 ≤ c ∧ c ≤ 127487)))) := by
  w_top off
  unfold PP KF VV LL
  k_fill
  refine' PureF.enter (binds := [(Str.ofString "code", .int c t)]) ?k6 ?k7 ?k8 ?k9 ?kB ?c2 ?c3 ?c4 ?c5 ?h
  walk_at "MINE open"
  intro mean mg mb outer base g L s B F N X T hp
  (try dsimp only); k_unmd
  k_fold
  k_steps
  all_goals (simp only [Value.bool.injEq]; (try simp only [decide_eq_true_eq, decide_eq_false_iff_not] at *); (try simp); omega)

theorem s_is_modifier (w : World) (c : Int) (t : Tok) : PureF PP w (KF w) VV LL 360 400 118 [.int c t] (fun _ => True) (isV (.bool (decide (127995 ≤ c ∧ c ≤ 127999)))) := by
  w_top off
  unfold PP KF VV LL
  k_fill
  refine' PureF.enter (binds := [(Str.ofString "code", .int c t)]) ?k6 ?k7 ?k8 ?k9 ?kB ?c2 ?c3 ?c4 ?c5 ?h
  walk_at "MINE open"
  intro mean mg mb outer base g L s B F N X T hp
  (try dsimp only); k_unmd
  k_fold
  k_steps
  all_goals (simp only [Value.bool.injEq]; (try simp only [decide_eq_true_eq, decide_eq_false_iff_not] at *); (try simp); omega)

local macro_rules | `(tactic| walk_at "exec While Compare cons nil") => `(tactic| (refine Halt.mk ?_))
local macro_rules | `(tactic| walk_at "subscriptTail") => `(tactic| (k_here; walk_at "MINE g26"; (with_unfolding_all refine' RangesV.item (by k_asm) (by assumption) (by walk_at "MINE arith") (by walk_at "MINE arith") ?_; k_whole); intro a' t' u' hT'))

local macro_rules | `(tactic| walk_at "call builtin:len") => `(tactic| (k_here; walk_at "MINE g0"; (with_unfolding_all refine' RangesV.len_call (by k_asm) (by assumption) ?_; k_whole); intro t' tk'))
theorem s_wir (w : World) (l : Addr) (c : Int) (t : Tok) (vs : List Value) (ps : List (Int × Int)) (hv : ValidR ps) :
    PureF PP w (KF w) VV LL 360 400 62 [.ref l, .int c t] (fun h => RangesV h l vs ps) (isV (.bool (holdsR ps c))) := by
  w_top off
  unfold PP KF VV LL
  k_fill
  refine' PureF.enter (binds := [(Str.ofString "ranges", .ref l), (Str.ofString "code", .int c t)]) ?k6 ?k7 ?k8 ?k9 ?kB ?c2 ?c3 ?c4 ?c5 ?h
  walk_at "MINE open"
  intro mean mg mb outer base g L s B F N X T hp
  have hl := hp.1
  have hln := hp.len
  (try dsimp only); k_unmd
  k_fold
  k_steps
  rename Fr _ _ _ _ => F1
  unfold Halt
  refine While_inv2 (fun n m news => news = [] ∧ ∃ (lo hi : Int) (t1 t2 : Tok), m (Str.ofString "ranges") = some (.ref l) ∧ m (Str.ofString "code") = some (.int c t) ∧ m (Str.ofString "low") = some (.int lo t1) ∧ m (Str.ofString "high") = some (.int hi t2) ∧
    n = (hi - lo).toNat ∧ 0 ≤ lo ∧ lo ≤ hi ∧ hi ≤ (ps.length : Int) ∧ (∀ i : Nat, (i : Int) < lo → i < ps.length → (ps.getD i (0, 0)).2 < c) ∧ (∀ i : Nat, hi ≤ (i : Int) → i < ps.length → c ≤ (ps.getD i (0, 0)).2)) (n₀ := ps.length) F1 News.nil ?j0 ?turn ?hE
  case j0 => exact ⟨rfl, 0, (ps.length : Int), _, _, rfl, rfl, rfl, rfl, by omega, by omega, by omega, by omega, fun i h _ => by omega, fun i h h' => by omega⟩
  case hE => passes_own
  case turn =>
    rintro n m1 news1 h1 tk1 F2 N2 ⟨rfl, lo, hi, t1, t2, e1, e2, e3, e4, hn, h0, h1', h2, hlo, hhi⟩
    clear F1
    replace F2 := frOver F2 [(Str.ofString "ranges", .ref l), (Str.ofString "code", .int c t), (Str.ofString "low", .int lo t1), (Str.ofString "high", .int hi t2)] (allCons e1 (allCons e2 (allCons e3 (allCons e4 allNil))))
    k_unmd
    k_fold
    k_steps
    · have hm0 : 0 ≤ (lo + hi).fdiv 2 := by rw [Int.fdiv_eq_ediv_of_nonneg _ (by decide)]; omega
      have hm1 : lo ≤ (lo + hi).fdiv 2 ∧ (lo + hi).fdiv 2 < hi := by rw [Int.fdiv_eq_ediv_of_nonneg _ (by decide)]; omega
      exact ⟨_, _, _, [], _, rfl, by assumption, News.nil, by omega, rfl, _, hi, _, t2, rfl, rfl, rfl, rfl, rfl, by omega, by omega, by omega, search_low hv hm0 (by omega) (by assumption), hhi⟩
    · have hm0 : 0 ≤ (lo + hi).fdiv 2 := by rw [Int.fdiv_eq_ediv_of_nonneg _ (by decide)]; omega
      have hm1 : lo ≤ (lo + hi).fdiv 2 ∧ (lo + hi).fdiv 2 < hi := by rw [Int.fdiv_eq_ediv_of_nonneg _ (by decide)]; omega
      exact ⟨_, _, _, [], _, rfl, by assumption, News.nil, by omega, rfl, lo, _, t1, _, rfl, rfl, rfl, rfl, rfl, by omega, by omega, by omega, hlo, search_high hv hm0 (by omega) (by assumption)⟩
    · rw [search_end hv h0 hlo (fun i a b => hhi i (by omega) b), if_pos (by assumption)]
    · rw [search_end hv h0 hlo (fun i a b => hhi i (by omega) b), if_neg (by assumption)]; simp; omega
end

section
set_option maxHeartbeats 4000000



local macro_rules | `(tactic| walk_at "exec For Tuple Call cons nil") => `(tactic| (k_here; (with_reducible refine wpAny_For ?_ ?_); rotate_left; exact fun _ => rfl))
local macro_rules | `(tactic| walk_at "call type:enumerate") => `(tactic| (refine Halt.mk ?_))

theorem s_check (w : World) (l : Addr) (vs : List Value) (ps : List (Int × Int)) (hv : ValidR ps) : PureF PP w (KF w) VV LL 360 400 69 [.ref l] (fun h => RangesV h l vs ps) (isV .none) := by
  w_top off
  unfold PP KF VV LL
  k_fill
  refine' PureF.enter (binds := [(Str.ofString "ranges", .ref l)]) ?k6 ?k7 ?k8 ?k9 ?kB ?c2 ?c3 ?c4 ?c5 ?h
  walk_at "MINE open"
  intro mean mg mb outer base g L s B F N X T hp
  (try dsimp only); k_unmd
  k_fold
  k_steps
  rename Fr _ _ _ _ => F1
  unfold Halt
  refine for_enum (fun i m => m (Str.ofString "ranges") = some (.ref l) ∧ ∃ t, m (Str.ofString "before") = some (.int (beforeR ps i) t)) rfl rfl hp.1 F1 ⟨rfl, _, rfl⟩ ?turn ?done ?hE
  case hE => passes_own
  case done =>
    rintro h tk m ⟨e1, t1, e2⟩ F2
    clear F1
    have N2 : News g L h [] := News.nil
    dsimp only
    k_unmd
    k_steps
    all_goals rfl
  case turn =>
    rintro i v m1 h tk T1 own t1 hi ⟨e1, t2, e2⟩ F2 N2 ho
    obtain ⟨hi', a, t3, t4, rfl, hT⟩ := hp.at hi
    have hb := before_valid hv hi'
    clear F1
    replace F2 := frOver F2 [(Str.ofString "ranges", .ref l), (Str.ofString "before", .int (beforeR ps i) t2)] (allCons e1 (allCons e2 allNil))
    k_unmd
    k_fold
    k_steps
    all_goals (rename News _ _ _ _ => N9)
    all_goals exact ⟨_, _, _, rfl, by assumption, fun p hp => N9 p (by first | exact hp | exact List.mem_cons_of_mem _ hp), rfl, _, by rw [beforeR_succ]; rfl⟩
end

section
set_option maxHeartbeats 4000000



local macro_rules | `(tactic| k_inst) => `(tactic| exact instBase (by assumption) (by assumption) (by assumption))
local macro_rules | `(tactic| walk_at "call ref") => `(tactic| (k_here; (with_reducible show wpAny _ _ (call (Value.ref 62) [Value.ref _, Value.int _ _]) _ _ _); k_dflt (refine' PureF.useA (s_wir _ _ _ _ _ _ ?kv0) ?kp ?_; (case kp => walk_at "MINE rg"); walk_at "MINE a1"; k_whole); walk_at "MINE retV"))

theorem s_is_picture (w : World) (t : Addr) (c : Int) (k : Tok) (W M J : List (Int × Int)) (hJ : ValidR J) :
    PureF PP w (KF w) VV LL 358 390 97 [.ref t, .int c k] (fun h => TabAt h t W M J) (isV (.bool (holdsR J c))) := by
  w_top off
  unfold PP KF VV LL
  k_fill
  refine' PureF.enter (binds := [(Str.ofString "self", .ref t), (Str.ofString "code", .int c k)]) ?k6 ?k7 ?k8 ?k9 ?kB ?c2 ?c3 ?c4 ?c5 ?h
  walk_at "MINE open"
  intro mean mg mb outer base g L s B F N X T hp
  obtain ⟨dx, lw, lm, lj, h1, h2, h3, k1, k2, k3, hx, hd, -, -, ⟨vs, hr⟩⟩ := hp
  (try dsimp only); k_unmd
  k_fold
  k_steps

theorem s_width_of (w : World) (t : Addr) (c : Int) (k : Tok) (W M J : List (Int × Int)) (hW : ValidR W) (hM : ValidR M) :
    PureF PP w (KF w) VV LL 358 390 90 [.ref t, .int c k] (fun h => TabAt h t W M J) (isI (widthR W M c)) := by
  w_top off
  unfold PP KF VV LL
  k_fill
  refine' PureF.enter (binds := [(Str.ofString "self", .ref t), (Str.ofString "code", .int c k)]) ?k6 ?k7 ?k8 ?k9 ?kB ?c2 ?c3 ?c4 ?c5 ?h
  walk_at "MINE open"
  intro mean mg mb outer base g L s B F N X T hp
  obtain ⟨dx, lw, lm, lj, h1, h2, h3, k1, k2, k3, hx, hd, ⟨vs1, hr1⟩, ⟨vs2, hr2⟩, -⟩ := hp
  (try dsimp only); k_unmd
  k_fold
  k_steps
  all_goals exact ⟨_, by rw [widthR]; simp only [*]; rfl⟩
end

section
def SeqI (h : Heap) (a : Addr) (ns : List Int) : Prop := ∃ vs, SeqAt h a vs.toArray ∧ IntsAre vs ns ∧ ns.length ≤ 1000
theorem SeqI.grown {h h' : Heap} {a : Addr} {ns : List Int} (x : SeqI h a ns) (k : Grown h h') : SeqI h' a ns := let ⟨vs, p, q⟩ := x; ⟨vs, p.grown k, q⟩
theorem SeqI.size {h : Heap} {a : Addr} {ns : List Int} (x : SeqI h a ns) : ns.length ≤ 1000 := x.choose_spec.2.2
def lastI (ns : List Int) (k : Nat) : Int := ns.getD (ns.length - k) 0

section
variable {prog : Program} {w : World} {A : Around} {E : Value → Shared → Prop} {s : Shared} {h₀ : Heap} {L : Addr} {m : Str → Option Value}
theorem seqI_len {a : Addr} {ns : List Int} {Q : Value → Shared → Prop} (F : Fr h₀ L s.heap m) (S : SeqI h₀ a ns) (h : ∀ t tk, Q (.int (ns.length : Int) t) { s with toks := tk }) :
    wpAny (model prog w) A (call (.builtin "len") [.ref a]) Q E s := by
  obtain ⟨vs, S, hi, hb⟩ := S
  have e : (vs.toArray.size : Int) = (ns.length : Int) := by rw [List.size_toArray, hi.length]
  rcases S with S | S
  · refine call_len_list (isList_grown S F.keep) (by omega) ?_
    rw [e]; exact h _ _
  · refine PyProof.Rows.len_tuple (S.keeps F.keep) (by omega) ?_
    rw [e]; exact h _ _

theorem seqI_item {a : Addr} {ns : List Int} {value slice : Expr} {k : Int} {u : Tok} {j : Nat} {Q : Value → Shared → Prop} (F : Fr h₀ L s.heap m) (S : SeqI h₀ a ns) (h1 : -(ns.length : Int) ≤ k) (h2 : k < (ns.length : Int))
    (hj : (j : Int) = if k < 0 then k + ns.length else k) (h : ∀ t, Q (.int (ns.getD j 0) t) s)
    (hs : subscripted slice false (.ref a) (.int k u) = operate [.ref a, .int k u] (getItem (.ref a) (.int k u)) := by with_unfolding_all rfl) (hg : ∀ r, letTemporaryGo value (.ref a) r = pure () := by intro _; with_unfolding_all rfl) :
    wpAny (model prog w) A (subscriptTail value slice (.ref a) (.int k u)) Q E s := by
  obtain ⟨vs, S, hi, hb⟩ := S
  have hlen := hi.length
  have hjl : j < ns.length := by split at hj <;> omega
  obtain ⟨t, hx⟩ := hi.get j (ns.getD j 0) (by simp [hjl])
  rcases S with S | S
  · by_cases hk : k < 0
    · rw [if_pos hk] at hj
      have hjj : (k + (vs.toArray.size : Int)).toNat = j := by rw [List.size_toArray]; omega
      refine subscriptTail_builtin (S.at fun o e => F.keep _ _ e).typeIs slot_list_getitem.lookup (wpAny_getItem_list_neg (isList_grown S F.keep) hk (by rw [List.size_toArray]; omega) (by omega) (x := .int (ns.getD j 0) t) ?_ (h t)) hs hg
      rw [hjj]; simpa using hx
    · rw [if_neg hk] at hj
      have hjj : k.toNat = j := by omega
      exact item_listL (isList_grown S F.keep) (by omega) (by omega) (by rw [hjj]; exact hx) (h t) hs hg
  · have hjj : seqIndex? k vs.length = some j := by
      unfold seqIndex?
      by_cases hk : k < 0
      · rw [if_pos hk] at hj
        simp only [hk, if_true]
        have c : (decide (0 ≤ k + (vs.length : Int)) && decide (k + (vs.length : Int) < (vs.length : Int))) = true := by simp; omega
        rw [if_pos c]
        congr 1; omega
      · rw [if_neg hk] at hj
        simp only [hk, if_false]
        have c : (decide (0 ≤ k) && decide (k < (vs.length : Int))) = true := by simp; omega
        rw [if_pos c]
        congr 1; omega
    exact item_tupleT (S.keeps F.keep) (by omega) (by omega) hjj hx (h t) hs

theorem seqI_in {a : Addr} {ns : List Int} {k : Int} {u : Tok} {Q : Value → Shared → Prop} (F : Fr h₀ L s.heap m) (S : SeqI h₀ a ns) (h : Q (.bool (ns.any (· == k))) s) : wpAny (model prog w) A (compareOp .In (.int k u) (.ref a)) Q E s := by
  obtain ⟨vs, S, hi, hb⟩ := S
  rcases S with S | S
  · exact in_list_ints (isList_grown S F.keep) hi h
  · exact in_tuple_ints (S.keeps F.keep) (by simpa using hi) h

theorem readsAll_ints {h : Heap} : ∀ {vs : List Value} {ns : List Int}, IntsAre vs ns → ReadsAll h vs (ns.map PyData.int) []
  | _, _, .nil => .nil
  | _, _, .cons n t r => ReadsAll.cons (as := []) (.int n t) (readsAll_ints r)

theorem eq_tups {a b : Addr} {xs ys : List Value} {ns ms : List Int} {Q : Value → Shared → Prop} (ha : IsTup s.heap a xs.toArray) (hb : IsTup s.heap b ys.toArray) (hi : IntsAre xs ns) (hj : IntsAre ys ms) (hu : A.units + 64 < cLine)
    (h : Q (.bool (decide (ns = ms))) s) : wpAny (model prog w) A (compareOp .Eq (.ref a) (.ref b)) Q E s := by
  obtain ⟨oa, ha1, ha2, na, ha3⟩ := ha
  obtain ⟨ob, hb1, hb2, nb, hb3⟩ := hb
  have sh : ∀ ks : List Int, SeqAt.shaped (.tuple (ks.map PyData.int)) = true := fun ks => by simp [SeqAt.shaped, PyData.canLay0, PyData.depth, ke_canLayAll0, ke_depthAll]
  refine eq_dataH (reads_tuple_at ha1 ha2 ha3 (readsAll_ints (by simpa using hi))) (reads_tuple_at hb1 hb2 hb3 (readsAll_ints (by simpa using hj))) (sh _) (sh _) hu ?_
  simp only [PyData.eqv]
  rw [ked_eqvAll]
  exact h
end

section
variable {prog : Program} {w : World} {A : Around} {E : Value → Shared → Prop} {s : Shared} {h₀ : Heap} {L : Addr} {m : Str → Option Value} {news : List (Addr × Obj)}

theorem adjust_last2 (n : Nat) : Builtin.Slice.sliceAdjust (some (-2 : Int)) none 1 (n : Int) = (((n - 2 : Nat) : Int), (n : Int)) := by
  unfold Builtin.Slice.sliceAdjust
  have h1 : ¬ ((1 : Int) < 0) := by omega
  have h2 : (-2 : Int) < 0 := by omega
  simp only [h1, h2, if_false, if_true]
  congr 1
  omega
theorem places_last2 (n : Nat) : Builtin.Slice.slicePlaces ((n - 2 : Nat) : Int) (n : Int) 1 = n - (n - 2) := by
  unfold Builtin.Slice.slicePlaces
  have h1 : (1 : Int) > 0 := by omega
  simp only [h1, if_true, Int.ediv_one]
  split <;> omega
theorem sliceApplied_last2 {sl : Addr} {n : Nat} {u : Tok} {Q : Int × Int × Nat → Shared → Prop} (hs : s.heap.IsSliceOf sl (.int (-2) u) .none .none) (h : Q (((n - 2 : Nat) : Int), 1, n - (n - 2)) s) :
    wpAny (model prog w) A (Builtin.Slice.sliceApplied (.ref sl) (pure (n : Int))) Q E s := by
  obtain ⟨os, hos, hcs, hds⟩ := id hs
  unfold Builtin.Slice.sliceApplied Builtin.Slice.sliceFields
  refine wpAny_bind (wpAny_bind (wpAny_field hos hds (x := .int (-2) u) rfl (wpAny_bind (wpAny_field hos hds (x := .none) rfl (wpAny_bind (wpAny_field hos hds (x := .none) rfl (wpAny_pure ?_)))))))
  refine wpAny_bind (slicePart_none ?_)
  show wpAny _ _ (if ((1 : Int) == 0) = true then _ else _) _ _ s
  rw [if_neg (by decide)]
  refine wpAny_bind (slicePart_int (wpAny_bind (slicePart_none (wpAny_bind (wpAny_pure ?_)))))
  show wpAny _ _ (match Builtin.Slice.sliceAdjust (some (-2 : Int)) none 1 (n : Int) with | (lo, hi) => pure (lo, (1 : Int), Builtin.Slice.slicePlaces lo hi 1)) _ _ s
  rw [adjust_last2 n]
  show wpAny _ _ (pure (((n - 2 : Nat) : Int), (1 : Int), Builtin.Slice.slicePlaces ((n - 2 : Nat) : Int) (n : Int) 1)) _ _ s
  rw [places_last2 n]
  exact wpAny_pure h

theorem getItem_last2 {t sl : Addr} {items : Array Value} {u : Tok} {Q : Value → Shared → Prop} (ht : IsTup s.heap t items) (hs : s.heap.IsSliceOf sl (.int (-2) u) .none .none) (hsz : items.size ≤ sizeLine)
    (h1 : items.size ≤ 2 → Q (.ref t) s)
    (h2 : 2 < items.size → Q (.ref s.heap.objs.size) { s with heap := s.heap.push { cls := .type "tuple", data := .seq (items.toList.drop (items.size - 2)).toArray } }) :
    wpAny (model prog w) A (getItem (.ref t) (.ref sl)) Q E s := by
  obtain ⟨os, hos, hcs, hds⟩ := id hs
  have hTs : s.TypeIs (.ref sl) "slice" := ⟨os, hos, hcs⟩
  unfold getItem
  try with_reducible refine wpAny_holding ?_
  first | refine wpAny_bind (wpAny_pure ?_) | skip
  refine wpAny_bind (wpAny_sequenceKey ht.typeIs (by decide) ?_)
  refine wpAny_bind (wpAny_callSpecial?_slot (name := Str.ofString "__getitem__") ht.typeIs slot_tuple_getitem
    (wpAny_call_entry slot_tuple_getitem ht.typeIs entry_tuple_getitem ?_ (args_tuple_getitem _ _)))
  show wpAny _ _ (Builtin.Tuple.tupleItemsOf (.ref t) >>= _) _ _ s
  refine wpAny_bind (tupleItemsOf_ ht ?_)
  refine wpAny_bind (wpAny_typeOf hTs ?_)
  rw [if_pos (by decide)]
  refine wpAny_bind (sliceApplied_last2 hs ?_)
  by_cases hn : items.size ≤ 2
  · have hc : ((((items.size - 2 : Nat) : Int) == 0) && ((1 : Int) == 1) && ((items.size - (items.size - 2)) == items.size)) = true := by
      have : items.size - 2 = 0 := by omega
      rw [this]; simp
    show wpAny _ _ (if ((((items.size - 2 : Nat) : Int) == 0) && ((1 : Int) == 1) && ((items.size - (items.size - 2)) == items.size)) = true then _ else _) _ _ s
    rw [if_pos hc]
    have hone : wpAny (model prog w) A.in1 (Builtin.Tuple.tupleIsExact (.ref t)) (fun b s' => b = true ∧ s' = s) E s := by
      unfold Builtin.Tuple.tupleIsExact
      exact wpAny_bind (wpAny_typeOf ht.typeIs (wpAny_pure ⟨by decide, rfl⟩))
    refine wpAny_bind (wpAny_mono hone (fun b s' hb => ?_) fun _ _ e => e)
    obtain ⟨rfl, rfl⟩ := hb
    rw [if_pos rfl]
    exact wpAny_bind (wpAny_rule (wpAny_pure ⟨_, rfl, wpAny_pure (h1 hn)⟩))
  · have hno : ¬ (((((items.size - 2 : Nat) : Int) == 0) && ((1 : Int) == 1) && ((items.size - (items.size - 2)) == items.size)) = true) := by
      have : (((items.size - 2 : Nat) : Int) == 0) = false := by rw [beq_eq_false_iff_ne]; omega
      rw [this]; simp
    have hdrop : sizeOk (.seq (items.toList.drop (items.size - 2)).toArray) := by
      show (items.toList.drop (items.size - 2)).toArray.size ≤ sizeLine
      rw [List.size_toArray, List.length_drop, Array.length_toList]
      omega
    show wpAny _ _ (if ((((items.size - 2 : Nat) : Int) == 0) && ((1 : Int) == 1) && ((items.size - (items.size - 2)) == items.size)) = true then _ else _) _ _ s
    rw [if_neg hno, pick_from items (items.size - 2) (by omega)]
    have h2 := h2 (by omega)
    first
    | exact wpAny_bind (m := Builtin.Tuple.tupleExact _) (wpAny_newObj_type (wpAny_pure ⟨_, rfl, wpAny_pure h2⟩) hdrop)
    | exact wpAny_bind (m := Builtin.Tuple.tupleExact _) (wpAny_newObj_type (wpAny_bind (wpAny_pure (wpAny_pure ⟨_, rfl, wpAny_pure h2⟩))) hdrop)
    | exact wpAny_bind (wpAny_bind (m := Builtin.Tuple.tupleExact _) (wpAny_newObj_type (wpAny_pure (wpAny_pure ⟨_, rfl, wpAny_pure h2⟩)) hdrop))
    | exact wpAny_bind (wpAny_bind (m := Builtin.Tuple.tupleExact _) (wpAny_newObj_type (wpAny_pure ⟨_, rfl, wpAny_pure h2⟩) hdrop))

theorem slice_last2 {value slice : Expr} {t : Addr} {items : Array Value} {u : Tok} {Q : Value → Shared → Prop}
    (F : Fr h₀ L s.heap m) (N : News h₀ L s.heap news) (ht : IsTup s.heap t items) (hsz : items.size ≤ sizeLine)
    (h1 : items.size ≤ 2 → ∀ h', Fr h₀ L h' m → News h₀ L h' news → Grown s.heap h' → Q (.ref t) { s with heap := h' })
    (h2 : 2 < items.size → ∀ h' b, Fr h₀ L h' m → News h₀ L h' ((b, { cls := .type "tuple", data := .seq (items.toList.drop (items.size - 2)).toArray }) :: news) → Grown s.heap h' → Q (.ref b) { s with heap := h' })
    (hs : subscripted slice false (.ref t) (.ref s.heap.objs.size) = operate [.ref s.heap.objs.size, .ref t] (getItem (.ref t) (.ref s.heap.objs.size)) := by with_unfolding_all rfl)
    (hg : ∀ r, letTemporaryGo value (.ref t) r = pure () := by intro _; with_unfolding_all rfl) :
    wpAny (model prog w) A (subscriptTail value slice (.ref t) (.ref s.heap.objs.size)) Q E { s with heap := s.heap.push { cls := .type "slice", data := .fields #[.int (-2) u, .none, .none] } } := by
  have up : Grown s.heap (s.heap.push { cls := .type "slice", data := .fields #[.int (-2) u, .none, .none] }) := fun _ _ e => Heap.get?_push_of_some _ e
  have ht' : IsTup (s.heap.push { cls := .type "slice", data := .fields #[.int (-2) u, .none, .none] }) t items := ht.keeps up
  refine subscriptTail_ops (s := { s with heap := s.heap.push { cls := .type "slice", data := .fields #[.int (-2) u, .none, .none] } }) ht'.typeIs slot_tuple_getitem.lookup
    (getItem_last2 ht' (Heap.IsSliceOf.new ..) hsz (fun hn => h1 hn _ (F.push _) (N.grown up) up) (fun hn => ?_)) hs hg
  have N1 := News.push (F.push { cls := .type "slice", data := .fields #[.int (-2) u, .none, .none] }) (N.grown up) { cls := .type "tuple", data := .seq (items.toList.drop (items.size - 2)).toArray }
  exact h2 hn _ _ ((F.push _).push _) N1 (up.trans fun _ _ e => Heap.get?_push_of_some _ e)
end

theorem wrongAt_some {ps : List (Int × Int)} : ∀ {b : Int} {k at_ : Nat}, wrongAt b k ps = some at_ → k ≤ at_ ∧ at_ < k + ps.length := by
  induction ps with
  | nil => intro b k at_ h; cases h
  | cons p r ih =>
    intro b k at_ h
    unfold wrongAt at h
    split at h
    · have := ih h; simp only [List.length_cons]; omega
    · cases h; simp only [List.length_cons]; omega
def prevR (b : Int) (ps : List (Int × Int)) (i : Nat) : Int := if i = 0 then b else (ps.getD (i - 1) (0, 0)).2
theorem wrongAt_iff {ps : List (Int × Int)} : ∀ {b : Int} {k at_ : Nat}, wrongAt b k ps = some at_ → ∀ i, k + i < at_ → prevR b ps i < (ps.getD i (0, 0)).1 ∧ (ps.getD i (0, 0)).1 ≤ (ps.getD i (0, 0)).2 := by
  induction ps with
  | nil => intro b k at_ h; cases h
  | cons p r ih =>
    intro b k at_ h i hi
    unfold wrongAt at h
    split at h
    · rename_i hb
      cases i with
      | zero => simpa [prevR] using hb
      | succ i =>
        have := ih h i (by omega)
        cases i with
        | zero => simpa [prevR] using this
        | succ i => simpa [prevR] using this
    · cases h; omega
theorem wrongAt_at {ps : List (Int × Int)} : ∀ {b : Int} {k at_ : Nat}, wrongAt b k ps = some at_ → ∀ i, k + i = at_ → ¬ (prevR b ps i < (ps.getD i (0, 0)).1 ∧ (ps.getD i (0, 0)).1 ≤ (ps.getD i (0, 0)).2) := by
  induction ps with
  | nil => intro b k at_ h; cases h
  | cons p r ih =>
    intro b k at_ h i hi
    have hs := wrongAt_some h
    unfold wrongAt at h
    split at h
    · rename_i hb
      have hs' := wrongAt_some h
      obtain ⟨j, rfl⟩ : ∃ j, i = j + 1 := ⟨i - 1, by omega⟩
      have := ih h j (by omega)
      cases j with
      | zero => simpa [prevR] using this
      | succ j => simpa [prevR] using this
    · rename_i hb
      cases h
      obtain rfl : i = 0 := by omega
      simpa [prevR] using hb
theorem beforeR_prev (ps : List (Int × Int)) (i : Nat) : beforeR ps i = prevR (-1) ps i := rfl

section
variable {prog : Program} {w : World} {A : Around} {E : Value → Shared → Prop} {s : Shared} {h₀ : Heap} {L : Addr} {m : Str → Option Value}
theorem seqI_m1 {a : Addr} {ns : List Int} {value slice : Expr} {u : Tok} {Q : Value → Shared → Prop} (F : Fr h₀ L s.heap m) (S : SeqI h₀ a ns) (h1 : 1 ≤ ns.length) (h : ∀ t, Q (.int (lastI ns 1) t) s)
    (hs : subscripted slice false (.ref a) (.int (-1) u) = operate [.ref a, .int (-1) u] (getItem (.ref a) (.int (-1) u)) := by with_unfolding_all rfl) (hg : ∀ r, letTemporaryGo value (.ref a) r = pure () := by intro _; with_unfolding_all rfl) :
    wpAny (model prog w) A (subscriptTail value slice (.ref a) (.int (-1) u)) Q E s := seqI_item (j := ns.length - 1) F S (by omega) (by omega) (by rw [if_pos (by decide)]; omega) h hs hg
theorem seqI_m2 {a : Addr} {ns : List Int} {value slice : Expr} {u : Tok} {Q : Value → Shared → Prop} (F : Fr h₀ L s.heap m) (S : SeqI h₀ a ns) (h1 : 2 ≤ ns.length) (h : ∀ t, Q (.int (lastI ns 2) t) s)
    (hs : subscripted slice false (.ref a) (.int (-2) u) = operate [.ref a, .int (-2) u] (getItem (.ref a) (.int (-2) u)) := by with_unfolding_all rfl) (hg : ∀ r, letTemporaryGo value (.ref a) r = pure () := by intro _; with_unfolding_all rfl) :
    wpAny (model prog w) A (subscriptTail value slice (.ref a) (.int (-2) u)) Q E s := seqI_item (j := ns.length - 2) F S (by omega) (by omega) (by rw [if_pos (by decide)]; omega) h hs hg
theorem seqI_z {a : Addr} {ns : List Int} {value slice : Expr} {u : Tok} {Q : Value → Shared → Prop} (F : Fr h₀ L s.heap m) (S : SeqI h₀ a ns) (h1 : 1 ≤ ns.length) (h : ∀ t, Q (.int (ns.getD 0 0) t) s)
    (hs : subscripted slice false (.ref a) (.int 0 u) = operate [.ref a, .int 0 u] (getItem (.ref a) (.int 0 u)) := by with_unfolding_all rfl) (hg : ∀ r, letTemporaryGo value (.ref a) r = pure () := by intro _; with_unfolding_all rfl) :
    wpAny (model prog w) A (subscriptTail value slice (.ref a) (.int 0 u)) Q E s := seqI_item (j := 0) F S (by omega) (by omega) (by rw [if_neg (by decide)]; rfl) h hs hg
end

def bareN (ns : List Int) : Int := if 1 < ns.length ∧ lastI ns 1 = 65039 then lastI ns 2 else lastI ns 1
def isReg (c : Int) : Bool := decide (127462 ≤ c ∧ c ≤ 127487)
def isMod (c : Int) : Bool := decide (127995 ≤ c ∧ c ≤ 127999)
def joinsN (W M J : List (Int × Int)) (ns : List Int) (c : Int) : Bool :=
  if ns.length = 0 then false else if widthR W M c = 0 then true
  else if isReg c then (isReg (lastI ns 1) && decide ((ns.filter isReg).length = 1))
  else if isMod c then holdsR J (bareN ns)
  else decide (lastI ns 1 = 8205) && holdsR J c && holdsR J (ns.getD 0 0)
def columnsN (W M J : List (Int × Int)) (ns : List Int) : Int :=
  if ns.length = 0 then 1 else if widthR W M (ns.getD 0 0) = 2 ∨ 1 < (ns.filter isReg).length then 2
  else if ns.any (· == 65039) && holdsR J (ns.getD 0 0) then 2
  else if ns.drop (ns.length - 2) = [65039, 8419] then 2 else 1
theorem isI_of {n k : Int} {t : Tok} {h : Heap} (e : n = k) : isI n (.int k t) h := ⟨t, by rw [e]⟩
end

section
section
variable {prog : Program} {w : World} {A : Around} {E : Value → Shared → Prop} {s : Shared} {h₀ : Heap} {L : Addr} {m : Str → Option Value} {env : Env}
def SeqSrc (prog : Program) (w : World) (A : Around) (h₀ : Heap) (L : Addr) (m : Str → Option Value) (env : Env) (ct elt : Expr) (x : Str) (scope : Scope) (cl : List (Str × Addr)) (Q : Value → Shared → Prop) (xv : Value) (s₁ : Shared) : Prop :=
  ∃ ax its news, xv = .ref ax ∧ A.handled = none ∧ Fr h₀ L s₁.heap m ∧ News h₀ L s₁.heap news ∧ SeqAt h₀ ax its ∧ its.size ≤ sizeLine ∧
      ∀ g (S : List (Addr × Obj) → Prop), (∀ nw, S nw) → LCt.CompRestT prog w A h₀ L m env ct elt x scope cl { s₁ with heap := g } S (fun i v => its[i]? = some v) (LCg.FinE h₀ L m { s₁ with heap := g } Q) its.size 0 [] news
theorem comp_seq {ct elt iter : Expr} {x : Str} {px : Pos} {scope : Scope} {cl : List (Str × Addr)} {pos : Pos} {Q : Value → Shared → Prop} (F₀ : Fr h₀ L s.heap m)
    (hclos : closureFor scope env = pure cl) (hcell : ∀ y ∈ scope.names, y.2 ≠ .cell) (hkind : scope.kind = .function)
    (hnames : ∀ y ∈ scope.names, y.2 = .local → scope.names.lookup y.1 = some .local) (hx : scope.names.lookup x = some .local)
    (h : wpAny (model prog w) A (eval iter env) (SeqSrc prog w A h₀ L m env ct elt x scope cl Q) E s)
    (hs : ∀ x, foldedSetIterable iter env x = pure x := by intro _; rfl) :
    wpAny (model prog w) A (eval (.ListComp elt [⟨.Name x px, iter, [ct], 0⟩] scope pos) env) Q E s := comp_seqT F₀ hclos hcell hkind hnames hx h hs

theorem SeqSrc.ints {ct : Expr} {x : Str} {px : Pos} {scope : Scope} {cl : List (Str × Addr)} {Q : Value → Shared → Prop} {a : Addr} {ns : List Int} {news : List (Addr × Obj)} (p : Int → Bool)
    (hh : A.handled = none) (F : Fr h₀ L s.heap m) (N : News h₀ L s.heap news) (S : SeqI h₀ a ns)
    (hlx : ∀ C, (compEnvC scope cl C env).kindOf x = some .local) (hkx : ∀ C, (compEnvC scope cl C env).scope.kind = .function) (hdx : (x == ("__debug__" : Str)) = false)
    (turn : ∀ k t I oI C oC D m₂ ys h tk (E' : Value → Shared → Prop), k ∈ ns → LCg.NsObj oC m₂ → m₂ x = some (.int k t) → Fr h₀ L h m → News h₀ L h ((I, oI) :: (C, oC) :: (D, LCg.lst ys) :: news) → LCg.Off3 I C D news → ((@Ne Nat I C) ∧ (@Ne Nat I D) ∧ (@Ne Nat C D)) →
      wpAny (model prog w) A (isTrue ct (compEnvC scope cl C env) (eval ct (compEnvC scope cl C env))) (TestEnd h₀ L m ((I, oI) :: (C, oC) :: (D, LCg.lst ys) :: news) { s with heap := h, toks := tk } (p k)) E' { s with heap := h, toks := tk })
    (fin : ∀ ys D h tk, IntsAre ys (ns.filter p) → (ns.filter p).length ≤ ns.length → Fr h₀ L h m → News h₀ L h ((D, LCg.lst ys) :: news) → LCg.Off1 D news → Q (.ref D) { s with heap := h, toks := tk }) :
    SeqSrc prog w A h₀ L m env ct (.Name x px) x scope cl Q (.ref a) s := by
  obtain ⟨vs, S, hi, hb⟩ := S
  have hl := hi.length
  refine ⟨a, vs.toArray, news, rfl, hh, F, N, S, by rw [List.size_toArray, sizeLine_eq]; omega, fun g T hT => ?_⟩
  refine rest_filter (ks := ns) p hT (by rw [List.size_toArray, hl]) (fun i v hi' hv => ?_) hlx hkx hdx ?_ ?_
  · have e : vs[i]? = some v := by simpa using hv
    rw [List.size_toArray, hl] at hi'
    obtain ⟨t, q⟩ := hi.get i ns[i] (by simp [hi'])
    rw [e] at q
    exact ⟨ns[i], t, by simp [hi'], Option.some.inj q⟩
  · intro k t I oI C oC D m₂ ys h tk E' hk hC hx F' N' off ne
    exact turn k t I oI C oC D m₂ ys h tk E' hk hC hx F' N' off ne
  · intro ys hy D h tk F' N' o1
    exact fin ys D h tk hy (List.length_filter_le ..) F' N' o1
end

theorem isReg_t {c : Int} (h : 127462 ≤ c ∧ c ≤ 127487) : isReg c = true := by simp [isReg, h]
theorem isReg_f {c : Int} (h : ¬ (127462 ≤ c ∧ c ≤ 127487)) : isReg c = false := by simpa [isReg] using h
theorem isMod_t {c : Int} (h : 127995 ≤ c ∧ c ≤ 127999) : isMod c = true := by simp [isMod, h]
theorem isMod_f {c : Int} (h : ¬ (127995 ≤ c ∧ c ≤ 127999)) : isMod c = false := by simpa [isMod] using h
section
variable {W M J : List (Int × Int)} {ns : List Int} {c : Int}
theorem joins_0 (h : (ns.length : Int) = 0) : joinsN W M J ns c = false := by rw [joinsN, if_pos (by omega)]
theorem joins_1 (h : (ns.length : Int) ≠ 0) (hw : widthR W M c = 0) : joinsN W M J ns c = true := by rw [joinsN, if_neg (by omega), if_pos hw]
theorem joins_2 (h : (ns.length : Int) ≠ 0) (hw : widthR W M c ≠ 0) (hc : 127462 ≤ c ∧ c ≤ 127487) (hl : ¬ (127462 ≤ lastI ns 1 ∧ lastI ns 1 ≤ 127487)) : joinsN W M J ns c = false := by
  rw [joinsN, if_neg (by omega), if_neg hw, if_pos (isReg_t hc), isReg_f hl]; rfl
theorem joins_3 (h : (ns.length : Int) ≠ 0) (hw : widthR W M c ≠ 0) (hc : 127462 ≤ c ∧ c ≤ 127487) (hl : 127462 ≤ lastI ns 1 ∧ lastI ns 1 ≤ 127487) : joinsN W M J ns c = (((ns.filter isReg).length : Int) == 1) := by
  rw [joinsN, if_neg (by omega), if_neg hw, if_pos (isReg_t hc), isReg_t hl, Bool.true_and, Bool.eq_iff_iff]; simp; omega
theorem joins_4 (h : (ns.length : Int) ≠ 0) (hw : widthR W M c ≠ 0) (hc : ¬ (127462 ≤ c ∧ c ≤ 127487)) (hm : 127995 ≤ c ∧ c ≤ 127999) : joinsN W M J ns c = holdsR J (bareN ns) := by
  rw [joinsN, if_neg (by omega), if_neg hw, if_neg (by rw [isReg_f hc]; decide), if_pos (isMod_t hm)]
theorem joins_5 (h : (ns.length : Int) ≠ 0) (hw : widthR W M c ≠ 0) (hc : ¬ (127462 ≤ c ∧ c ≤ 127487)) (hm : ¬ (127995 ≤ c ∧ c ≤ 127999)) : joinsN W M J ns c = (decide (lastI ns 1 = 8205) && holdsR J c && holdsR J (ns.getD 0 0)) := by
  rw [joinsN, if_neg (by omega), if_neg hw, if_neg (by rw [isReg_f hc]; decide), if_neg (by rw [isMod_f hm]; decide)]
theorem columns_0 (h : (ns.length : Int) = 0) : columnsN W M J ns = 1 := by rw [columnsN, if_pos (by omega)]
theorem columns_1 (h : (ns.length : Int) ≠ 0) (hw : widthR W M (ns.getD 0 0) = 2) : columnsN W M J ns = 2 := by rw [columnsN, if_neg (by omega), if_pos (.inl hw)]
theorem columns_2 (h : (ns.length : Int) ≠ 0) (hw : 1 < ((ns.filter isReg).length : Int)) : columnsN W M J ns = 2 := by rw [columnsN, if_neg (by omega), if_pos (.inr (by omega))]
theorem columns_3 (h : (ns.length : Int) ≠ 0) (hw : widthR W M (ns.getD 0 0) ≠ 2) (hr : ¬ 1 < ((ns.filter isReg).length : Int)) (hp : (ns.any fun x => x == 65039) = true) (hj : holdsR J (ns.getD 0 0) = true) : columnsN W M J ns = 2 := by
  rw [columnsN, if_neg (by omega), if_neg (by omega), if_pos (by rw [hp, hj]; rfl)]
theorem columns_4 (h : (ns.length : Int) ≠ 0) (hw : widthR W M (ns.getD 0 0) ≠ 2) (hr : ¬ 1 < ((ns.filter isReg).length : Int)) (hp : (ns.any fun x => x == 65039) = false ∨ holdsR J (ns.getD 0 0) = false) : columnsN W M J ns = if ns.drop (ns.length - 2) = [65039, 8419] then 2 else 1 := by
  rw [columnsN, if_neg (by omega), if_neg (by omega), if_neg (by rcases hp with e | e <;> rw [e] <;> simp)]
end
theorem slice_last2' {prog : Program} {w : World} {A : Around} {E : Value → Shared → Prop} {h₀ : Heap} {L : Addr} {m : Str → Option Value} {news : List (Addr × Obj)} {value slice : Expr} {t : Addr} {items : Array Value} {u : Tok} {Q : Value → Shared → Prop} {h : Heap} {gg dr tk os}
    (F : Fr h₀ L h m) (N : News h₀ L h news) (ht : IsTup h t items) (hsz : items.size ≤ sizeLine)
    (h1 : items.size ≤ 2 → ∀ h', Fr h₀ L h' m → News h₀ L h' news → Q (.ref t) ⟨h', gg, dr, tk, os⟩)
    (h2 : 2 < items.size → ∀ h' b, Fr h₀ L h' m → News h₀ L h' ((b, { cls := .type "tuple", data := .seq (items.toList.drop (items.size - 2)).toArray }) :: news) → Q (.ref b) ⟨h', gg, dr, tk, os⟩)
    (hs : subscripted slice false (.ref t) (.ref h.objs.size) = operate [.ref h.objs.size, .ref t] (getItem (.ref t) (.ref h.objs.size)))
    (hg : ∀ r, letTemporaryGo value (.ref t) r = pure ()) :
    wpAny (model prog w) A (subscriptTail value slice (.ref t) (.ref h.objs.size)) Q E ⟨h.push { cls := .type "slice", data := .fields #[.int (-2) u, .none, .none] }, gg, dr, tk, os⟩ :=
  slice_last2 (s := ⟨h, gg, dr, tk, os⟩) F N ht hsz (fun hn h' F' N' _ => h1 hn h' F' N') (fun hn h' b F' N' _ => h2 hn h' b F' N') hs hg
end

section
def DictAt (e : Addr) (dd : Option Addr) (s : Shared) : Prop := ∃ o vs, s.heap.get? e = some o ∧ o.dict = dd ∧ o.data = .fields vs
def Mild (f : Obj → Obj) : Prop := ∀ o, (f o).dict = o.dict ∧ ∀ vs, o.data = .fields vs → ∃ ws, (f o).data = .fields ws

theorem freed_of_fields {o : Obj} {vs : Array Value} (h : o.data = .fields vs) : o.isFreed = false := Obj.isFreed_of_fields h

theorem DictAt.push {e : Addr} {dd : Option Addr} {s : Shared} (x : DictAt e dd s) (o : Obj) : DictAt e dd { s with heap := s.heap.push o } :=
  let ⟨o', vs, a, b, c⟩ := x; ⟨o', vs, Heap.get?_push_of_some _ a, b, c⟩
theorem DictAt.update {e a : Addr} {dd : Option Addr} {s : Shared} {f : Obj → Obj} (x : DictAt e dd s) (hf : Mild f) : DictAt e dd { s with heap := s.heap.update a f } := by
  obtain ⟨o', vs, h1, h2, h3⟩ := x
  by_cases ha : a = e
  · subst ha
    obtain ⟨ws, hw⟩ := (hf o').2 vs h3
    exact ⟨f o', ws, Heap.get?_update_self f h1 (freed_of_fields hw), (hf o').1.trans h2, hw⟩
  · exact ⟨o', vs, (Heap.get?_update_other _ _ ha).trans h1, h2, h3⟩

section
variable (e : Addr) (dd : Option Addr)
structure Tame {α : Type} (m : Sem α) : Prop where
  out : ∀ (M : Model) (Γ : PySem.Ctx) (Q : α → Pos → Shared → Prop) (E : Value → Pos → Shared → Prop) (p : Pos) (s : Shared), Sem.wp M Γ m Q E p s → DictAt e dd s →
    Sem.wp M Γ m (fun a p' s' => Q a p' s' ∧ DictAt e dd s') (fun x p' s' => E x p' s' ∧ DictAt e dd s') p s
end
section
variable {e : Addr} {dd : Option Addr} {α β : Type}
theorem Tame.pure (a : α) : Tame e dd (Pure.pure a : Sem α) := ⟨fun M Γ Q E p s h d => ⟨h, d⟩⟩
theorem Tame.bind {m : Sem α} {f : α → Sem β} (hm : Tame e dd m) (hf : ∀ a, Tame e dd (f a)) : Tame e dd (m >>= f) := by
  refine ⟨fun M Γ Q E p s h d => ?_⟩
  rw [Sem.wp_bind'] at h ⊢
  exact Sem.wp_mono M Γ m (fun a p' s' hq => (hf a).out M Γ Q E p' s' hq.1 hq.2) (fun _ _ _ x => x) p s (hm.out M Γ _ E p s h d)
theorem Tame.unsupported (what : String) : Tame e dd (unsupported what : Sem α) := ⟨fun M Γ Q E p s h d => by
  have : Sem.wp M Γ (Sem.unsupported what : Sem α) Q E p s := h
  rw [Sem.wp_unsupported] at this; exact this.elim⟩
theorem Tame.loadP (a : Addr) (part : Option Value) : Tame e dd (loadPart a part) := by
  refine ⟨fun M Γ Q E p s h d => ?_⟩
  have h' : Sem.wp M Γ (.load a part .pure) Q E p s := h
  show Sem.wp M Γ (.load a part .pure) _ _ p s
  rw [Sem.wp_load] at h' ⊢
  obtain ⟨o, ho, hq⟩ := h'
  exact ⟨o, ho, hq, d⟩
theorem Tame.load (a : Addr) : Tame e dd (PySem.load a) := Tame.loadP a none
theorem Tame.updateP (a : Addr) (part : Option Value) {f : Obj → Obj} (hf : Mild f) : Tame e dd (updatePart a part f) := by
  refine ⟨fun M Γ Q E p s h d => ?_⟩
  have h' : Sem.wp M Γ (.update a part f .pure) Q E p s := h
  show Sem.wp M Γ (.update a part f .pure) _ _ p s
  rw [Sem.wp_update] at h' ⊢
  exact ⟨h'.1, h'.2, d.update hf⟩
theorem Tame.update (a : Addr) {f : Obj → Obj} (hf : Mild f) : Tame e dd (PySem.update a f) := Tame.updateP a none hf
theorem Tame.alloc (o : Obj) : Tame e dd (PySem.alloc o) := by
  refine ⟨fun M Γ Q E p s h d => ?_⟩
  have h' : Sem.wp M Γ (.alloc o .pure) Q E p s := h
  show Sem.wp M Γ (.alloc o .pure) _ _ p s
  rw [Sem.wp_alloc] at h' ⊢
  exact ⟨h', d.push o⟩
theorem Tame.stack : Tame e dd PySem.stack := by
  refine ⟨fun M Γ Q E p s h d => ?_⟩
  have h' : Sem.wp M Γ (.stack .pure) Q E p s := h
  show Sem.wp M Γ (.stack .pure) _ _ p s
  rw [Sem.wp_stack] at h' ⊢
  exact ⟨h', d⟩
theorem Tame.ite {c : Prop} [Decidable c] {a b : Sem α} (ha : Tame e dd a) (hb : Tame e dd b) : Tame e dd (if c then a else b) := by split <;> assumption
theorem Tame.map {m : Sem α} {f : α → β} (hm : Tame e dd m) : Tame e dd (f <$> m) := Tame.bind hm fun a => Tame.pure (f a)

theorem mild_fields (f : Array Value → Array Value) : Mild (Obj.mapFields f) := by
  intro o
  obtain ⟨c, d, dt, sl⟩ := o
  cases dt <;> refine ⟨rfl, fun vs h => ?_⟩ <;> first | exact ⟨_, rfl⟩ | cases h
end

section
variable {e : Addr} {dd : Option Addr}
theorem tame_fieldsOf (v : Value) : Tame e dd (fieldsOf v) := by
  unfold fieldsOf
  repeat (first | exact Tame.pure _ | exact Tame.unsupported _ | exact Tame.loadP _ _ | exact Tame.load _ | exact Tame.stack | exact Tame.alloc _ | exact Tame.update _ (mild_fields _) | assumption | (intro _) | refine Tame.bind ?_ ?_ | refine Tame.ite ?_ ?_ | refine Tame.map ?_ | split)
theorem tame_field (v : Value) (i : Nat) : Tame e dd (field v i) := by
  have h := tame_fieldsOf (e := e) (dd := dd) v
  unfold field
  repeat (first | exact Tame.pure _ | exact Tame.unsupported _ | exact Tame.loadP _ _ | exact Tame.load _ | exact Tame.stack | exact Tame.alloc _ | exact Tame.update _ (mild_fields _) | assumption | (intro _) | refine Tame.bind ?_ ?_ | refine Tame.ite ?_ ?_ | refine Tame.map ?_ | split)
theorem tame_setField (v x : Value) (i : Nat) : Tame e dd (setField v i x) := by
  unfold setField updateField
  repeat (first | exact Tame.pure _ | exact Tame.unsupported _ | exact Tame.loadP _ _ | exact Tame.load _ | exact Tame.stack | exact Tame.alloc _ | exact Tame.update _ (mild_fields _) | assumption | (intro _) | refine Tame.bind ?_ ?_ | refine Tame.ite ?_ ?_ | refine Tame.map ?_ | split)
theorem tame_newEntry (a b c d f : Value) (l : List Value) : Tame e dd (EntryCells.newEntry a b c d f l) := by
  unfold EntryCells.newEntry newFields
  generalize ([a, b, c, d, f] ++ if l.isEmpty = true then List.replicate 6 Value.none else l).toArray = vs
  show Tame e dd (if vs.size > sizeLine + 2 then (unsupported "record:memory" >>= fun _ => newObjAsIs (.type "traceback") (.fields vs) none) else newObjAsIs (.type "traceback") (.fields vs) none)
  have h : Tame e dd (newObjAsIs (.type "traceback") (.fields vs) none) := Tame.bind (Tame.alloc _) fun a => Tame.pure _
  exact Tame.ite (Tame.bind (Tame.unsupported _) fun _ => h) h
theorem tame_entryPlaceOf (a : Addr) (b : Bool) : Tame e dd (entryPlaceOf a b) := by
  unfold entryPlaceOf
  repeat (first | exact Tame.pure _ | exact Tame.unsupported _ | exact Tame.loadP _ _ | exact Tame.load _ | exact Tame.stack | exact Tame.alloc _ | exact Tame.update _ (mild_fields _) | assumption | (intro _) | refine Tame.bind ?_ ?_ | refine Tame.ite ?_ ?_ | refine Tame.map ?_ | split)
theorem tame_behind (env : Env) (l : List Env) : Tame e dd (behindIsImport env l) := by
  unfold behindIsImport
  have h := fun v i => tame_field (e := e) (dd := dd) v i
  repeat (first | exact h _ _ | exact Tame.pure _ | exact Tame.unsupported _ | exact Tame.loadP _ _ | exact Tame.load _ | exact Tame.stack | exact Tame.alloc _ | exact Tame.update _ (mild_fields _) | assumption | (intro _) | refine Tame.bind ?_ ?_ | refine Tame.ite ?_ ?_ | refine Tame.map ?_ | split)
theorem tame_under : Tame e dd underTheClaimsCaller := by
  unfold underTheClaimsCaller
  repeat (first | exact Tame.pure _ | exact Tame.unsupported _ | exact Tame.loadP _ _ | exact Tame.load _ | exact Tame.stack | exact Tame.alloc _ | exact Tame.update _ (mild_fields _) | assumption | (intro _) | refine Tame.bind ?_ ?_ | refine Tame.ite ?_ ?_ | refine Tame.map ?_ | split)
theorem tame_keptBack (env : Env) (b : Bool) (l : List Env) : Tame e dd (keptBack env b l) := by
  have h := tame_under (e := e) (dd := dd)
  unfold keptBack
  repeat (first | exact Tame.pure _ | exact Tame.unsupported _ | exact Tame.loadP _ _ | exact Tame.load _ | exact Tame.stack | exact Tame.alloc _ | exact Tame.update _ (mild_fields _) | assumption | (intro _) | refine Tame.bind ?_ ?_ | refine Tame.ite ?_ ?_ | refine Tame.map ?_ | split)
theorem mild_ready (f : Obj → Array (Option Value)) : Mild (fun o => { o with slots := f o }) := fun o => ⟨rfl, fun vs h => ⟨vs, h⟩⟩
theorem tame_ready (e : Addr) (dd : Option Addr) : ∀ l : List Env, Tame e dd (readyFrames l)
  | [] => Tame.pure ()
  | env :: outer => by
    unfold readyFrames
    have h1 := tame_behind (e := e) (dd := dd) env outer
    have h2 := fun b => tame_keptBack (e := e) (dd := dd) env b outer
    have h3 := tame_ready e dd outer
    repeat (first | exact h1 | exact h2 _ | exact h3 | exact Tame.update _ (mild_ready _) | exact Tame.pure _ | exact Tame.unsupported _ | exact Tame.loadP _ _ | exact Tame.load _ | exact Tame.stack | exact Tame.alloc _ | exact Tame.update _ (mild_fields _) | assumption | (intro _) | refine Tame.bind ?_ ?_ | refine Tame.ite ?_ ?_ | refine Tame.map ?_ | split)
theorem tame_frameEnvs : Tame e dd frameEnvs := by
  unfold frameEnvs
  repeat (first | exact Tame.pure _ | exact Tame.unsupported _ | exact Tame.loadP _ _ | exact Tame.load _ | exact Tame.stack | exact Tame.alloc _ | exact Tame.update _ (mild_fields _) | assumption | (intro _) | refine Tame.bind ?_ ?_ | refine Tame.ite ?_ ?_ | refine Tame.map ?_ | split)
theorem tame_frameObject (l : List Env) : Tame e dd (frameObject l) := by
  unfold frameObject
  have h := fun l => tame_ready e dd l
  repeat (first | exact h _ | exact Tame.pure _ | exact Tame.unsupported _ | exact Tame.loadP _ _ | exact Tame.load _ | exact Tame.stack | exact Tame.alloc _ | exact Tame.update _ (mild_fields _) | assumption | (intro _) | refine Tame.bind ?_ ?_ | refine Tame.ite ?_ ?_ | refine Tame.map ?_ | split)
theorem tame_frameOf (env : Env) : Tame e dd (PySem.frameOf env) := by
  unfold PySem.frameOf
  have h := fun l => tame_frameObject (e := e) (dd := dd) l
  have h2 := tame_frameEnvs (e := e) (dd := dd)
  repeat (first | exact h _ | exact Tame.pure _ | exact Tame.unsupported _ | exact Tame.loadP _ _ | exact Tame.load _ | exact Tame.stack | exact Tame.alloc _ | exact Tame.update _ (mild_fields _) | assumption | (intro _) | refine Tame.bind ?_ ?_ | refine Tame.ite ?_ ?_ | refine Tame.map ?_ | split)
theorem tame_noteFrame (v : Value) (env : Env) : Tame e dd (noteFrame v env) := by
  unfold noteFrame
  have h1 := fun v i => tame_field (e := e) (dd := dd) v i
  have h2 := fun v i x => tame_setField (e := e) (dd := dd) v x i
  have h3 := fun a b c d f l => tame_newEntry (e := e) (dd := dd) a b c d f l
  have h4 := tame_frameOf (e := e) (dd := dd) env
  have h5 := fun a b => tame_entryPlaceOf (e := e) (dd := dd) a b
  repeat (first | exact h1 _ _ | exact h2 _ _ _ | exact h3 _ _ _ _ _ _ | exact h5 _ _ | exact Tame.pure _ | exact Tame.unsupported _ | exact Tame.loadP _ _ | exact Tame.load _ | exact Tame.stack | exact Tame.alloc _ | exact Tame.update _ (mild_fields _) | assumption | (intro _) | refine Tame.bind ?_ ?_ | refine Tame.ite ?_ ?_ | refine Tame.map ?_ | split)
theorem tame_setFlight (v : Value) (f : Option Addr) : Tame e dd (setFlight v f) := by
  unfold setFlight
  have h1 := fun v i => tame_field (e := e) (dd := dd) v i
  have h2 := fun v i x => tame_setField (e := e) (dd := dd) v x i
  repeat (first | exact h1 _ _ | exact h2 _ _ _ | exact Tame.pure _ | exact Tame.unsupported _ | exact Tame.loadP _ _ | exact Tame.load _ | exact Tame.stack | exact Tame.alloc _ | exact Tame.update _ (mild_fields _) | assumption | (intro _) | refine Tame.bind ?_ ?_ | refine Tame.ite ?_ ?_ | refine Tame.map ?_ | split)
theorem tame_leaving (env : Env) (v : Value) : Tame e dd (leaving env v) := by
  unfold leaving
  exact Tame.bind (tame_noteFrame v env) fun _ => tame_setFlight v none
end

theorem wp_tame {α : Type} {e : Addr} {dd : Option Addr} {M : Model} {A : Around} {t : Sem α} {Q : α → Shared → Prop} {E : Value → Shared → Prop} {s : Shared} (ht : Tame e dd t) (hd : DictAt e dd s) (h : wpAny M A t Q E s) :
    wpAny M A t (fun a s' => Q a s' ∧ DictAt e dd s') (fun x s' => E x s' ∧ DictAt e dd s') s := fun Γ p hΓ => ht.out M Γ _ _ p s (h Γ p hΓ) hd
end

section
abbrev frs (l : List Env) : List Addr := l.filterMap (·.frame)
abbrev hid (h : Heap) (l : List Env) : Heap := hideAll h (frs l)
def DictH (e dx : Addr) (h : Heap) : Prop := ∃ o vs, h.get? e = some o ∧ o.dict = some dx ∧ o.data = .fields vs
def RaisedD (G : Heap) (l : List Env) (e dx : Addr) (cls : Value) (od : Obj) (h : Heap) : Prop :=
  ∃ a0 B, G.StaysIn B ∧ B.get? dx = some od ∧ G.get? dx = none ∧ Heap.FlyingW B l e cls a0 h ∧ DictH e dx h

theorem Below.hid_stays {A : Around} {base g : Heap} {outer : List Env} (K : Below A base outer g) : base.StaysIn (hid g outer) := fun b o q => hideAll_get _ (K.stays b o q) fun hm => by
  rw [(K.frames.mem hm).1] at q; cases q
theorem hid_some {h : Heap} {l : List Env} {b : Addr} {o : Obj} (e : (hid h l).get? b = some o) : h.get? b = some o ∧ b ∉ frs l := by
  refine ⟨of_hideAll _ e, fun hm => ?_⟩
  rw [hideAll_none _ hm] at e; cases e
theorem hid_none {h : Heap} {l : List Env} {b : Addr} (e : h.get? b = none) : (hid h l).get? b = none := by
  cases q : (hid h l).get? b with
  | none => rfl
  | some o => have := of_hideAll _ q; rw [e] at this; cases this

section
variable {M : Model} {A : Around} {E : Value → Shared → Prop} {s' : Shared} {base g g₂ : Heap} {outer : List Env} {L a e dx : Addr} {m : Str → Option Value} {name : Str} {scope : Scope} {cd : Value} {Q : Unit → Shared → Prop}
theorem leave_raiseD {oe od : Obj} {vs : Array Value} {a0 : Value} (K : Below A base outer g) (F : Fr g L s'.heap m) (hen : g.get? e = none) (hLe : e ≠ L) (he : s'.heap.get? e = some oe) (hd : oe.data = .fields vs) (h1 : vs[1]? = some .none) (h0 : vs[0]? = some a0)
    (hdx : oe.dict = some dx) (hod : s'.heap.get? dx = some od) (hne : dx ≠ e) (hdg : g.get? dx = none) (hdL : dx ≠ L)
    (hQ : ∀ h', RaisedD (hid g outer) outer e dx oe.cls od h' → g.UpToSlots h' → Q () { s' with heap := h' }) (hk : scope.kind = .function := by rfl) :
    wpAny M (A.deeper (envOf name scope L a cd)) (leaving (envOf name scope L a cd) (.ref e)) Q E s' := by
  have K' := K.push (name := name) (a := a) (cd := cd) F hk
  have hgL : g.get? L = none := by
    cases q : g.get? L with
    | none => rfl
    | some o => have h1 := ltS q; have h2 := F.above; exact absurd h1 (Nat.not_lt.mpr h2)
  have hin : ∀ env ∈ (envOf name scope L a cd :: outer), ∀ b, env.frame = some b → b ∈ e :: frs (envOf name scope L a cd :: outer) := fun env he b hb => List.mem_cons_of_mem _ (List.mem_filterMap.mpr ⟨env, he, hb⟩)
  have offG : ∀ b o, (hid g outer).get? b = some o → (hideAll s'.heap (e :: frs (envOf name scope L a cd :: outer))).get? b = some o := fun b o q => by
    obtain ⟨q1, q2⟩ := hid_some q
    refine hideAll_get _ (F.keep b o q1) fun hm => ?_
    rcases List.mem_cons.mp hm with rfl | hm
    · rw [hen] at q1; cases q1
    · obtain ⟨env, hm1, hm2⟩ := List.mem_filterMap.mp hm
      rcases List.mem_cons.mp hm1 with rfl | hm1
      · obtain rfl : L = b := Option.some.inj hm2
        rw [hgL] at q1; cases q1
      · exact q2 (List.mem_filterMap.mpr ⟨env, hm1, hm2⟩)
  have hB : (hideAll s'.heap (e :: frs (envOf name scope L a cd :: outer))).get? dx = some od := hideAll_get _ hod fun hm => by
    rcases List.mem_cons.mp hm with q | hm
    · exact hne q
    · obtain ⟨env, hm1, hm2⟩ := List.mem_filterMap.mp hm
      rcases List.mem_cons.mp hm1 with rfl | hm1
      · exact hdL (Option.some.inj hm2).symm
      · obtain ⟨_, o, ho, _⟩ := K.frames.mem (List.mem_filterMap.mpr ⟨env, hm1, hm2⟩)
        rw [hdg] at ho; cases ho
  have step := wpAny_leaving_firstW (M := M) (A := A.deeper (envOf name scope L a cd)) (E := E) (s := s') (a0 := a0) (Q := fun _ s'' => ∃ h', s'' = { s' with heap := h' } ∧ Heap.LeftW (hideAll s'.heap (e :: frs (envOf name scope L a cd :: outer))) (envOf name scope L a cd :: outer) e oe.cls a0 s'.heap h')
    K'.stack (funFrames_hide K'.frames hin) rfl he (fun b o q => of_hideAll _ q) (hideAll_none _ List.mem_cons_self) hd h1 h0 fun h' hL => ⟨h', rfl, hL⟩
  refine wpAny_mono (wp_tame (tame_leaving _ _) ⟨oe, vs, he, hdx, hd⟩ step) (fun _ s'' hq => ?_) fun _ _ x => x.1
  obtain ⟨⟨h', rfl, k1, ⟨_, _, k2⟩, k3, k4⟩, hD⟩ := hq
  exact hQ h' ⟨a0, _, offG, hB, hid_none hdg, ⟨k1, hideAll_none _ List.mem_cons_self, k2, k3⟩, hD⟩ ((Heap.UpToSlots.of_keeps F.keep).trans k4)

theorem leave_onD {cls : Value} {od : Obj} (K : Below A base outer g) (F : Fr g L g₂ m) (R : RaisedD (hid g₂ (envOf name scope L a cd :: outer)) (envOf name scope L a cd :: outer) e dx cls od s'.heap) (hsm : g₂.UpToSlots s'.heap) (hdg : g.get? dx = none)
    (hQ : ∀ h', RaisedD (hid g outer) outer e dx cls od h' → g.UpToSlots h' → Q () { s' with heap := h' }) :
    wpAny M (A.deeper (envOf name scope L a cd)) (leaving (envOf name scope L a cd) (.ref e)) Q E s' := by
  obtain ⟨a0, B, hB, hod, hdn, hfl, oe, vs, hD⟩ := R
  have hgL : g.get? L = none := by
    cases q : g.get? L with
    | none => rfl
    | some o => have h1 := ltS q; have h2 := F.above; exact absurd h1 (Nat.not_lt.mpr h2)
  have step := wpAny_leaves_onW (M := M) (A := A.deeper (envOf name scope L a cd)) (E := E) (Q := fun _ s'' => ∃ h', s'' = { s' with heap := h' } ∧ Heap.FlyingW B outer e cls a0 h' ∧ s'.heap.UpToSlots h') (Around.frames_deeper K.stack) rfl hfl fun h' x1 x2 => ⟨h', rfl, x1, x2⟩
  refine wpAny_mono (wp_tame (tame_leaving _ _) ⟨oe, vs, hD⟩ step) (fun _ s'' hq => ?_) fun _ _ x => x.1
  obtain ⟨⟨h', rfl, x1, x2⟩, hD'⟩ := hq
  refine hQ h' ⟨a0, B, fun b o q => ?_, hod, hid_none hdg, x1, hD'⟩ ((Heap.UpToSlots.of_keeps F.keep).trans (hsm.trans x2))
  obtain ⟨q1, q2⟩ := hid_some q
  refine hB b o (hideAll_get _ (F.keep b o q1) fun hm => ?_)
  obtain ⟨env, hm1, hm2⟩ := List.mem_filterMap.mp hm
  rcases List.mem_cons.mp hm1 with rfl | hm1
  · obtain rfl : L = b := Option.some.inj hm2
    rw [hgL] at q1; cases q1
  · exact q2 (List.mem_filterMap.mpr ⟨env, hm1, hm2⟩)
end

def ExcCls (h : Heap) (C : Addr) (bm : List Value) : Prop := ∃ nm q N bs hdct sn sub ab col dd k0 k1 k2 k3 k5 newId, h.get? C = some (excClassObj nm q C N bs bm hdct sn sub ab col dd k0 k1 k2 k3 k5 newId)

section
variable {prog : Program} {w : World} {A₀ : Around} {E : Value → Shared → Prop} {s' : Shared} {base g h : Heap} {outer : List Env} {L a e dx : Addr} {m : Str → Option Value} {name : Str} {scope : Scope} {cd : Value}
  {n : Str} {b₀ : Stmt} {suite : List Stmt} {pos np : Pos} {rest : List ExceptHandler} {Q : Flow → Shared → Prop} {KF : Frag} {C : Addr} {bm : List Value}
  {p : Program} {loose : List Str} {mean : ExcName → Option Value} {mg mb : Str → Option Value} {x : Str} {od : Obj}

theorem caught_D (K : Below A₀ base outer g) (F : Fr g L h m) (hsm : h.UpToSlots s'.heap) (R : RaisedD (hid h (envOf name scope L a cd :: outer)) (envOf name scope L a cd :: outer) e dx (.ref C) od s'.heap)
    (X : KF.In base) (T : TopRead p loose mg mb base) (ex : nsIn KF mainGlobals x = some (some (.ref C))) (hC : ∀ h', KF.In h' → ExcCls h' C bm) (hbase : bm.contains (.type "BaseException") = true)
    (k : ∀ h' tk oe ws, Fr (hid g outer) L h' (fun y => if y = n then some (.ref e) else m y) → News (hid g outer) L h' [(e, oe), (dx, od)] → oe.cls = .ref C → oe.dict = some dx → oe.data = .fields ws → g.UpToSlots h' →
      wpAny (model prog w) ((A₀.deeper (envOf name scope L a cd)).mark (some (.ref e))) (execs (b₀ :: suite) (envOf name scope L a cd))
        (fun f s₄ => wpAny (model prog w) (A₀.deeper (envOf name scope L a cd)) (do bindName (envOf name scope L a cd) n .none; unbindBehindTheSuite (envOf name scope L a cd) n pos) (fun _ s₅ => Q f s₅) E s₄)
        (AsSuiteRaised (model prog w) ((A₀.deeper (envOf name scope L a cd)).mark (some (.ref e))) (envOf name scope L a cd) n pos (notedBy (model prog w) ((A₀.deeper (envOf name scope L a cd)).mark (some (.ref e))) (envOf name scope L a cd) (cameBackBy (model prog w) (A₀.deeper (envOf name scope L a cd)) (envOf name scope L a cd) E)))
        { s' with heap := h', toks := tk })
    (hdict : ∃ es n, od.data = .dict es n) (hdn : g.get? dx = none) (hdL : dx ≠ L)
    (hk : scope.kind = .function := by rfl) (hlo : (envOf name scope L a cd).kindOf n = some .local := by rfl) (hx : (envOf name scope L a cd).kindOf x = some .globalImplicit := by rfl) (hd : (x == ("__debug__" : Str)) = false := by decide) :
    wpAny (model prog w) (A₀.deeper (envOf name scope L a cd)) (noteFrame (.ref e) (envOf name scope L a cd))
      (fun _ s₂ => wpAny (model prog w) (A₀.deeper (envOf name scope L a cd)) (setFlight (.ref e) none) (fun _ s₃ =>
        wpAny (model prog w) (A₀.deeper (envOf name scope L a cd)) (handleBy (.ref e) (envOf name scope L a cd) (.ExceptHandler (some (.Name x np)) (some n) (b₀ :: suite) pos :: rest)) Q E s₃) E s₂) E s' := by
  obtain ⟨a0, B, hB, hod, hdn', hfl, oe, vs, hD⟩ := R
  have hgL : g.get? L = none := by
    cases q : g.get? L with
    | none => rfl
    | some o => have h1 := ltS q; have h2 := F.above; exact absurd h1 (Nat.not_lt.mpr h2)
  have hGL : (hid g outer).get? L = none := hid_none hgL
  have hGB : (hid g outer).StaysIn B := fun b o q => by
    obtain ⟨q1, q2⟩ := hid_some q
    refine hB b o (hideAll_get _ (F.keep b o q1) fun hm => ?_)
    obtain ⟨env, hm1, hm2⟩ := List.mem_filterMap.mp hm
    rcases List.mem_cons.mp hm1 with rfl | hm1
    · obtain rfl : L = b := Option.some.inj hm2
      rw [hgL] at q1; cases q1
    · exact q2 (List.mem_filterMap.mpr ⟨env, hm1, hm2⟩)
  have XG : KF.In (hid g outer) := X.keeps (Below.hid_stays K)
  have TG : TopRead p loose mg mb (hid g outer) := T.keeps (Below.hid_stays K)
  have FG : ∀ h', (hid g outer).StaysIn h' → h.UpToSlots h' → Fr (hid g outer) L h' m := fun h' k1 k2 => ⟨k2.ns F.ns, k1, Nat.le_trans (Nat.le_of_eq (hideAll_size _ _)) F.above⟩
  refine wpAny_mono (wp_tame (tame_noteFrame _ _) ⟨oe, vs, hD⟩ (wpAny_looks_onW (M := model prog w) (A := A₀.deeper (envOf name scope L a cd)) (E := E) (Q := fun _ s'' => ∃ h', s'' = { s' with heap := h' } ∧ Heap.HeldW B (envOf name scope L a cd :: outer) e (.ref C) a0 L h' ∧ s'.heap.UpToSlots h') (Around.frames_deeper K.stack) rfl hfl
    fun h₄ x1 x2 => ⟨h₄, rfl, x1, x2⟩)) (fun _ s₂ hq => ?_) fun _ _ x => x.1
  obtain ⟨⟨h₄, rfl, hheld₄, hsm₄⟩, hD₄⟩ := hq
  refine wpAny_mono (wp_tame (tame_setFlight _ _) hD₄ (wpAny_landsW (M := model prog w) (A := A₀.deeper (envOf name scope L a cd)) (E := E) (s := { s' with heap := h₄ }) (Q := fun _ s'' => ∃ h', s'' = { s' with heap := h' } ∧ Heap.FlyingW B (envOf name scope L a cd :: outer) e (.ref C) a0 h' ∧ h₄.UpToSlots h') hheld₄
    fun h₅ x1 x2 => ⟨h₅, rfl, x1, x2⟩)) (fun _ s₃ hq => ?_) fun _ _ x => x.1
  obtain ⟨⟨h₅, rfl, hheld, hsm₅'⟩, hD₅⟩ := hq
  have hsm₅ := hsm.trans (hsm₄.trans hsm₅')
  have hheld' := flyingW_base hGB hheld
  have F₅ := FG h₅ hheld'.1 hsm₅
  obtain ⟨ob, hob, hobc⟩ := hheld'.there
  refine wpAny_handleBy_cons (codeAny_handlers_test (name_K F₅ XG TG ex ?_ hk hx hd)) (by intro q; cases q)
  obtain ⟨nm, q, N, bs, hdct, sn, sub, ab, col, dd, k0, k1, k2, k3, k5, newId, hCo⟩ := hC h₅ (XG.keeps F₅.keep)
  refine wpAny_excMatches_sub_self hCo hob hobc hbase (codeAny_handlers_suite_as ?_)
  refine wpAny_mono (wp_tame (tame_setFlight _ _) hD₅ (lands_againW (M := model prog w) (E := fun _ _ => False) (s := { s' with heap := h₅ }) (Q := fun _ s'' => ∃ h', s'' = { s' with heap := h' } ∧ Heap.FlyingW B (envOf name scope L a cd :: outer) e (.ref C) a0 h' ∧ h₅.UpToSlots h') hheld
    fun h₆ x1 x2 => ⟨h₆, rfl, x1, x2⟩)) (fun _ s₃ hq => ?_) fun _ _ x => x.1.elim
  obtain ⟨⟨h₆, rfl, hfl₆, hsm₆⟩, oe₆, vs₆, hoe₆, hdict₆, hdata₆⟩ := hq
  have hfl₆' := flyingW_base hGB hfl₆
  have F₆ := FG h₆ hfl₆'.1 (hsm₅.trans hsm₆)
  obtain ⟨oe', hoe', hoec'⟩ := hfl₆'.there
  obtain rfl : oe₆ = oe' := Option.some.inj (hoe₆.symm.trans hoe')
  obtain ⟨es, n', hes⟩ := hdict
  have hdx₆ : h₆.get? dx = some od := hfl₆.1 _ _ hod
  have N₆ : News (hid g outer) L h₆ [(e, oe₆), (dx, od)] := by
    intro q hq
    rcases List.mem_cons.mp hq with rfl | hq
    · refine ⟨hoe₆, fun z => ?_, hfl₆'.2.1⟩
      obtain ⟨oL, esL, epL, hL, hdL, _⟩ := F₆.ns
      have z' : e = L := z
      rw [z', hL] at hoe₆
      injection hoe₆ with hoe₆
      subst hoe₆
      rw [hdL] at hdata₆; cases hdata₆
    · rw [List.mem_singleton.mp hq]
      exact ⟨hdx₆, hdL, hid_none hdn⟩
  have hp : ((envOf name scope L a cd).scope.kind == .class || ((envOf name scope L a cd).scope.kind == .module && (envOf name scope L a cd).locals != (envOf name scope L a cd).globals)) = false := by
    show (scope.kind == .class || (scope.kind == .module && L != mainGlobals)) = false
    rw [hk]; rfl
  refine wpAny_storeName_local hlo F₆.ns (fun h₇ hn hs => ?_) hp
  have sm₆ : g.UpToSlots h₆ := (Heap.UpToSlots.of_keeps F.keep).trans (hsm₅.trans hsm₆)
  refine k h₇ _ oe₆ vs₆ (F₆.set hn hs) (N₆.set hs) hoec' hdict₆ hdata₆ fun b o hb hnf => ?_
  obtain ⟨sl, q⟩ := sm₆ b o hb hnf
  exact ⟨sl, hs.extBut b _ (fun z => by have z' : b = L := z; rw [z', hgL] at hb; cases hb) q⟩
end
end

section
open Sem (wp)
open Builtin Builtin.ObjectAttr
set_option maxHeartbeats 1000000

section
variable {prog : Program} {w : World} {A : Around} {E : Value → Shared → Prop} {h : Heap} {g : Array GenState} {d : Drawn} {t : Nat} {os : OsState}
variable {nm q : Str} {C N D : Addr} {bs bmB : List Value} {sn : List Str} {sub : List Value} {ab : Bool} {col : Option Bool} {dd : Option Addr} {k0 k1 k2 k3 k5 : Option Value} {B newId initId : String}
variable {c0 : Value} {ddD : Option Addr} {cdD : ClassData} {slD : Array (Option Value)} {mN mD : Str → Option Value}

theorem lookup2 {M : Model} {name : Str} {y : Option Value} {Q : Option Value → Shared → Prop}
    (hC : h.get? C = some (excClassObj nm q C N bs (.ref D :: bmB) true sn sub ab col dd k0 k1 k2 k3 k5 newId)) (hn : h.Ns N mN)
    (hD : h.get? D = some { cls := c0, dict := ddD, data := .cls cdD, slots := slD }) (hnD : h.Ns cdD.ns mD)
    (hbm : mroOf (.type B) = pure bmB) (hB : typeLookup (.type B) name = pure y) {z : Option Value} (hz : (match mN name with | some v => some v | none => match mD name with | some v => some v | none => y) = z)
    (hq : Q z ⟨h, g, d, t, os⟩) : wpAny M A (typeLookup (.ref C) name) Q E ⟨h, g, d, t, os⟩ := by
  subst hz
  have hrest : lookupAlong bmB name = pure y := by rw [typeLookup_eq, hbm] at hB; exact hB
  rw [typeLookup_eq]
  refine wpAny_bind (wpAny_mroOf_exc hC ?_)
  rw [lookupAlong_cons]
  refine wpAny_bind (wpAny_classOwn_exc hC hn ?_)
  cases hv : mN name with
  | some v => rw [hv] at hq; exact wpAny_pure hq
  | none =>
    rw [hv] at hq
    show wpAny _ _ (lookupAlong (.ref D :: bmB) name) _ _ _
    rw [lookupAlong_cons]
    refine wpAny_bind (wpAny_classOwn_cls hD hnD ?_)
    cases hv' : mD name with
    | some v => rw [hv'] at hq; exact wpAny_pure hq
    | none => rw [hv'] at hq; rw [hrest]; exact wpAny_pure hq

theorem check_new2 {M : Model} (F : ExcBaseFacts B newId initId bmB) {rest : List Value} {Q : Unit → Shared → Prop} (hC : h.get? C = some (excClassObj nm q C N bs (.ref D :: bmB) true sn sub ab col dd k0 k1 k2 k3 k5 newId))
    (hq : Q () ⟨h, g, d, t, os⟩) : wpAny M A (checkBuiltinCall newId ⟨.ref C :: rest, []⟩) Q E ⟨h, g, d, t, os⟩ := by
  have hcont : (Value.ref C :: Value.ref D :: bmB).contains (.type B) = true := by rw [List.contains_cons, List.contains_cons, F.hasB, Bool.or_true, Bool.or_true]
  have hstar := F.noStar
  simp only [checkBuiltinCall, F.newKind, F.newSplit, F.newRow]
  repeat (first | refine wpAny_loadPart_at hC ?_ | (refine wpAny_isSubtype_exc hC ?_; rw [hcont]) | refine wpAny_staticBase_exc hC ?_ | refine wpAny_madeBy_exc hC ?_ | simp only [bne_self_eq_false, Bool.false_eq_true, if_false] | wp_step)
  exact hq

theorem exc_new2 {R : Result → Shared → Prop} (F : ExcBaseFacts B newId initId bmB) {rest : List Value} (hC : h.get? C = some (excClassObj nm q C N bs (.ref D :: bmB) true sn sub ab col dd k0 k1 k2 k3 k5 newId))
    (hq : R (.ok (.ret (.ref (h.objs.size + 1)))) ⟨(h.push { cls := .type "tuple", data := .seq rest.toArray }).push
      { cls := .ref C, data := .fields #[.ref h.objs.size, .none, .none, .none, .bool false, .none] }, g, d, t, os⟩) (hrest : rest.length ≤ sizeLine := by size_fits) :
    codeAny (model prog w) A (.builtin newId ⟨.ref C :: rest, []⟩) R ⟨h, g, d, t, os⟩ := by
  have hends := F.ends
  have hcB : (Value.ref C :: Value.ref D :: bmB).contains (.type B) = true := by rw [List.contains_cons, List.contains_cons, F.hasB, Bool.or_true, Bool.or_true]
  have hcA : (Value.ref C :: Value.ref D :: bmB).contains (.type "AttributeError") = false := by rw [List.contains_cons, List.contains_cons, F.noAttr]; rfl
  have hcN : (Value.ref C :: Value.ref D :: bmB).contains (.type "NameError") = false := by rw [List.contains_cons, List.contains_cons, F.noName]; rfl
  refine codeAny_builtinAt F.entry ?_
  unfold Builtin.«BaseException.__new__»
  refine PySem.wpAt_bind ?_
  show PySem.wpAt _ _ _ (stack >>= _) _ _ _
  refine PySem.wpAt_bind (PySem.wpAt_stack fun p below => PySem.wpAt_of_wpAny ?_)
  wp_walk
  refine PySem.wpAt_of_wpAny ?_
  rw [F.owner]
  repeat (first | with_reducible refine wpAny_madeHere_exc F.canon hC ?_ | with_reducible refine wpAny_loadPart_at hC ?_ | (with_reducible refine wpAny_isSubtype_exc hC ?_; first | rw [hcB] | rw [hcA] | rw [hcN]) | wp_step)
  show R _ _
  rw [Heap.size_push]
  exact hq

theorem type_call2 (F : ExcBaseFacts B newId initId bmB) {rest : List Value} {fI : Addr} {oI : Obj} {Q : Fin → Shared → Prop}
    (hC : h.get? C = some (excClassObj nm q C N bs (.ref D :: bmB) true sn sub ab col dd k0 k1 k2 k3 k5 newId)) (hn : h.Ns N mN)
    (hD : h.get? D = some { cls := c0, dict := ddD, data := .cls cdD, slots := slD }) (hnD : h.Ns cdD.ns mD)
    (h0 : mN "__init__" = none) (hi : mD "__init__" = some (.ref fI)) (hfI : h.get? fI = some oI) (hfc : oI.cls = .type "function")
    (hq : ∀ h' e, Heap.MadeExcOf h h' e (.ref C) rest → wpAny (model prog w) A (call (.ref fI) (.ref e :: rest)) (fun r s' => r = .none ∧ Q (.done (.ret (.ref e))) s') E ⟨h', g, d, t, os⟩) (hrest : rest.length ≤ sizeLine := by size_fits) :
    wpAny (model prog w) A (Builtin.«type.__call__» ⟨.ref C :: rest, []⟩) Q E ⟨h, g, d, t, os⟩ := by
  repeat (first | with_reducible refine wpAny_loadPart_at hC ?_ | with_reducible refine wpAny_madeBy_exc hC ?_ | wp_step)
  refine codeAny_call_builtin_code (Code.quiet_builtin _ F.quiet) (check_new2 F hC ?_)
  refine exc_new2 F hC ?_ hrest
  show wpAny _ _ _ _ _ _
  have kk : ∀ b o, h.get? b = some o → ((h.push { cls := .type "tuple", data := .seq rest.toArray }).push { cls := .ref C, data := .fields #[.ref h.objs.size, .none, .none, .none, .bool false, .none] }).get? b = some o :=
    fun b o e => Heap.get?_push_of_some _ (Heap.get?_push_of_some _ e)
  have hC₁ := kk _ _ hC
  have hD₁ := kk _ _ hD
  have hn₁ := hn.keeps kk
  have hnD₁ := hnD.keeps kk
  have hget : ((h.push { cls := .type "tuple", data := .seq rest.toArray }).push
      { cls := .ref C, data := .fields #[.ref h.objs.size, .none, .none, .none, .bool false, .none] }).get? (h.objs.size + 1) = some
      { cls := .ref C, data := .fields #[.ref h.objs.size, .none, .none, .none, .bool false, .none] } := by heap_get
  have hcC : (Value.ref C :: Value.ref D :: bmB).contains (.ref C) = true := by simp
  unfold isInstance
  repeat (first | with_reducible refine wpAny_loadPart_at hget ?_ | (with_reducible refine wpAny_isSubtype_exc hC₁ ?_; rw [hcC]) | wp_step)
  show wpAny _ _ (typeLookup (.ref C) _) _ _ _
  refine lookup2 hC₁ hn₁ hD₁ hnD₁ F.mroIs F.init.lookup (z := some (.ref fI)) (by rw [h0, hi]) ?_
  refine wpAny_holding (wpAny_bind ?_)
  unfold bindSpecial
  refine wpAny_bind (wpAny_typeOf (T := "function") ⟨_, kk _ _ hfI, hfc⟩ ?_)
  rw [if_pos (by decide)]
  refine wpAny_pure (wpAny_bind (wpAny_mono (hq _ (h.objs.size + 1) ⟨kk, Heap.get?_none_of_le (Nat.le_succ _), h.objs.size, hget, Heap.get?_none_of_le (Nat.le_refl _), ?_⟩) (fun r s' hr => ?_) fun _ _ x => x))
  · exact Heap.get?_push_of_some _ (Heap.get?_push_at rfl rfl)
  obtain ⟨rfl, hQ⟩ := hr
  wp_walk
  exact hQ

theorem call_exc2 (F : ExcBaseFacts B newId initId bmB) {rest : List Value} {fI : Addr} {oI : Obj} {Q : Value → Shared → Prop}
    (hC : h.get? C = some (excClassObj nm q C N bs (.ref D :: bmB) true sn sub ab col dd k0 k1 k2 k3 k5 newId)) (hn : h.Ns N mN)
    (hD : h.get? D = some { cls := c0, dict := ddD, data := .cls cdD, slots := slD }) (hnD : h.Ns cdD.ns mD)
    (h0 : mN "__init__" = none) (hi : mD "__init__" = some (.ref fI)) (hfI : h.get? fI = some oI) (hfc : oI.cls = .type "function")
    (hq : ∀ h' e, Heap.MadeExcOf h h' e (.ref C) rest → wpAny (model prog w) (A.under (.builtin "type.__call__" ⟨.ref C :: rest, []⟩)) (call (.ref fI) (.ref e :: rest)) (fun r s' => r = .none ∧ Q (.ref e) s') E ⟨h', g, d, t, os⟩) (hrest : rest.length ≤ sizeLine := by size_fits) :
    wpAny (model prog w) A (call (.ref C) rest) Q E ⟨h, g, d, t, os⟩ := by
  have f1 := tc_lookup
  have f2 := tc_bind (.ref C)
  have hT : (⟨h, g, d, t, os⟩ : Shared).TypeIs (.ref C) "type" := ⟨_, hC, rfl⟩
  refine wpAny_call (codeAny_of_tree ?_)
  show wpAny _ _ (callAny (.ref C) _) _ _ _
  repeat (any_goals (first | assumption | with_reducible refine wpAny_loadPart_at hC ?_ | wp_step))
  refine ⟨rfl, ?_⟩
  refine codeAny_call_builtin_at (Code.quiet_builtin _ (by decide +kernel)) entry_typeCall (wpAny_check_type_call_sub hC (type_call2 (hrest := hrest) F hC hn hD hnD h0 hi hfI hfc fun h' e hm => ?_))
  exact hq h' e hm
end
end

section
open Sem (wp)
open Builtin Builtin.ObjectAttr
set_option maxHeartbeats 1000000
section
variable {prog : Program} {w : World} {A : Around} {E : Value → Shared → Prop} {h : Heap} {g : Array GenState} {d : Drawn} {t : Nat} {os : OsState}
variable {nm q : Str} {C N D : Addr} {bs bmB : List Value} {sn : List Str} {sub : List Value} {ab : Bool} {col : Option Bool} {dd : Option Addr} {k0 k1 k2 k3 k5 : Option Value} {B newId sa owner : String}
variable {c0 : Value} {ddD : Option Addr} {cdD : ClassData} {slD : Array (Option Value)} {mN mD : Str → Option Value}
variable {x : Addr} {vs : Array Value} {sl : Array (Option Value)} {name : Str} {v : Value}

def TellsO (od : Obj) (name : Str) (v : Value) : Prop := ∃ es ep, od.data = .dict es ep ∧ StrKeys es ∧ nsFind es name = some v

theorem check_sa2 {M : Model} {o : Obj} {nameV : Value} {Q : Unit → Shared → Prop} (SF : StoreFacts B bmB sa owner)
    (hC : h.get? C = some (excClassObj nm q C N bs (.ref D :: bmB) true sn sub ab col dd k0 k1 k2 k3 k5 newId)) (hx : h.get? x = some o) (hc : o.cls = .ref C) (hq : Q () ⟨h, g, d, t, os⟩) :
    wpAny M A (checkBuiltinCall sa ⟨[.ref x, nameV, v], []⟩) Q E ⟨h, g, d, t, os⟩ := by
  have hcB : (Value.ref C :: Value.ref D :: bmB).contains (.type owner) = true := by rw [List.contains_cons, List.contains_cons, SF.hasOwner, Bool.or_true, Bool.or_true]
  have ha := SF.args (.ref x) nameV v
  simp only [checkBuiltinCall, SF.kind, SF.split]
  refine wpAny_bind ?_
  · unfold isInstance
    repeat (first | (with_reducible refine wpAny_loadPart_at hx ?_; rw [hc]) | (with_reducible refine wpAny_isSubtype_exc hC ?_; rw [hcB]) | wp_step)
    cases hsig : Manifest.signature? sa with
    | none => exact wpAny_pure hq
    | some sig =>
      simp only [argsOk, hsig] at ha
      have h2 : Bind.checkArgs sa sig ⟨[.ref x, nameV, v], []⟩ = pure () := ha
      show wpAny M A (Bind.checkArgs sa sig ⟨[.ref x, nameV, v], []⟩) Q E _
      rw [h2]; exact wpAny_pure hq

theorem store2_entry {tk : Tok} {o : Obj} {Q : Fin → Shared → Prop} (SF : StoreFacts B bmB sa owner)
    (hC : h.get? C = some (excClassObj nm q C N bs (.ref D :: bmB) true sn sub ab col dd k0 k1 k2 k3 k5 newId)) (hn : h.Ns N mN)
    (hD : h.get? D = some { cls := c0, dict := ddD, data := .cls cdD, slots := slD }) (hnD : h.Ns cdD.ns mD)
    (hna : mN name = none) (hnb : mD name = none) (hB : typeLookup (.type B) name = pure none) (hx : h.get? x = some o) (hc : o.cls = .ref C) (hdn : o.dict = none) (hdat : o.data = .fields vs)
    (hq : ∀ h' dx od tk', h'.get? x = some { o with dict := some dx } → h'.get? dx = some od → TellsO od name v → h.get? dx = none → dx ≠ x → (∀ b o, b ≠ x → h.get? b = some o → h'.get? b = some o) →
      Q (.done (.ret .none)) ⟨h', g, d, tk', os⟩) :
    wpAny (model prog w) A (Builtin.«object.__setattr__» ⟨[.ref x, .str name tk, v], []⟩) Q E ⟨h, g, d, t, os⟩ := by
  have hpass := SF.passes (.ref x)
  have hnone : (match mN name with | some v => some v | none => match mD name with | some v => some v | none => none) = (none : Option Value) := by rw [hna, hnb]
  unfold Builtin.«object.__setattr__»
  repeat (first | rw [refuse_eq] | (rw [refuseLoop_ref, refuseLoop_ref, hpass]) | (with_reducible refine wpAny_loadPart_at hx ?_; rw [hc]) | with_reducible refine wpAny_mroOf_exc hC ?_ | with_reducible refine lookup2 hC hn hD hnD SF.mro hB hnone ?_ | wp_step)
  rw [hdn, if_neg (by simp [typeHasDict])]
  split
  · rename_i hcd
    cases hcd
  split
  · rename_i c hcd
    rw [hdat] at hcd; cases hcd
  have hx₁ : (h.push { cls := .type "dict", data := .dict #[] }).get? x = some o := Heap.get?_push_of_some _ hx
  have hxs : x ≠ h.objs.size := Nat.ne_of_lt (Heap.lt_size hx)
  refine wpAny_bind (wpAny_alloc' ?_)
  refine wpAny_bind (wpAny_update' hx₁ ?_)
  refine wpAny_pure ?_
  have hgd : ((h.push { cls := .type "dict", data := .dict #[] }).update x fun o => { cls := o.cls, dict := some h.objs.size, data := o.data, slots := o.slots }).get? h.objs.size
      = some { cls := .type "dict", data := .dict #[] } :=
    (Heap.get?_update_ne _ _ _ _ hxs.symm).trans (Heap.get?_push_at rfl rfl)
  have hnd : ((h.push { cls := .type "dict", data := .dict #[] }).update x fun o => { cls := o.cls, dict := some h.objs.size, data := o.data, slots := o.slots }).Ns h.objs.size (fun _ => none) :=
    ⟨_, #[], _, hgd, rfl, fun e he => absurd he (by simp), fun _ => rfl⟩
  show wpAny _ _ (storeInDict h.objs.size (.str name tk) name v) _ _ _
  unfold storeInDict newKeyGuard
  refine wpAny_bind (wpAny_pure (wpAny_bind (wpAny_nsSet1 (Heap.Ns1.of_empty hnd) fun h' hn' hs => ?_)))
  obtain ⟨oD, esD, epD, hoD, hdD, hcD⟩ := hn'.count (Within.cons name v Within.nil)
  refine wpAny_bind (wpAny_lookBehind hoD (by rw [hdD]; exact pastItsLine_dict (Nat.le_trans hcD (by rw [List.length_cons, List.length_nil, sizeLine_eq]; omega))) ?_)
  wp_walk
  have hx' : h'.get? x = some { cls := o.cls, dict := some h.objs.size, data := o.data, slots := o.slots } := by
    refine (hs.2 x hxs).trans (Heap.get?_update_self _ hx₁ ?_)
    exact Obj.isFreed_of_fields (vs := vs) hdat
  obtain ⟨o', es, ep, e1, e2, e3, eu, e4⟩ := hn'
  refine hq h' h.objs.size o' _ hx' e1 ⟨es, ep, e2, e3, by rw [e4 name]; exact if_pos rfl⟩ (Heap.get?_none_of_le (Nat.le_refl _)) hxs.symm (fun b ob hbx hb => ?_)
  exact (hs.2 b (Nat.ne_of_lt (Heap.lt_size hb))).trans ((Heap.get?_update_ne _ _ _ _ hbx).trans (Heap.get?_push_of_some _ hb))

theorem store2_attr {o : Obj} {Q : Unit → Shared → Prop} (SF : StoreFacts B bmB sa owner)
    (hC : h.get? C = some (excClassObj nm q C N bs (.ref D :: bmB) true sn sub ab col dd k0 k1 k2 k3 k5 newId)) (hn : h.Ns N mN)
    (hD : h.get? D = some { cls := c0, dict := ddD, data := .cls cdD, slots := slD }) (hnD : h.Ns cdD.ns mD) (hs1 : mN "__setattr__" = none) (hs2 : mD "__setattr__" = none)
    (hna : mN name = none) (hnb : mD name = none) (hB : typeLookup (.type B) name = pure none) (hx : h.get? x = some o) (hc : o.cls = .ref C) (hdn : o.dict = none) (hdat : o.data = .fields vs)
    (hq : ∀ h' dx od tk', h'.get? x = some { o with dict := some dx } → h'.get? dx = some od → TellsO od name v → h.get? dx = none → dx ≠ x → (∀ b o, b ≠ x → h.get? b = some o → h'.get? b = some o) →
      Q () ⟨h', g, d, tk', os⟩) :
    wpAny (model prog w) A (setAttr (.ref x) name v) Q E ⟨h, g, d, t, os⟩ := by
  have f3 := SF.slot.bind (.ref x)
  have hsa : (match mN "__setattr__" with | some v => some v | none => match mD "__setattr__" with | some v => some v | none => some (.builtin sa)) = (some (.builtin sa) : Option Value) := by rw [hs1, hs2]
  unfold setAttr callSpecial? specialOf
  repeat (any_goals (first | assumption | (with_reducible refine wpAny_loadPart_at hx ?_; rw [hc]) | (with_reducible refine lookup2 hC hn hD hnD SF.mro SF.slot.lookup hsa ?_) | wp_step))
  refine codeAny_call_builtin SF.slot.plain SF.entry (check_sa2 SF hC hx hc (store2_entry SF hC hn hD hnD hna hnb hB hx hc hdn hdat fun h' dx od tk' a1 a2 a3 a4 a5 a6 => ?_))
  repeat (any_goals (first | assumption | wp_step))
  exact hq h' dx od tk' a1 a2 a3 a4 a5 a6

theorem load2_entry {tk : Tok} {o : Obj} {dx : Addr} {mA : Str → Option Value} {Q : Fin → Shared → Prop} (hbm : mroOf (.type B) = pure bmB)
    (hC : h.get? C = some (excClassObj nm q C N bs (.ref D :: bmB) true sn sub ab col dd k0 k1 k2 k3 k5 newId)) (hn : h.Ns N mN)
    (hD : h.get? D = some { cls := c0, dict := ddD, data := .cls cdD, slots := slD }) (hnD : h.Ns cdD.ns mD)
    (hna : mN name = none) (hnb : mD name = none) (hB : typeLookup (.type B) name = pure none) (hx : h.get? x = some o) (hc : o.cls = .ref C) (hdn : o.dict = some dx) (hdat : o.data = .fields vs)
    (hns : h.Ns dx mA) (hv : mA name = some v) (hh : handedOut v = pure v) (hq : Q (.done (.ret v)) ⟨h, g, d, t, os⟩) :
    wpAny (model prog w) A (Builtin.«object.__getattribute__» ⟨[.ref x, .str name tk], []⟩) Q E ⟨h, g, d, t, os⟩ := by
  have hnone : (match mN name with | some v => some v | none => match mD name with | some v => some v | none => none) = (none : Option Value) := by rw [hna, hnb]
  unfold Builtin.«object.__getattribute__»
  repeat (first | (with_reducible refine wpAny_loadPart_at hx ?_; rw [hc]) | (with_reducible refine lookup2 hC hn hD hnD hbm hB hnone ?_) | wp_step)
  split
  · rename_i c hcd
    rw [hdat] at hcd; cases hcd
  unfold instanceDict
  repeat (first | (with_reducible refine wpAny_loadPart_at hx ?_; rw [hc]) | with_reducible refine wpAny_loadPart_at hC ?_ | wp_step)
  rw [hdn]
  repeat (first | (with_reducible refine wpAny_nsGet hns ?_; rw [hv]) | wp_step)
  exact hq

theorem check_ga2 {M : Model} {o : Obj} {nameV : Value} {Q : Unit → Shared → Prop} (hbase : bmB.contains (.type "BaseException") = true) (hC : h.get? C = some (excClassObj nm q C N bs (.ref D :: bmB) true sn sub ab col dd k0 k1 k2 k3 k5 newId))
    (hx : h.get? x = some o) (hc : o.cls = .ref C) (hq : Q () ⟨h, g, d, t, os⟩) : wpAny M A (checkBuiltinCall "BaseException.__getattribute__" ⟨[.ref x, nameV], []⟩) Q E ⟨h, g, d, t, os⟩ := by
  have hk : builtinKind "BaseException.__getattribute__" = some .slot := by decide +kernel
  have hsplit : splitId "BaseException.__getattribute__" = some ("BaseException", "__getattribute__") := by decide +kernel
  have hcB : (Value.ref C :: Value.ref D :: bmB).contains (.type "BaseException") = true := by rw [List.contains_cons, List.contains_cons, hbase, Bool.or_true, Bool.or_true]
  have ha := PySem.F.args_bexc_ga (.ref x) nameV
  simp only [checkBuiltinCall, hk, hsplit]
  refine wpAny_bind ?_
  · unfold isInstance
    repeat (first | (with_reducible refine wpAny_loadPart_at hx ?_; rw [hc]) | (with_reducible refine wpAny_isSubtype_exc hC ?_; rw [hcB]) | wp_step)
    exact hq

theorem load2_attr {expr : Bool} {o : Obj} {dx : Addr} {mA : Str → Option Value} {Q : Value → Shared → Prop} (FB : ExcAttrBase B bmB)
    (hC : h.get? C = some (excClassObj nm q C N bs (.ref D :: bmB) true sn sub ab col dd k0 k1 k2 k3 k5 newId)) (hn : h.Ns N mN)
    (hD : h.get? D = some { cls := c0, dict := ddD, data := .cls cdD, slots := slD }) (hnD : h.Ns cdD.ns mD) (hg1 : mN "__getattribute__" = none) (hg2 : mD "__getattribute__" = none) (hg3 : mN "__getattr__" = none) (hg4 : mD "__getattr__" = none)
    (hna : mN name = none) (hnb : mD name = none) (hB : typeLookup (.type B) name = pure none) (hx : h.get? x = some o) (hc : o.cls = .ref C) (hdn : o.dict = some dx) (hdat : o.data = .fields vs)
    (hns : h.Ns dx mA) (hv : mA name = some v) (hh : handedOut v = pure v) (hq : Q v ⟨h, g, d, t + 1, os⟩) :
    wpAny (model prog w) A (getAttr (.ref x) name expr) Q E ⟨h, g, d, t, os⟩ := by
  have f3 := FB.ga.bind (.ref x)
  have hx0 : (expr && onTheHeap (Value.builtin "BaseException.__getattribute__")) = false := by cases expr <;> rfl
  have hx2 : (Value.builtin "BaseException.__getattribute__" == Value.builtin "object.__getattribute__") = false := by decide +kernel
  have hx1 : (onTheHeap (Value.ref C) && Value.builtin "BaseException.__getattribute__" == Value.builtin "object.__getattribute__") = false := by rw [hx2]; rfl
  have hsa : (match mN "__getattribute__" with | some v => some v | none => match mD "__getattribute__" with | some v => some v | none => some (.builtin "BaseException.__getattribute__")) = (some (.builtin "BaseException.__getattribute__") : Option Value) := by rw [hg1, hg2]
  have hsb : (match mN "__getattr__" with | some v => some v | none => match mD "__getattr__" with | some v => some v | none => none) = (none : Option Value) := by rw [hg3, hg4]
  unfold getAttr getAttrBy
  repeat (any_goals (first | assumption | (with_reducible refine wpAny_loadPart_at hx ?_; rw [hc]) | (with_reducible refine lookup2 hC hn hD hnD FB.mro FB.ga.lookup hsa ?_) | (with_reducible refine lookup2 hC hn hD hnD FB.mro FB.noGetattr hsb ?_) | wp_step))
  refine codeAny_call_builtin FB.ga.plain PySem.F.entry_bexc_ga (check_ga2 FB.hasBase hC hx hc (load2_entry FB.mro hC hn hD hnD hna hnb hB hx hc hdn hdat hns hv hh ?_))
  repeat (any_goals (first | assumption | wp_step))
end

section
variable {M : Model} {A : Around} {E : Value → Shared → Prop} {env : Env}
variable {nm q : Str} {C N D : Addr} {bs bmB : List Value} {sn : List Str} {sub : List Value} {ab : Bool} {col : Option Bool} {dd : Option Addr} {k0 k1 k2 k3 k5 : Option Value} {newId : String}
end
end

section
set_option maxHeartbeats 1000000

theorem nsMap_some_of_in {K : Frag} {h : Heap} {N : Addr} {x : Str} {v : Value} (X : K.In h) (e : nsOkIn K N = true) (q : nsIn K N x = some (some v)) : h.nsMap N x = some v := by
  obtain ⟨o, es, ep, ho, hd, _, hf⟩ := Heap.Ns.of_isNs (isNs_of_in X e)
  unfold nsIn at q
  split at q
  · rename_i c d es' n' sl q'
    have := X _ _ q'
    rw [ho] at this
    cases this
    cases hd
    split at q
    · rename_i en he
      cases q
      rw [← hf]
      unfold nsFind findBy
      rw [← Array.find?_toList, he]
      rfl
    · split at q <;> cases q
  · cases q

abbrev bmE : List Value := [.type "Exception", .type "BaseException", .type "object"]
structure ExcK (K : Frag) : Prop where
  c45 : ∃ nm q bs sn sub ab col dd k0 k1 k2 k3 k5, K.lookup 45 = some (excClassObj nm q 45 44 bs (.ref 32 :: bmE) true sn sub ab col dd k0 k1 k2 k3 k5 "Exception.__new__")
  c32 : ∃ c0 ddD cdD slD, K.lookup 32 = some { cls := c0, dict := ddD, data := .cls cdD, slots := slD } ∧ cdD.ns = 31
  ok44 : nsOkIn K 44 = true
  ok31 : nsOkIn K 31 = true
  a1 : nsIn K 44 "__init__" = some none
  a2 : nsIn K 44 "__setattr__" = some none
  a3 : nsIn K 44 "__getattribute__" = some none
  a4 : nsIn K 44 "__getattr__" = some none
  a5 : nsIn K 44 "told" = some none
  b1 : nsIn K 31 "__init__" = some (some (.ref 29))
  b2 : nsIn K 31 "__setattr__" = some none
  b3 : nsIn K 31 "__getattribute__" = some none
  b4 : nsIn K 31 "__getattr__" = some none
  b5 : nsIn K 31 "told" = some none
  f29 : ∃ od osl params dV kV doc pm an cdv ct p1 p2 p3 p4, K.lookup 29 = some ⟨.type "function", od, .func (fnOf "__init__" "TermError.__init__" params [.Assign [.Attribute (.Name "self" p1) "told" p2] (.Name "told" p3) p4]
      { kind := .function, names := [("self", .local), ("told", .local)], isGenerator := false, isCoroutine := false } dV kV doc pm an cdv ct), osl⟩ ∧ codeIn K cdv "TermError.__init__" = true ∧
      ∀ (s : Shared) e v, K.In s.heap → BindsTo s (fnOf "__init__" "TermError.__init__" params [.Assign [.Attribute (.Name "self" p1) "told" p2] (.Name "told" p3) p4]
      { kind := .function, names := [("self", .local), ("told", .local)], isGenerator := false, isCoroutine := false } dV kV doc pm an cdv ct) ⟨[e, v], []⟩ [(("self" : Str), e), (("told" : Str), v)]

theorem told_E : typeLookup (.type "Exception") "told" = pure none := by rw [typeLookup_type, builtinLookup_eq_fast]; kernel_rfl

def MadeBad (h h' : Heap) (e dx : Addr) (v : Value) : Prop :=
  h.get? e = none ∧ h.get? dx = none ∧ dx ≠ e ∧ Grown h h' ∧ ∃ t od, h'.get? e = some { cls := .ref 45, dict := some dx, data := .fields #[.ref t, .none, .none, .none, .bool false, .none] } ∧ h'.get? dx = some od ∧ TellsO od "told" v

section
variable {prog : Program} {w : World} {K : Frag} {A : Around} {E : Value → Shared → Prop} {s : Shared} {v : Value} {Q : Value → Shared → Prop}
theorem init29 (XK : ExcK K) {h₀ : Heap} (X : K.In h₀) (hlim : h₀.NoLimit) (st : Grown h₀ s.heap) (hdep : A.depth < recursionLimit) {e t : Addr} (hn : h₀.get? e = none)
    (he : s.heap.get? e = some { cls := .ref 45, data := .fields #[.ref t, .none, .none, .none, .bool false, .none] })
    (hq : ∀ h' dx tk, MadeBad h₀ h' e dx v → Q .none { s with heap := h', toks := tk }) : wpAny (model prog w) A (call (.ref 29) [.ref e, v]) Q E s := by
  obtain ⟨od, osl, params, dV, kV, doc, pm, an, cdv, ct, p1, p2, p3, p4, hf, hcd, hbind⟩ := XK.f29
  have XS : K.In s.heap := X.keeps st
  refine wpAny_call (codeAny_call_def hdep (XS _ _ hf) rfl (hlim.keeps st) (codeRec_of XS hcd) rfl (hbind _ _ _ XS) (by show ∀ x ∈ [(("self" : Str), NameKind.local), (("told" : Str), NameKind.local)], x.2 ≠ .cell; decide) (allCons rfl (allCons rfl allNil)) (fun h₁ hns hk₁ => ?_) rfl rfl rfl)
  have X₁ : K.In h₁ := X.keeps fun b o e => hk₁ _ _ (st b o e)
  refine wpAny_execs_cons (plainObj_wpAny_Assign_Attribute (wpAny_Name (wpAny_loadName_local rfl rfl hns rfl ?_)) rfl)
  refine wpAny_Name (wpAny_loadName_local rfl rfl hns rfl ?_)
  obtain ⟨nm, q, bs, sn, sub, ab, col, dd, k0, k1, k2, k3, k5, hC⟩ := XK.c45
  obtain ⟨c0, ddD, cdD, slD, hD, hns31⟩ := XK.c32
  have hnD : h₁.Ns cdD.ns (h₁.nsMap 31) := by rw [hns31]; exact .of_isNs (isNs_of_in X₁ XK.ok31)
  refine store2_attr PySem.F.store_Exception (X₁ _ _ hC) (.of_isNs (isNs_of_in X₁ XK.ok44)) (X₁ _ _ hD) hnD (nsMap_none_of_in X₁ XK.ok44 XK.a2) (nsMap_none_of_in X₁ XK.ok31 XK.b2)
    (nsMap_none_of_in X₁ XK.ok44 XK.a5) (nsMap_none_of_in X₁ XK.ok31 XK.b5) told_E (hk₁ _ _ he) rfl rfl rfl fun h' dx od tk' c1 c2 c3 c4 c5 c6 => ?_
  refine wpAny_execs_nil (hq h' dx tk' ⟨hn, ?_, c5, fun b o hb => c6 b o (fun z => by rw [z, hn] at hb; cases hb) (hk₁ _ _ (st b o hb)), t, od, c1, c2, c3⟩)
  cases q' : h₀.get? dx with
  | none => rfl
  | some o => rw [hk₁ _ _ (st _ _ q')] at c4; cases c4

theorem bad_call (XK : ExcK K) (X : K.In s.heap) (hlim : s.heap.NoLimit) (hdep : A.depth + 1 < recursionLimit)
    (hq : ∀ h' e dx tk, MadeBad s.heap h' e dx v → Q (.ref e) { s with heap := h', toks := tk }) : wpAny (model prog w) A (call (.ref 45) [v]) Q E s := by
  obtain ⟨hh, g, d, t, os⟩ := s
  obtain ⟨nm, q, bs, sn, sub, ab, col, dd, k0, k1, k2, k3, k5, hC⟩ := XK.c45
  obtain ⟨c0, ddD, cdD, slD, hD, hns31⟩ := XK.c32
  obtain ⟨od, osl, params, dV, kV, doc, pm, an, cdv, ct, p1, p2, p3, p4, hf, hcd, hbind⟩ := XK.f29
  have hnD : hh.Ns cdD.ns (hh.nsMap 31) := by rw [hns31]; exact .of_isNs (isNs_of_in X XK.ok31)
  refine call_exc2 PySem.F.excBase_Exception (X _ _ hC) (.of_isNs (isNs_of_in X XK.ok44)) (X _ _ hD) hnD (nsMap_none_of_in X XK.ok44 XK.a1) (nsMap_some_of_in X XK.ok31 XK.b1) (X _ _ hf) rfl (fun h' e M => ?_)
  obtain ⟨t', ht, _, _⟩ := M.there
  refine init29 XK (h₀ := hh) (s := ⟨h', g, d, t, os⟩) (t := t') X hlim M.keeps ?_ M.new ht fun h'' dx tk hm => ⟨rfl, hq h'' e dx tk hm⟩
  · show A.depth + _ < _
    exact hdep
end
end

section
set_option maxHeartbeats 1000000

def Thrown (g : Heap) (envs : List Env) (v : Int) (s : Shared) (e' : Value) (s' : Shared) : Prop :=
  ∃ e dx od t h' tk, e' = .ref e ∧ s' = { s with heap := h', toks := tk } ∧ RaisedD (hid g envs) envs e dx (.ref 45) od h' ∧ TellsO od "told" (.int v t) ∧ g.UpToSlots h' ∧ g.get? dx = none

section
variable (prog : Program) (w : World) (K : Frag) (p : Program) (loose : List Str)
def ThrowF (d u : Nat) (f : Addr) (args : List Value) (P : Heap → Prop) (v : Int) : Prop :=
  ∀ (mean : ExcName → Option Value) (mg mb : Str → Option Value) (envs : List Env) (base : Heap) (s : Shared) (Q E : Value → Shared → Prop),
    Below (nomA d u envs) base envs s.heap → K.In s.heap → Top p loose mean mg mb s.heap → P s.heap →
    (∀ e' s', Thrown s.heap envs v s e' s' → E e' s') →
    wpAny (model prog w) (nomA d u envs) (call (.ref f) args) Q E s
def ThrowBody (d u : Nat) (f : Addr) (qual : Str) (scope : Scope) (cdv : Value) (body : List Stmt) (binds : List (Str × Value)) (P : Heap → Prop) (v : Int) : Prop :=
  ∀ (mean : ExcName → Option Value) (mg mb : Str → Option Value) (outer : List Env) (base g : Heap) (L : Addr) (s : Shared) (R : Value → Shared → Prop),
    Below (nomA d u outer) base outer g → Fr g L s.heap (fun y => binds.reverse.lookup y) → News g L s.heap [] → K.In g → Top p loose mean mg mb g → P g → (∀ e' s', Thrown g outer v s e' s' → R e' s') →
    wpAny (model prog w) ((nomA d u outer).deeper (envOf qual scope L f cdv)) (execs body (envOf qual scope L f cdv)) (fun _ _ => False)
      (fun e s' => wpAny (model prog w) ((nomA d u outer).deeper (envOf qual scope L f cdv)) (leaving (envOf qual scope L f cdv) e) (fun _ s'' => R e s'') (fun e' s'' => R e' s'') s') s
end

section
variable {prog : Program} {w : World} {K : Frag} {p : Program} {loose : List Str} {d u : Nat} {f : Addr} {args : List Value} {P : Heap → Prop} {v : Int}
theorem ThrowF.use (S : ThrowF prog w K p loose d u f args P v) {A A₀ : Around} {mean : ExcName → Option Value} {mg mb : Str → Option Value} {env : Env} {outer : List Env} {base h₀ : Heap} {L : Addr} {m : Str → Option Value} {s : Shared} {Q E : Value → Shared → Prop}
    (B : Below A₀ base outer h₀) (F : Fr h₀ L s.heap m) (X : K.In h₀) (T : Top p loose mean mg mb h₀) (hA : A.frames = some (env :: outer)) (hh : A.handled = none) (hd : A.depth ≤ d) (hu : A.units ≤ u)
    (hf : env.frame = some L) (hk : env.scope.kind = .function) (hp : P s.heap)
    (throw : ∀ e' s', Thrown s.heap (env :: outer) v s e' s' → E e' s') : wpAny (model prog w) A (call (.ref f) args) Q E s :=
  wp_nom (S mean mg mb (env :: outer) base s Q E (belowNow B F rfl hf hk) (X.keeps F.keep) (T.keeps F.keep) hp throw) hh hd hA hu

theorem ThrowF.enter {name qual : Str} {params : Arguments} {body : List Stmt} {scope : Scope} {dV kV doc pm cdv ct oc : Value} {an od : Option Addr} {osl : Array (Option Value)} {binds : List (Str × Value)}
    (ho : K.lookup f = some ⟨oc, od, .func (fnOf name qual params body scope dV kV doc pm an cdv ct), osl⟩) (hcd : codeIn K cdv qual = true) (hroom : d < recursionLimit)
    (hbind : bindArgs (fnOf name qual params body scope dV kV doc pm an cdv ct) ⟨args, []⟩ = pure binds) (hloc : ∀ y ∈ binds, scope.names.lookup y.1 = some .local)
    (hco : scope.isCoroutine = false) (hgen : scope.isGenerator = false) (hk : scope.kind = .function) (hcell : ∀ x ∈ scope.names, x.2 ≠ .cell)
    (h : ThrowBody prog w K p loose d u f qual scope cdv body binds P v) : ThrowF prog w K p loose d u f args P v := by
  intro mean mg mb envs base s Q E B X T hp hq
  refine wpAny_call (codeAny_call_def (fd := fnX name qual params body scope [] dV kV doc pm an cdv ct) (body := body) (binds := binds) hroom (X _ _ ho) rfl T.nolimit (codeRec_of X hcd) rfl (.of_eq hbind) hcell hloc (fun h₁ hns hk₁ => ?_) hco hgen hk)
  have F₁ : Fr s.heap s.heap.objs.size h₁ (fun y => binds.reverse.lookup y) := ⟨hns, fun b o e => hk₁ b o e, Nat.le_refl _⟩
  refine wpAny_mono (h mean mg mb envs base s.heap s.heap.objs.size { s with heap := h₁, toks := s.toks + binds.length } E B F₁ News.nil X T hp fun e' s' ht => hq e' s' ?_) (fun fl s' he => he.elim) fun e s' he => he
  obtain ⟨e, dx, od, t, h', tk, rfl, rfl, r⟩ := ht
  exact ⟨e, dx, od, t, h', tk, rfl, rfl, r⟩
end

section
variable {M : Model} {A : Around} {E : Value → Shared → Prop} {s' s : Shared} {base g g₂ : Heap} {outer : List Env} {L a : Addr} {m : Str → Option Value} {name : Str} {scope : Scope} {cd : Value} {R : Value → Shared → Prop} {v : Int}
theorem leave_bad {h₀ h' : Heap} {tk : Nat} {e dx : Addr} {t : Tok} (K : Below A base outer g) (F : Fr g L h₀ m) (hm : MadeBad h₀ h' e dx (.int v t)) (hR : ∀ e' s', Thrown g outer v s e' s' → R e' s') (hk : scope.kind = .function := by rfl) :
    wpAny M (A.deeper (envOf name scope L a cd)) (leaving (envOf name scope L a cd) (.ref e)) (fun _ s'' => R (.ref e) s'') (fun e' s'' => R e' s'') { s with heap := h', toks := tk } := by
  obtain ⟨h1, h2, h3, hg, t', od, he, hdx, htell⟩ := hm
  have gone : ∀ b, h₀.get? b = none → g.get? b = none := fun b hb => by
    cases q : g.get? b with
    | none => rfl
    | some o => rw [F.keep _ _ q] at hb; cases hb
  have offL : ∀ b, h₀.get? b = none → b ≠ L := fun b hb z => by
    obtain ⟨oL, _, _, eL, _⟩ := F.ns
    rw [z, eL] at hb; cases hb
  exact leave_raiseD (s' := { s with heap := h', toks := tk }) K (F.keeps hg) (gone _ h1) (offL _ h1) he rfl rfl rfl rfl hdx h3 (gone _ h2) (offL _ h2) (fun h'' r u => hR _ _ ⟨e, dx, od, t, h'', tk, rfl, rfl, r, htell, u, gone _ h2⟩) hk

theorem leave_thrown {s₁ : Shared} {e' : Value} (K : Below A base outer g) (F : Fr g L s₁.heap m) (ht : Thrown s₁.heap (envOf name scope L a cd :: outer) v s₁ e' s') (hs : ∃ h tk, s₁ = { s with heap := h, toks := tk })
    (hR : ∀ e' s', Thrown g outer v s e' s' → R e' s') (hk : scope.kind = .function := by rfl) :
    wpAny M (A.deeper (envOf name scope L a cd)) (leaving (envOf name scope L a cd) e') (fun _ s'' => R e' s'') (fun e' s'' => R e' s'') s' := by
  obtain ⟨e, dx, od, t, h', tk, rfl, rfl, r, htell, u, hn⟩ := ht
  obtain ⟨h, tk', rfl⟩ := hs
  have hng : g.get? dx = none := by
    cases q : g.get? dx with
    | none => rfl
    | some o => rw [F.keep _ _ q] at hn; cases hn
  exact leave_onD K F r u hng fun h'' r' u' => hR _ _ ⟨e, dx, od, t, h'', tk, rfl, rfl, r', htell, u', hng⟩
end

def RaisableO (E : Value → Shared → Prop) (v : Value) (s₁ : Shared) : Prop :=
  ∃ nm q C N bs D sn sub ab col dd k0 k1 k2 k3 k5 newId e o vs, v = .ref e ∧ s₁.heap.get? C = some (excClassObj nm q C N bs (.ref D :: bmE) true sn sub ab col dd k0 k1 k2 k3 k5 newId) ∧
      s₁.heap.get? e = some o ∧ o.cls = .ref C ∧ o.data = .fields vs ∧ vs[1]? = some .none ∧ E (.ref e) s₁
theorem raiseStmt_own {M : Model} {A : Around} {E : Value → Shared → Prop} {env : Env} {s : Shared} {x : Sem Value} {Q : Flow → Shared → Prop} (hh : A.handled = none) (h : wpAny M A x (RaisableO E) E s) :
    wpAny M A (raiseStmt env (some x) none) Q E s := by
  unfold raiseStmt
  refine wpAny_bind (wpAny_mono h (fun v s₁ h₁ => ?_) fun _ _ x => x)
  obtain ⟨nm, q, C, N, bs, D, sn, sub, ab, col, dd, k0, k1, k2, k3, k5, newId, e, o, vs, rfl, hC, he, hc, hdat, hv1, hE⟩ := h₁
  have hcB : (Value.ref C :: Value.ref D :: bmE).contains (.type "BaseException") = true := by rw [List.contains_cons, List.contains_cons]; rfl
  obtain ⟨hp, g, d, tk, os⟩ := s₁
  repeat (first | (with_reducible refine wpAny_loadPart_at he ?_; rw [hc]) | with_reducible refine wpAny_loadPart_at hC ?_ | (with_reducible refine wpAny_isSubtype_exc hC ?_; rw [hcB]) | (with_reducible refine wpAny_field he hdat hv1 ?_) | wp_step)
  exact wpAny_raiseNew_none hh hE
theorem Raise_mine {M : Model} {A : Around} {E : Value → Shared → Prop} {env : Env} {s : Shared} {e : Expr} {pos : Pos} {Q : Flow → Shared → Prop} (hh : A.handled = none)
    (h : wpAny M A (eval e env) (RaisableO E) E s) : wpAny M A (exec (.Raise (some e) none pos) env) Q E s := by
  show wpAny M A (do standAt pos; raiseStmt env (some (do let v ← eval e env; standAt pos; pure v)) none) Q E s
  exact wpAny_bind (wpAny_standAt (raiseStmt_own hh (wpAny_bind (wpAny_mono h (fun v s₁ h₁ => wpAny_bind (wpAny_standAt (wpAny_pure h₁))) fun _ _ x => x))))

theorem raise_bad {prog : Program} {w : World} {K : Frag} {A : Around} {E : Value → Shared → Prop} {s : Shared} {v : Value} {h₀ : Heap} {L : Addr} {m : Str → Option Value} {p : Program} {loose : List Str} {mean : ExcName → Option Value} {mg mb : Str → Option Value}
    (XK : ExcK K) (F : Fr h₀ L s.heap m) (X : K.In h₀) (T : Top p loose mean mg mb h₀) (hdep : A.depth + 1 < recursionLimit)
    (hE : ∀ h' e dx tk, MadeBad s.heap h' e dx v → E (.ref e) { s with heap := h', toks := tk }) : wpAny (model prog w) A (call (.ref 45) [v]) (RaisableO E) E s := by
  refine bad_call XK (X.keeps F.keep) (T.nolimit.keeps F.keep) hdep fun h' e dx tk hm => ?_
  obtain ⟨nm, q, bs, sn, sub, ab, col, dd, k0, k1, k2, k3, k5, hC⟩ := XK.c45
  have hm' := hm
  obtain ⟨_, _, _, hg, t', od, he, _⟩ := hm'
  exact ⟨nm, q, 45, 44, bs, 32, sn, sub, ab, col, dd, k0, k1, k2, k3, k5, _, e, _, _, rfl, hg _ _ (F.keep _ _ (X _ _ hC)), he, rfl, rfl, rfl, hE h' e dx tk hm⟩
theorem ThrowF.useA {prog : Program} {w : World} {K : Frag} {p : Program} {loose : List Str} {d u : Nat} {f : Addr} {args : List Value} {P : Heap → Prop} {v : Int} (S : ThrowF prog w K p loose d u f args P v) {A A₀ : Around} {mean : ExcName → Option Value} {mg mb : Str → Option Value} {env : Env} {outer : List Env} {base h₀ : Heap} {L : Addr} {m : Str → Option Value} {s : Shared} {Q E : Value → Shared → Prop}
    (hp : P s.heap) (throw : ∀ e' s', Thrown s.heap (env :: outer) v s e' s' → E e' s') (B : Below A₀ base outer h₀ := by k_asm) (F : Fr h₀ L s.heap m := by k_asm) (X : K.In h₀ := by k_asm) (T : Top p loose mean mg mb h₀ := by k_asm) (hA : A.frames = some (env :: outer) := by exact rfl) (hh : A.handled = none := by exact rfl) (hd : A.depth ≤ d := by exact Nat.le_of_ble_eq_true rfl) (hu : A.units ≤ u := by exact Nat.le_of_ble_eq_true rfl) (hf : env.frame = some L := by exact rfl) (hk : env.scope.kind = .function := by exact rfl) : wpAny (model prog w) A (call (.ref f) args) Q E s := S.use B F X T hA hh hd hu hf hk hp throw
end

section
set_option maxHeartbeats 4000000
theorem excK (w : World) : ExcK (KF w) := by
  have h : PP = PP → ExcK (KF w) := by
    unfold PP KF
    k_fill
    intro _
    exact ⟨⟨_, _, _, _, _, _, _, _, _, _, _, _, _, by k_is⟩, ⟨_, _, _, _, by k_is, rfl⟩, by with_unfolding_all rfl, by with_unfolding_all rfl, by k_is, by k_is, by k_is, by k_is, by k_is, by k_is, by k_is, by k_is, by k_is, by k_is,
      ⟨_, _, _, _, _, _, _, _, _, _, _, _, _, _, by k_is, by k_is, fun s e v X => BindsTo.of_defaults (T := 22) (items := #[.none]) rfl (X 22 _ (by k_is)) rfl rfl rfl⟩⟩
  exact h rfl
end

section
set_option maxHeartbeats 4000000
local macro_rules | `(tactic| walk_at "exec For Tuple Call cons nil") => `(tactic| (k_here; (with_reducible refine wpAny_For ?_ ?_); rotate_left; exact fun _ => rfl))
local macro_rules | `(tactic| walk_at "call type:enumerate") => `(tactic| (refine Halt.mk ?_))

local macro_rules | `(tactic| walk_at "exec Raise some none") => `(tactic| (k_here; (with_reducible show wpAny _ _ (exec (Stmt.Raise (some (Expr.Call (Expr.Name _ _) (_ :: _) [] _)) none _) _) _ _ _); k_dflt (refine' Raise_mine (by exact rfl) ?_; k_whole)))
local macro_rules | `(tactic| walk_at "call ref") => `(tactic| (k_here; (with_reducible show wpAny _ _ (call (Value.ref 45) _) _ _ _); refine Halt.mk ?_))
theorem s_check_bad (w : World) (l : Addr) (vs : List Value) (ps : List (Int × Int)) (at_ : Nat) (hv : wrongAt (-1) 0 ps = some at_) : ThrowF PP w (KF w) VV LL 360 400 69 [.ref l] (fun h => RangesV h l vs ps) at_ := by
  have XK := excK w
  w_top off
  unfold PP KF VV LL
  unfold KF at XK
  k_fill
  refine' ThrowF.enter (binds := [(Str.ofString "ranges", .ref l)]) ?k6 ?k7 ?k8 ?k9 ?kB ?c2 ?c3 ?c4 ?c5 ?h
  walk_at "MINE open"
  intro mean mg mb outer base g L s R B F N X T hp hR
  (try dsimp only); k_unmd
  k_fold
  k_steps
  rename Fr _ _ _ _ => F1
  unfold Halt
  refine for_enum (fun i m => i ≤ at_ ∧ m (Str.ofString "ranges") = some (.ref l) ∧ ∃ t, m (Str.ofString "before") = some (.int (beforeR ps i) t)) rfl rfl hp.1 F1 ⟨Nat.zero_le _, rfl, _, rfl⟩ ?turn ?done ?hE
  case hE => passes_own
  case done =>
    rintro h tk m ⟨hle, e1, t1, e2⟩ F2
    have hsz := wrongAt_some hv
    have := hp.len
    have h9 : vs.toArray.size = vs.length := List.size_toArray ..
    omega
  case turn =>
    rintro i v m1 h tk T1 own t1 hi ⟨hle, e1, t2, e2⟩ F2 N2 ho
    obtain ⟨hi', a, t3, t4, rfl, hT⟩ := hp.at hi
    clear F1
    replace F2 := frOver F2 [(Str.ofString "ranges", .ref l), (Str.ofString "before", .int (beforeR ps i) t2)] (allCons e1 (allCons e2 allNil))
    k_unmd
    k_fold
    k_steps
    · rename News _ _ _ _ => N9
      have hlt : i ≠ at_ := fun q => by
        have z := wrongAt_at hv i (by omega)
        rw [← beforeR_prev] at z
        exact z ⟨by assumption, by assumption⟩
      exact ⟨_, _, _, rfl, by assumption, fun p hp => N9 p (by first | exact hp | exact List.mem_cons_of_mem _ hp), by omega, rfl, _, by rw [beforeR_succ]; rfl⟩
    all_goals
      unfold Halt
      have he : i = at_ := by
        by_cases q : i = at_
        · exact q
        · have z := wrongAt_iff hv i (by omega)
          rw [← beforeR_prev] at z
          first | exact absurd z.1 (by assumption) | exact absurd z.2 (by assumption)
      subst he
      refine' raise_bad XK ?ka ?kb ?kc ?kd ?ke
      case ka => assumption
      case kb => assumption
      case kc => assumption
      case kd => exact Nat.le_of_ble_eq_true rfl
      case ke =>
        intro h' e dx tk hm
        exact leave_bad (by assumption) (by assumption) hm hR
end

section
set_option maxHeartbeats 1000000

def MakeEnd (g : Heap) (x : Addr) (r : Value → Heap → Prop) (s : Shared) (f : Flow) (s' : Shared) : Prop :=
  ∃ h' tk L m, s' = { s with heap := h', toks := tk } ∧ Fr g L h' m ∧ (match f with | .ret v => v | _ => .none) = .none ∧ r (.ref x) h'
theorem MakeEnd.intro {g : Heap} {x : Addr} {r : Value → Heap → Prop} {s : Shared} {f : Flow} {h' : Heap} {tk : Nat} {L : Addr} {m : Str → Option Value} (F : Fr g L h' m) (hf : (match f with | .ret v => v | _ => .none) = .none) (hr : r (.ref x) h') :
    MakeEnd g x r s f { s with heap := h', toks := tk } := ⟨h', tk, L, m, rfl, F, hf, hr⟩

section
variable (prog : Program) (w : World) (K : Frag) (p : Program) (loose : List Str)
def MakeBody (d u : Nat) (C fI : Addr) (args : List Value) (qual : Str) (scope : Scope) (cdv : Value) (body : List Stmt) (binds : Addr → List (Str × Value)) (P : Heap → Prop) (r : Value → Heap → Prop) : Prop :=
  ∀ (mean : ExcName → Option Value) (mg mb : Str → Option Value) (outer : List Env) (base g : Heap) (L : Addr) (s : Shared) (x dx : Addr),
    Below ((nomA d u outer).under (.builtin "type.__call__" ⟨.ref C :: args, []⟩)) base outer g → Fr g L s.heap (fun y => (binds x).reverse.lookup y) → News g L s.heap [(x, instObj C dx), (dx, emptyDict)] → dx < x → K.In g → Top p loose mean mg mb g → P g →
    wpAny (model prog w) (((nomA d u outer).under (.builtin "type.__call__" ⟨.ref C :: args, []⟩)).deeper (envOf qual scope L fI cdv)) (execs body (envOf qual scope L fI cdv)) (MakeEnd g x r s) (fun _ _ => False) s
def MakeThrow (d u : Nat) (C fI : Addr) (args : List Value) (qual : Str) (scope : Scope) (cdv : Value) (body : List Stmt) (binds : Addr → List (Str × Value)) (P : Heap → Prop) (v : Int) : Prop :=
  ∀ (mean : ExcName → Option Value) (mg mb : Str → Option Value) (outer : List Env) (base g : Heap) (L : Addr) (s : Shared) (x dx : Addr) (R : Value → Shared → Prop),
    Below ((nomA d u outer).under (.builtin "type.__call__" ⟨.ref C :: args, []⟩)) base outer g → Fr g L s.heap (fun y => (binds x).reverse.lookup y) → News g L s.heap [(x, instObj C dx), (dx, emptyDict)] → dx < x → K.In g → Top p loose mean mg mb g → P g →
    (∀ e' s', Thrown g outer v s e' s' → R e' s') →
    wpAny (model prog w) (((nomA d u outer).under (.builtin "type.__call__" ⟨.ref C :: args, []⟩)).deeper (envOf qual scope L fI cdv)) (execs body (envOf qual scope L fI cdv)) (fun _ _ => False)
      (fun e s' => wpAny (model prog w) (((nomA d u outer).under (.builtin "type.__call__" ⟨.ref C :: args, []⟩)).deeper (envOf qual scope L fI cdv)) (leaving (envOf qual scope L fI cdv) e) (fun _ s'' => R e s'') (fun e' s'' => R e' s'') s') s
end

section
variable {prog : Program} {w : World} {K : Frag} {p : Program} {loose : List Str} {d u : Nat} {C fI : Addr} {args : List Value} {P : Heap → Prop} {r : Value → Heap → Prop} {v : Int}
variable {name qual : Str} {params : Arguments} {body : List Stmt} {scope : Scope} {dV kV doc pm cdv ct oc : Value} {an od : Option Addr} {osl : Array (Option Value)} {binds : Addr → List (Str × Value)}

theorem PureF.make (hm : makesIn K C = true) (hi : findIn K (.ref C) "__init__" = some (some (.ref fI))) (hf : typeIn K (.ref fI) = some (.type "function"))
    (ho : K.lookup fI = some ⟨oc, od, .func (fnOf name qual params body scope dV kV doc pm an cdv ct), osl⟩) (hcd : codeIn K cdv qual = true) (hroom : d + 1 < recursionLimit)
    (hbind : ∀ x, bindArgs (fnOf name qual params body scope dV kV doc pm an cdv ct) ⟨.ref x :: args, []⟩ = pure (binds x)) (hloc : ∀ x, ∀ y ∈ binds x, scope.names.lookup y.1 = some .local)
    (hco : scope.isCoroutine = false) (hgen : scope.isGenerator = false) (hk : scope.kind = .function) (hcell : ∀ x ∈ scope.names, x.2 ≠ .cell)
    (h : MakeBody prog w K p loose d u C fI args qual scope cdv body binds P r) : PureF prog w K p loose d u C args P r := by
  intro mean mg mb envs base s Q E B X T hp hq
  obtain ⟨hh, g, dr, t, os⟩ := s
  refine wpAny_call (make_core (makes_of X hm) (looks_findIn X hi) (fun self => bind_fn X self hf) (.inl rfl) ?_)
  have kk : ∀ b o, hh.get? b = some o → ((hh.push emptyDict).push (instObj C hh.objs.size)).get? b = some o := fun b o e => Heap.get?_push_of_some _ (Heap.get?_push_of_some _ e)
  have hx : ((hh.push emptyDict).push (instObj C hh.objs.size)).get? (hh.objs.size + 1) = some (instObj C hh.objs.size) := by heap_get
  have hd : ((hh.push emptyDict).push (instObj C hh.objs.size)).get? hh.objs.size = some emptyDict := Heap.get?_push_of_some _ (Heap.get?_push_at rfl rfl)
  refine codeAny_call_def (fd := fnX name qual params body scope [] dV kV doc pm an cdv ct) (body := body) (binds := binds (hh.objs.size + 1)) hroom (kk _ _ (X _ _ ho)) rfl (T.nolimit.keeps kk) (codeRec_of (X.keeps kk) hcd) rfl (.of_eq (hbind _)) hcell (hloc _) (fun h₁ hns hk₁ => ?_) hco hgen hk
  have hsz : hh.objs.size ≤ ((hh.push emptyDict).push (instObj C hh.objs.size)).objs.size := by simp only [Heap.size_push]; omega
  have F₁ : Fr hh ((hh.push emptyDict).push (instObj C hh.objs.size)).objs.size h₁ (fun y => (binds (hh.objs.size + 1)).reverse.lookup y) := ⟨hns, fun b o e => hk₁ b o (kk b o e), hsz⟩
  have N₁ : News hh ((hh.push emptyDict).push (instObj C hh.objs.size)).objs.size h₁ [(hh.objs.size + 1, instObj C hh.objs.size), (hh.objs.size, emptyDict)] := by
    intro q hq
    rcases List.mem_cons.mp hq with rfl | hq
    · exact ⟨hk₁ _ _ hx, Nat.ne_of_lt (Heap.lt_size hx), Heap.get?_none_of_le (Nat.le_succ _)⟩
    · rw [List.mem_singleton.mp hq]
      exact ⟨hk₁ _ _ hd, Nat.ne_of_lt (Heap.lt_size hd), Heap.get?_none_of_le (Nat.le_refl _)⟩
  refine wpAny_mono (h mean mg mb envs base hh _ ⟨h₁, g, dr, _, os⟩ _ _ ⟨B.stack, B.stays, B.frames⟩ F₁ N₁ (Nat.lt_succ_self _) X T hp) (fun fl s' he => ?_) fun _ _ y => y.elim
  obtain ⟨h', tk, L', m', rfl, F', hfl, hr⟩ := he
  exact ⟨hfl, hq _ h' tk F'.keep hr⟩

theorem ThrowF.make (hm : makesIn K C = true) (hi : findIn K (.ref C) "__init__" = some (some (.ref fI))) (hf : typeIn K (.ref fI) = some (.type "function"))
    (ho : K.lookup fI = some ⟨oc, od, .func (fnOf name qual params body scope dV kV doc pm an cdv ct), osl⟩) (hcd : codeIn K cdv qual = true) (hroom : d + 1 < recursionLimit)
    (hbind : ∀ x, bindArgs (fnOf name qual params body scope dV kV doc pm an cdv ct) ⟨.ref x :: args, []⟩ = pure (binds x)) (hloc : ∀ x, ∀ y ∈ binds x, scope.names.lookup y.1 = some .local)
    (hco : scope.isCoroutine = false) (hgen : scope.isGenerator = false) (hk : scope.kind = .function) (hcell : ∀ x ∈ scope.names, x.2 ≠ .cell)
    (h : MakeThrow prog w K p loose d u C fI args qual scope cdv body binds P v) : ThrowF prog w K p loose d u C args P v := by
  intro mean mg mb envs base s Q E B X T hp hq
  obtain ⟨hh, g, dr, t, os⟩ := s
  refine wpAny_call (make_core (makes_of X hm) (looks_findIn X hi) (fun self => bind_fn X self hf) (.inl rfl) ?_)
  have kk : ∀ b o, hh.get? b = some o → ((hh.push emptyDict).push (instObj C hh.objs.size)).get? b = some o := fun b o e => Heap.get?_push_of_some _ (Heap.get?_push_of_some _ e)
  have hx : ((hh.push emptyDict).push (instObj C hh.objs.size)).get? (hh.objs.size + 1) = some (instObj C hh.objs.size) := by heap_get
  have hd : ((hh.push emptyDict).push (instObj C hh.objs.size)).get? hh.objs.size = some emptyDict := Heap.get?_push_of_some _ (Heap.get?_push_at rfl rfl)
  refine codeAny_call_def (fd := fnX name qual params body scope [] dV kV doc pm an cdv ct) (body := body) (binds := binds (hh.objs.size + 1)) hroom (kk _ _ (X _ _ ho)) rfl (T.nolimit.keeps kk) (codeRec_of (X.keeps kk) hcd) rfl (.of_eq (hbind _)) hcell (hloc _) (fun h₁ hns hk₁ => ?_) hco hgen hk
  have hsz : hh.objs.size ≤ ((hh.push emptyDict).push (instObj C hh.objs.size)).objs.size := by simp only [Heap.size_push]; omega
  have F₁ : Fr hh ((hh.push emptyDict).push (instObj C hh.objs.size)).objs.size h₁ (fun y => (binds (hh.objs.size + 1)).reverse.lookup y) := ⟨hns, fun b o e => hk₁ b o (kk b o e), hsz⟩
  have N₁ : News hh ((hh.push emptyDict).push (instObj C hh.objs.size)).objs.size h₁ [(hh.objs.size + 1, instObj C hh.objs.size), (hh.objs.size, emptyDict)] := by
    intro q hq
    rcases List.mem_cons.mp hq with rfl | hq
    · exact ⟨hk₁ _ _ hx, Nat.ne_of_lt (Heap.lt_size hx), Heap.get?_none_of_le (Nat.le_succ _)⟩
    · rw [List.mem_singleton.mp hq]
      exact ⟨hk₁ _ _ hd, Nat.ne_of_lt (Heap.lt_size hd), Heap.get?_none_of_le (Nat.le_refl _)⟩
  refine wpAny_mono (h mean mg mb envs base hh _ ⟨h₁, g, dr, _, os⟩ _ _ (fun e' s' => InitBack (hh.objs.size + 1) (fun r s' => match r with | .ok (.ret v) => Q v s' | .error e => E e s' | _ => False) (.error e') s') ⟨B.stack, B.stays, B.frames⟩ F₁ N₁ (Nat.lt_succ_self _) X T hp fun e' s' ht => ?_) (fun fl s' he => he.elim) fun _ _ y => ?_
  · obtain ⟨e, dx, od, t, h', tk, rfl, rfl, r⟩ := ht
    exact hq _ _ ⟨e, dx, od, t, h', tk, rfl, rfl, r⟩
  · exact y
end

section
variable (prog : Program) (w : World) (K : Frag) (p : Program) (loose : List Str)
end

section
variable {prog : Program} {w : World} {K : Frag} {p : Program} {loose : List Str} {d u : Nat} {f : Addr} {args : List Value} {P : Heap → Prop} {r : Value → Prop}
theorem told_get {A : Around} {s : Shared} {E : Value → Shared → Prop} {Q : Value → Shared → Prop} {expr : Bool} {h₀ : Heap} {L : Addr} {m : Str → Option Value} {news : List (Addr × Obj)} {e dx : Addr} {oe od : Obj} {ws : Array Value} {v : Value} (XK : ExcK K) (F : Fr h₀ L s.heap m) (X : K.In h₀) (N : News h₀ L s.heap news)
    (me : (e, oe) ∈ news) (md : (dx, od) ∈ news) (hc : oe.cls = .ref 45) (hdx : oe.dict = some dx) (hdat : oe.data = .fields ws) (ht : TellsO od "told" v) (hh : handedOut v = pure v) (hq : ∀ tk, Q v { s with toks := tk }) :
    wpAny (model prog w) A (getAttr (.ref e) "told" expr) Q E s := by
  obtain ⟨hp, g, d, tk, os⟩ := s
  obtain ⟨nm, q, bs, sn, sub, ab, col, dd, k0, k1, k2, k3, k5, hC⟩ := XK.c45
  obtain ⟨c0, ddD, cdD, slD, hD, hns31⟩ := XK.c32
  have X₁ : K.In hp := X.keeps F.keep
  have hnD : hp.Ns cdD.ns (hp.nsMap 31) := by rw [hns31]; exact .of_isNs (isNs_of_in X₁ XK.ok31)
  obtain ⟨es, ep, h1, h2, h3⟩ := ht
  refine load2_attr PySem.F.attrBase_Exception (X₁ _ _ hC) (.of_isNs (isNs_of_in X₁ XK.ok44)) (X₁ _ _ hD) hnD (nsMap_none_of_in X₁ XK.ok44 XK.a3) (nsMap_none_of_in X₁ XK.ok31 XK.b3) (nsMap_none_of_in X₁ XK.ok44 XK.a4) (nsMap_none_of_in X₁ XK.ok31 XK.b4)
    (nsMap_none_of_in X₁ XK.ok44 XK.a5) (nsMap_none_of_in X₁ XK.ok31 XK.b5) told_E (N _ me).1 hc hdx hdat ⟨od, es, ep, (N _ md).1, h1, h2, fun _ => rfl⟩ h3 hh (hq _)
end
end

section
set_option maxHeartbeats 4000000
local macro_rules | `(tactic| walk_at "MakeEnd") => `(tactic| (refine MakeEnd.intro (by assumption) rfl ?_))
local macro_rules | `(tactic| walk_at "call ref") => `(tactic| (k_here; walk_at "MINE g20"; k_dflt (refine' PureF.useA (s_check _ _ _ _ ?kv0) ?kp ?_; (case kp => walk_at "MINE rg"); walk_at "MINE a1"; k_whole); walk_at "MINE retV"))

def newTab (g₀ : Heap) (lw lm lj : Addr) (v : Value) (h' : Heap) : Prop := ∃ t dx h1 h2 h3 k1 k2 k3, v = .ref t ∧ h'.get? t = some (instObj 100 dx) ∧
  h'.get? dx = some (dictOf [⟨h1, .str (Str.ofString "wide") k1, .ref lw⟩, ⟨h2, .str (Str.ofString "marks") k2, .ref lm⟩, ⟨h3, .str (Str.ofString "joiners") k3, .ref lj⟩] 3) ∧ g₀.get? t = none ∧ g₀.get? dx = none ∧ @Ne Nat t dx
theorem s_tableN (w : World) (g₀ : Heap) (lw lm lj : Addr) (W M J : List (Int × Int)) (vW vM vJ : List Value) (hW : ValidR W) (hM : ValidR M) (hJ : ValidR J) :
    PureF PP w (KF w) VV LL 354 380 100 [.ref lw, .ref lm, .ref lj] (fun h => h = g₀ ∧ RangesV h lw vW W ∧ RangesV h lm vM M ∧ RangesV h lj vJ J) (newTab g₀ lw lm lj) := by
  w_top off
  unfold PP KF VV LL
  k_fill
  refine' PureF.make (fI := 83) (binds := fun x => [(Str.ofString "self", .ref x), (Str.ofString "wide", .ref lw), (Str.ofString "marks", .ref lm), (Str.ofString "joiners", .ref lj)]) ?k1 ?k2 ?k3 ?k6 ?k7 ?k8 ?k9 ?kB ?c2 ?c3 ?c4 ?c5 ?h
  case k1 => k_is
  case k2 => k_is
  case k3 => k_is
  case k6 => k_dflt k_is
  case k7 => k_dflt k_is
  case k8 => decide
  case k9 => intro x; with_unfolding_all exact rfl
  case kB => intro x; exact locs rfl
  case c2 => exact rfl
  case c3 => exact rfl
  case c4 => exact rfl
  case c5 => decide
  intro mean mg mb outer base g L s x dx B F N hlt X T hp
  obtain ⟨hg, r1, r2, r3⟩ := hp
  subst hg
  replace hlt : @LT.lt Nat _ dx x := hlt
  (try dsimp only); k_unmd
  k_fold
  k_steps
  rename Fr _ _ _ _ => F9
  rename News _ _ _ _ => N9
  exact ⟨x, dx, _, _, _, _, _, _, rfl, (N9 (x, _) (.tail _ (.head _))).1, (N9 (dx, _) (.tail _ (.tail _ (.head _)))).1, (N9 (x, _) (.tail _ (.head _))).2.2, (N9 (dx, _) (.tail _ (.tail _ (.head _)))).2.2, Ne.symm (Nat.ne_of_lt hlt)⟩
theorem s_table (w : World) (lw lm lj : Addr) (W M J : List (Int × Int)) (vW vM vJ : List Value) (hW : ValidR W) (hM : ValidR M) (hJ : ValidR J) :
    PureF PP w (KF w) VV LL 354 380 100 [.ref lw, .ref lm, .ref lj] (fun h => RangesV h lw vW W ∧ RangesV h lm vM M ∧ RangesV h lj vJ J) (fun v h => ∃ t, v = .ref t ∧ TabAt h t W M J) := by
  intro mean mg mb envs base s Q E B X T hp hq
  refine s_tableN w s.heap lw lm lj W M J vW vM vJ hW hM hJ mean mg mb envs base s Q E B X T ⟨rfl, hp⟩ ?_
  rintro v h' tk G ⟨t, dx, h1, h2, h3, k1, k2, k3, rfl, e1, e2, -, -, -⟩
  exact hq _ h' tk G ⟨t, rfl, dx, lw, lm, lj, h1, h2, h3, k1, k2, k3, e1, e2, ⟨vW, hp.1.grown G⟩, ⟨vM, hp.2.1.grown G⟩, ⟨vJ, hp.2.2.grown G⟩⟩

def firstWrong (W M J : List (Int × Int)) : Option Nat :=
  match wrongAt (-1) 0 W with
  | some i => some i
  | none => match wrongAt (-1) 0 M with
    | some i => some i
    | none => wrongAt (-1) 0 J


local macro_rules | `(tactic| walk_at "call ref") => `(tactic| (k_here; walk_at "MINE g20"; k_dflt (first
  | (refine' PureF.useA (s_check _ _ _ _ ?kv0) ?kp ?_; (case kp => walk_at "MINE rg"); walk_at "MINE a1"; k_whole; walk_at "MINE retV")
  | (refine' ThrowF.useA (s_check_bad _ _ _ _ _ ?kv0) ?kp ?_; (case kp => walk_at "MINE rg"); walk_at "MINE a1"; intro e' s' ht'; exact leave_thrown (by assumption) (by assumption) ht' ⟨_, _, rfl⟩ (by assumption)))))
theorem s_table_bad (w : World) (lw lm lj : Addr) (W M J : List (Int × Int)) (vW vM vJ : List Value) (at_ : Nat) (hv : firstWrong W M J = some at_) :
    ThrowF PP w (KF w) VV LL 354 380 100 [.ref lw, .ref lm, .ref lj] (fun h => RangesV h lw vW W ∧ RangesV h lm vM M ∧ RangesV h lj vJ J) at_ := by
  w_top off
  unfold PP KF VV LL
  k_fill
  refine' ThrowF.make (fI := 83) (binds := fun x => [(Str.ofString "self", .ref x), (Str.ofString "wide", .ref lw), (Str.ofString "marks", .ref lm), (Str.ofString "joiners", .ref lj)]) ?k1 ?k2 ?k3 ?k6 ?k7 ?k8 ?k9 ?kB ?c2 ?c3 ?c4 ?c5 ?h
  case k1 => k_is
  case k2 => k_is
  case k3 => k_is
  case k6 => k_dflt k_is
  case k7 => k_dflt k_is
  case k8 => decide
  case k9 => intro x; with_unfolding_all exact rfl
  case kB => intro x; exact locs rfl
  case c2 => exact rfl
  case c3 => exact rfl
  case c4 => exact rfl
  case c5 => decide
  intro mean mg mb outer base g L s x dx R B F N hlt X T hp hR
  obtain ⟨r1, r2, r3⟩ := hp
  replace hlt : @LT.lt Nat _ dx x := hlt
  unfold firstWrong at hv
  (try dsimp only); k_unmd
  k_fold
  cases hW : wrongAt (-1) 0 W with
  | some i =>
    rw [hW] at hv
    obtain rfl : i = at_ := Option.some.inj hv
    k_steps
  | none =>
    rw [hW] at hv
    replace hW : ValidR W := hW
    cases hM : wrongAt (-1) 0 M with
    | some i =>
      rw [hM] at hv
      obtain rfl : i = at_ := Option.some.inj hv
      k_steps
    | none =>
      rw [hM] at hv
      replace hM : ValidR M := hM
      replace hv : wrongAt (-1) 0 J = some at_ := hv
      k_steps
theorem r17 : True := trivial
end

section
section
variable (prog : Program) (w : World) (K : Frag) (p : Program) (loose : List Str)
end
section
variable {prog : Program} {w : World} {K : Frag} {p : Program} {loose : List Str} {d u : Nat} {f : Addr} {args : List Value} {P : Heap → Prop} {r : Value → Heap → Prop}
end

inductive All2 {α : Type} (R : α → Value → Prop) : List Value → List α → Prop
  | nil : All2 R [] []
  | cons {k : α} {v : Value} {ks : List α} {vs : List Value} : R k v → All2 R vs ks → All2 R (v :: vs) (k :: ks)
theorem All2.append {α : Type} {R : α → Value → Prop} {vs ws : List Value} {ks js : List α} (x : All2 R vs ks) (y : All2 R ws js) : All2 R (vs ++ ws) (ks ++ js) := by
  induction x with
  | nil => exact y
  | cons h _ ih => exact .cons h ih
theorem All2.length {α : Type} {R : α → Value → Prop} {vs : List Value} {ks : List α} (x : All2 R vs ks) : vs.length = ks.length := by
  induction x with
  | nil => rfl
  | cons h _ ih => simp [ih]
theorem All2.mono {α : Type} {R R' : α → Value → Prop} {vs : List Value} {ks : List α} (x : All2 R vs ks) (h : ∀ k v, R k v → R' k v) : All2 R' vs ks := by
  induction x with
  | nil => exact .nil
  | cons a _ ih => exact .cons (h _ _ a) ih
theorem All2.get {α : Type} {R : α → Value → Prop} {vs : List Value} {ks : List α} (x : All2 R vs ks) : ∀ (i : Nat) (k : α), ks[i]? = some k → ∃ v, vs[i]? = some v ∧ R k v := by
  induction x with
  | nil => intro i k h; simp at h
  | cons a _ ih =>
    intro i k h
    cases i with
    | zero => simp at h; subst h; exact ⟨_, by simp, a⟩
    | succ i => simpa using ih i k (by simpa using h)
abbrev PairsAre (h : Heap) : List Value → List (Int × Int) → Prop := All2 fun p v => PairV h v p
def pairD (p : Int × Int) : PyData := .tuple [.int p.1, .int p.2]
theorem pairs_reads {h : Heap} {vs : List Value} {ps : List (Int × Int)} (x : PairsAre h vs ps) : ReadsAll h vs (ps.map pairD) [] := by
  induction x with
  | nil => exact .nil
  | cons a _ ih =>
    obtain ⟨b, t, u, rfl, o, h1, h2, n, h3⟩ := a
    exact ReadsAll.cons (as := []) (reads_tuple_at h1 h2 h3 (.cons (as := []) (.int _ _) (.cons (as := []) (.int _ _) .nil))) ih
theorem pairs_lay : ∀ ps : List (Int × Int), PyData.canLayAll0 (ps.map pairD) = true
  | [] => rfl
  | p :: r => by simp [PyData.canLayAll0, pairD, PyData.canLay0, pairs_lay r]
theorem pairs_depth : ∀ ps : List (Int × Int), PyData.depthAll (ps.map pairD) ≤ 1
  | [] => by simp [PyData.depthAll]
  | p :: r => by
    have := pairs_depth r
    simp only [List.map_cons, PyData.depthAll, pairD, PyData.depth]
    omega
theorem pairs_shaped (ps : List (Int × Int)) : SeqAt.shaped (.list (ps.map pairD)) = true := by
  have := pairs_depth ps
  simp only [SeqAt.shaped, PyData.canLay0, PyData.depth, pairs_lay, Bool.true_and]
  exact decide_eq_true (by omega)
theorem ne_nil_pairs {prog : Program} {w : World} {A : Around} {E : Value → Shared → Prop} {s : Shared} {a b : Addr} {ys : List Value} {ps : List (Int × Int)} {Q : Value → Shared → Prop} (ha : s.heap.IsList a ys.toArray) (hb : s.heap.IsList b (#[] : Array Value))
    (hP : PairsAre s.heap ys ps) (hu : A.units + 64 < cLine) (h : Q (.bool (!ps.isEmpty)) s) : wpAny (model prog w) A (compareOp .NotEq (.ref a) (.ref b)) Q E s := by
  obtain ⟨oa, ha1, ha2, na, ha3⟩ := ha
  obtain ⟨ob, hb1, hb2, nb, hb3⟩ := hb
  refine ne_dataH (reads_list_at ha1 ha2 ha3 (by simpa using pairs_reads hP)) (reads_list_at hb1 hb2 hb3 .nil) (pairs_shaped _) rfl hu ?_
  cases ps with
  | nil => exact h
  | cons p r => exact h
section
variable {prog : Program} {w : World} {A : Around} {E : Value → Shared → Prop} {s : Shared} {h₀ : Heap} {L : Addr} {m : Str → Option Value} {env : Env}
end
section
variable (prog : Program) (w : World) (K : Frag) (p : Program) (loose : List Str)
end
section
variable {prog : Program} {w : World} {K : Frag} {p : Program} {loose : List Str} {d u : Nat} {f : Addr} {args : List Value} {P : Heap → Prop} {ns : List Int}
end
theorem SeqI.led {h₀ h : Heap} {L l : Addr} {news : List (Addr × Obj)} {ws : List Value} {ns : List Int} {n : Nat} (N : News h₀ L h news) (hm : (l, PySem.W.listOf ws.toArray n) ∈ news) (hi : IntsAre ws ns) (hb : ns.length ≤ 1000) : SeqI h l ns :=
  ⟨ws, .inl ⟨_, (N _ hm).1, rfl, _, rfl⟩, hi, hb⟩
section
variable {prog : Program} {w : World} {A : Around} {E : Value → Shared → Prop} {s : Shared} {a b : Addr} {xs : List Value} {ns : List Int} {Q : Value → Shared → Prop}
theorem dec_len : decide (ns = []) = decide ((ns.length : Int) = 0) := by cases ns <;> simp; omega
theorem eq_nil_ints (ha : s.heap.IsList a xs.toArray) (hb : s.heap.IsList b (#[] : Array Value)) (hi : IntsAre xs ns) (hu : A.units + 64 < cLine) (h : Q (.bool (decide ((ns.length : Int) = 0))) s) :
    wpAny (model prog w) A (compareOp .Eq (.ref a) (.ref b)) Q E s := ke_eq_ints (ys := []) (ms := []) ha hb hi .nil hu (by rw [dec_len]; exact h)
theorem ne_nil_ints (ha : s.heap.IsList a xs.toArray) (hb : s.heap.IsList b (#[] : Array Value)) (hi : IntsAre xs ns) (hu : A.units + 64 < cLine) (h : Q (.bool (!decide ((ns.length : Int) = 0))) s) :
    wpAny (model prog w) A (compareOp .NotEq (.ref a) (.ref b)) Q E s := ke_ne_ints (ys := []) (ms := []) ha hb hi .nil hu (by rw [dec_len]; exact h)
end
theorem seqI_lenH {prog : Program} {w : World} {A : Around} {E : Value → Shared → Prop} {s : Shared} {a : Addr} {ns : List Int} {Q : Value → Shared → Prop} (S : SeqI s.heap a ns) (h : ∀ t tk, Q (.int (ns.length : Int) t) { s with toks := tk }) :
    wpAny (model prog w) A (call (.builtin "len") [.ref a]) Q E s := by
  obtain ⟨vs, S, hi, hb⟩ := S
  have e : (vs.toArray.size : Int) = (ns.length : Int) := by rw [List.size_toArray, hi.length]
  rcases S with S | S
  · refine call_len_list S (by omega) ?_
    rw [e]; exact h _ _
  · refine PyProof.Rows.len_tuple S (by omega) ?_
    rw [e]; exact h _ _
theorem lastI_z {ns : List Int} : ns.getD (-1 + (ns.length : Int)).toNat 0 = lastI ns 1 := by unfold lastI; congr 1; omega
theorem lastI_t {ns : List Int} (h : 1 < (ns.length : Int)) : (ns.take (ns.length - 1)).getD (-1 + ((ns.take (ns.length - 1)).length : Int)).toNat 0 = lastI ns 2 := by
  rw [lastI_z]
  unfold lastI
  rw [List.length_take, Nat.min_eq_left (by omega)]
  simp only [List.getD_eq_getElem?_getD]
  rw [List.getElem?_take_of_lt (by omega)]
  congr 2
theorem bare_1 {ns : List Int} (h : 1 < (ns.length : Int)) (e : lastI ns 1 = 65039) : bareN ns = lastI ns 2 := by rw [bareN, if_pos ⟨by omega, e⟩]
theorem bare_2 {ns : List Int} (e : lastI ns 1 ≠ 65039) : bareN ns = lastI ns 1 := by rw [bareN, if_neg fun x => e x.2]
theorem bare_3 {ns : List Int} (h : ¬ 1 < (ns.length : Int)) : bareN ns = lastI ns 1 := by rw [bareN, if_neg fun x => h (by omega)]
theorem regs_1 {c : Int} : (([c].filter isReg).length : Int) = 0 ↔ ¬ (127462 ≤ c ∧ c ≤ 127487) := by
  by_cases h : 127462 ≤ c ∧ c ≤ 127487
  · simp [isReg_t h]; omega
  · simp [isReg_f h]; omega
section
variable {W M J : List (Int × Int)} {ns : List Int} {c : Int}
theorem lj_3 (h : ¬ (ns.length : Int) = 0) (hw : widthR W M c ≠ 0) (hc : (([c].filter isReg).length : Int) = 0) (h1 : 127995 ≤ c) (h2 : c ≤ 127999) (hl : 1 < (ns.length : Int)) (e : ns.getD (-1 + (ns.length : Int)).toNat 0 = 65039) :
    holdsR J ((ns.take (ns.length - 1)).getD (-1 + ((ns.take (ns.length - 1)).length : Int)).toNat 0) = joinsN W M J ns c := by
  rw [lastI_t hl, joins_4 h hw (regs_1.mp hc) ⟨h1, h2⟩, bare_1 hl (lastI_z ▸ e)]
theorem lj_4 (h : ¬ (ns.length : Int) = 0) (hw : widthR W M c ≠ 0) (hc : (([c].filter isReg).length : Int) = 0) (h1 : 127995 ≤ c) (h2 : c ≤ 127999) (e : ns.getD (-1 + (ns.length : Int)).toNat 0 ≠ 65039) :
    holdsR J (ns.getD (-1 + (ns.length : Int)).toNat 0) = joinsN W M J ns c := by
  rw [joins_4 h hw (regs_1.mp hc) ⟨h1, h2⟩, bare_2 (lastI_z ▸ e), lastI_z]
theorem lj_5 (h : ¬ (ns.length : Int) = 0) (hw : widthR W M c ≠ 0) (hc : (([c].filter isReg).length : Int) = 0) (h1 : 127995 ≤ c) (h2 : c ≤ 127999) (hl : ¬ 1 < (ns.length : Int)) :
    holdsR J (ns.getD (-1 + (ns.length : Int)).toNat 0) = joinsN W M J ns c := by
  rw [joins_4 h hw (regs_1.mp hc) ⟨h1, h2⟩, bare_3 hl, lastI_z]
theorem lj_6 (h : ¬ (ns.length : Int) = 0) (hw : widthR W M c ≠ 0) (hc : (([c].filter isReg).length : Int) = 0) (hm : ¬ c ≤ 127999 ∨ ¬ 127995 ≤ c) (e : ns.getD (-1 + (ns.length : Int)).toNat 0 = 8205) (hj : holdsR J c = true) :
    holdsR J (ns.getD (Int.toNat 0) 0) = joinsN W M J ns c := by
  rw [joins_5 h hw (regs_1.mp hc) (by omega), ← lastI_z, decide_eq_true e, hj]; rfl
theorem lj_8 (h : ¬ (ns.length : Int) = 0) (hw : widthR W M c ≠ 0) (hc : (([c].filter isReg).length : Int) = 0) (hm : ¬ c ≤ 127999 ∨ ¬ 127995 ≤ c) (e : ns.getD (-1 + (ns.length : Int)).toNat 0 ≠ 8205) :
    (ns.getD (-1 + (ns.length : Int)).toNat 0 == 8205) = joinsN W M J ns c := by
  rw [joins_5 h hw (regs_1.mp hc) (by omega), ← lastI_z, decide_eq_false e, beq_eq_false_iff_ne.mpr e]; rfl
end
end

section
abbrev adrs (l : List (Addr × Obj)) : List Addr := l.map (·.1)
theorem adrs_one {l : List (Addr × Obj)} {a : Addr} (e : adrs l = [a]) : ∃ o, l = [(a, o)] := by
  cases l with
  | nil => cases e
  | cons x r =>
    cases r with
    | nil => obtain ⟨x1, x2⟩ := x; exact ⟨x2, by have := (List.cons.inj e).1; simp only at this; rw [this]⟩
    | cons y r => cases (List.cons.inj e).2
theorem adrs_two {l : List (Addr × Obj)} {a b : Addr} (e : adrs l = [a, b]) : ∃ o o', l = [(a, o), (b, o')] := by
  cases l with
  | nil => cases e
  | cons x r =>
    obtain ⟨x1, x2⟩ := x
    obtain ⟨e1, e2⟩ := List.cons.inj e
    obtain ⟨o', rfl⟩ := adrs_one (l := r) e2
    simp only at e1
    subst e1
    exact ⟨x2, o', rfl⟩
def MutEnd (g : Heap) (own : List (Addr × Obj)) (r : Value → List (Addr × Obj) → Heap → Prop) (s : Shared) (f : Flow) (s' : Shared) : Prop :=
  ∃ h' tk L m own', s' = { s with heap := h', toks := tk } ∧ Fr g L h' m ∧ News g L h' own' ∧ adrs own' = adrs own ∧ r (match f with | .ret v => v | _ => .none) own' h'
theorem MutEnd.intro {g : Heap} {own own' all : List (Addr × Obj)} {r : Value → List (Addr × Obj) → Heap → Prop} {s : Shared} {f : Flow} {h' : Heap} {tk : Nat} {L : Addr} {m : Str → Option Value} (F : Fr g L h' m) (N : News g L h' all)
    (sub : ∀ p ∈ own', p ∈ all) (ha : adrs own' = adrs own) (hr : r (match f with | .ret v => v | _ => .none) own' h') : MutEnd g own r s f { s with heap := h', toks := tk } := ⟨h', tk, L, m, own', rfl, F, fun p hp => N p (sub p hp), ha, hr⟩

theorem MutEnd.intro2 {g : Heap} {all : List (Addr × Obj)} {a b : Addr} {oa ob oa' ob' : Obj} {r : Value → List (Addr × Obj) → Heap → Prop} {s : Shared} {f : Flow} {h' : Heap} {tk : Nat} {L : Addr} {m : Str → Option Value} (F : Fr g L h' m) (N : News g L h' all)
    (ha : (a, oa') ∈ all) (hb : (b, ob') ∈ all) (hr : r (match f with | .ret v => v | _ => .none) [(a, oa'), (b, ob')] h') : MutEnd g [(a, oa), (b, ob)] r s f { s with heap := h', toks := tk } :=
  MutEnd.intro (own' := [(a, oa'), (b, ob')]) F N (fun p hp => by
    rcases List.mem_cons.mp hp with rfl | hp
    · exact ha
    · rw [List.mem_singleton.mp hp]; exact hb) rfl hr
theorem MutEnd.intro1 {g : Heap} {all : List (Addr × Obj)} {a : Addr} {oa oa' : Obj} {r : Value → List (Addr × Obj) → Heap → Prop} {s : Shared} {f : Flow} {h' : Heap} {tk : Nat} {L : Addr} {m : Str → Option Value} (F : Fr g L h' m) (N : News g L h' all)
    (ha : (a, oa') ∈ all) (hr : r (match f with | .ret v => v | _ => .none) [(a, oa')] h') : MutEnd g [(a, oa)] r s f { s with heap := h', toks := tk } :=
  MutEnd.intro (own' := [(a, oa')]) F N (fun p hp => by rw [List.mem_singleton.mp hp]; exact ha) rfl hr

section
variable (prog : Program) (w : World) (K : Frag) (p : Program) (loose : List Str)
def MutF (d u : Nat) (f : Addr) (args : List Value) (own : List (Addr × Obj)) (P : Heap → Prop) (r : Value → List (Addr × Obj) → Heap → Prop) : Prop :=
  ∀ (mean : ExcName → Option Value) (mg mb : Str → Option Value) (envs : List Env) (base : Heap) (s : Shared) (Q E : Value → Shared → Prop),
    Below (nomA d u envs) base envs (hideAll s.heap (adrs own)) → K.In (hideAll s.heap (adrs own)) → Top p loose mean mg mb (hideAll s.heap (adrs own)) → (∀ q ∈ own, s.heap.get? q.1 = some q.2) → P (hideAll s.heap (adrs own)) →
    (∀ v h' tk own', adrs own' = adrs own → (∀ b o, b ∉ adrs own → s.heap.get? b = some o → h'.get? b = some o) → (∀ q ∈ own', h'.get? q.1 = some q.2) → r v own' h' → Q v { s with heap := h', toks := tk }) →
    wpAny (model prog w) (nomA d u envs) (call (.ref f) args) Q E s
def MutBody (d u : Nat) (f : Addr) (qual : Str) (scope : Scope) (cdv : Value) (body : List Stmt) (binds : List (Str × Value)) (own : List (Addr × Obj)) (P : Heap → Prop) (r : Value → List (Addr × Obj) → Heap → Prop) : Prop :=
  ∀ (mean : ExcName → Option Value) (mg mb : Str → Option Value) (outer : List Env) (base g : Heap) (L : Addr) (s : Shared),
    Below (nomA d u outer) base outer g → Fr g L s.heap (fun y => binds.reverse.lookup y) → News g L s.heap own → (∀ q ∈ own, q.1 < L) → K.In g → Top p loose mean mg mb g → P g →
    wpAny (model prog w) ((nomA d u outer).deeper (envOf qual scope L f cdv)) (execs body (envOf qual scope L f cdv)) (MutEnd g own r s) (fun _ _ => False) s
end

section
variable {prog : Program} {w : World} {K : Frag} {p : Program} {loose : List Str} {d u : Nat} {f : Addr} {args : List Value} {own : List (Addr × Obj)} {P : Heap → Prop} {r : Value → List (Addr × Obj) → Heap → Prop}
theorem MutF.enter {name qual : Str} {params : Arguments} {body : List Stmt} {scope : Scope} {dV kV doc pm cdv ct oc : Value} {an od : Option Addr} {osl : Array (Option Value)} {binds : List (Str × Value)}
    (ho : K.lookup f = some ⟨oc, od, .func (fnOf name qual params body scope dV kV doc pm an cdv ct), osl⟩) (hcd : codeIn K cdv qual = true) (hroom : d < recursionLimit)
    (hbind : bindArgs (fnOf name qual params body scope dV kV doc pm an cdv ct) ⟨args, []⟩ = pure binds) (hloc : ∀ y ∈ binds, scope.names.lookup y.1 = some .local)
    (hco : scope.isCoroutine = false) (hgen : scope.isGenerator = false) (hk : scope.kind = .function) (hcell : ∀ x ∈ scope.names, x.2 ≠ .cell)
    (h : MutBody prog w K p loose d u f qual scope cdv body binds own P r) : MutF prog w K p loose d u f args own P r := by
  intro mean mg mb envs base s Q E B X T hown hp hq
  have up : (hideAll s.heap (adrs own)).StaysIn s.heap := fun b o e => of_hideAll _ e
  refine wpAny_call (codeAny_call_def (fd := fnX name qual params body scope [] dV kV doc pm an cdv ct) (body := body) (binds := binds) hroom ((X.keeps up) _ _ ho) rfl (T.nolimit.keeps up) (codeRec_of (X.keeps up) hcd) rfl (.of_eq hbind) hcell hloc (fun h₁ hns hk₁ => ?_) hco hgen hk)
  have F₁ : Fr (hideAll s.heap (adrs own)) s.heap.objs.size h₁ (fun y => binds.reverse.lookup y) := ⟨hns, fun b o e => hk₁ b o (up b o e), Nat.le_of_eq (hideAll_size _ _)⟩
  have N₁ : News (hideAll s.heap (adrs own)) s.heap.objs.size h₁ own := fun q hq => ⟨hk₁ _ _ (hown q hq), Nat.ne_of_lt (Heap.lt_size (hown q hq)), hideAll_none _ (List.mem_map_of_mem hq)⟩
  refine wpAny_mono (h mean mg mb envs base _ s.heap.objs.size { s with heap := h₁, toks := s.toks + binds.length } B F₁ N₁ (fun q hq => Heap.lt_size (hown q hq)) X T hp) (fun fl s' he => ?_) fun _ _ y => y.elim
  obtain ⟨h', tk, L', m', own', rfl, F', N', ha, hr⟩ := he
  exact hq _ h' tk own' ha (fun b o nb e => F'.keep b o (hideAll_get _ e nb)) (fun q hq => (N' q hq).1) hr

theorem MutF.use2 {a b : Addr} {oa ob : Obj} (S : MutF prog w K p loose d u f args [(a, oa), (b, ob)] P r) {A A₀ : Around} {mean : ExcName → Option Value} {mg mb : Str → Option Value} {env : Env} {outer : List Env} {base h₀ : Heap} {L : Addr} {m : Str → Option Value} {news : List (Addr × Obj)} {g1 : Obj → List (Addr × Obj)} {g2 : Obj → Obj → List (Addr × Obj)} {s : Shared} {Q E : Value → Shared → Prop}
    (B : Below A₀ base outer h₀) (F : Fr h₀ L s.heap m) (X : K.In h₀) (N : News h₀ L s.heap news) (T : Top p loose mean mg mb h₀) (hA : A.frames = some (env :: outer)) (hh : A.handled = none) (hd : A.depth ≤ d) (hu : A.units ≤ u)
    (hf : env.frame = some L) (hk : env.scope.kind = .function) (U1 : UpdF a oa news g1) (U2 : ∀ o', UpdF b ob (g1 o') (g2 o')) (hp : P (hideAll s.heap [a, b]))
    (ret : ∀ v h' tk oa' ob', Fr h₀ L h' m → News h₀ L h' (g2 oa' ob') → r v [(a, oa'), (b, ob')] h' → Q v { s with heap := h', toks := tk }) :
    wpAny (model prog w) A (call (.ref f) args) Q E s := by
  obtain ⟨pre, post, rfl, hg, h1, h2⟩ := U1.split
  have hb0 : (b, ob) ∈ pre ++ (a, oa) :: post := by
    obtain ⟨pre2, post2, e2, _, _, _⟩ := (U2 oa).split
    rw [hg] at e2
    rw [e2]; simp
  have N0 : News h₀ L s.heap [(a, oa), (b, ob)] := fun q hq => by
    rcases List.mem_cons.mp hq with rfl | hq
    · exact N _ (by simp)
    · rw [List.mem_singleton.mp hq]; exact N _ hb0
  obtain ⟨FG, BG, st, _⟩ := groundX (A := nomA d u (env :: outer)) (R := fun _ _ => True) B F N0 rfl hf hk
  have ha := N0 (a, oa) (by simp)
  have hb := N0 (b, ob) (by simp)
  refine wp_nom (S mean mg mb (env :: outer) base s Q E BG (X.keeps st) (T.keeps st) (fun q hq => (N0 q hq).1) hp ?_) hh hd hA hu
  intro v h' tk own' hadr keep hown hr
  obtain ⟨oa', ob', rfl⟩ := adrs_two hadr
  have nin : ∀ x, x ≠ a → x ≠ b → x ∉ adrs [(a, oa), (b, ob)] := fun x n1 n2 hm => by
    rcases List.mem_cons.mp hm with z | hm
    · exact n1 z
    · exact n2 (List.mem_singleton.mp hm)
  have old : ∀ x o, h₀.get? x = some o → h'.get? x = some o := fun x o e => keep x o (nin x (fun z => by rw [z, ha.2.2] at e; cases e) (fun z => by rw [z, hb.2.2] at e; cases e)) (F.keep x o e)
  refine ret v h' tk oa' ob' ⟨F.ns.at' fun o e => keep L o (nin L (Ne.symm ha.2.1) (Ne.symm hb.2.1)) e, old, F.above⟩ ?_ hr
  obtain ⟨pre2, post2, e2, hg2, k1, k2⟩ := (U2 oa').split
  rw [hg2]
  have rest : ∀ q ∈ pre2 ++ (b, ob) :: post2, q.1 ≠ b → h'.get? q.1 = some q.2 ∧ q.1 ≠ L ∧ h₀.get? q.1 = none := by
    intro q hq hqb
    rw [← e2, hg] at hq
    rcases List.mem_append.mp hq with hq | hq
    · have z := N q (List.mem_append_left _ hq)
      exact ⟨keep _ _ (nin _ (h1 q hq) hqb) z.1, z.2⟩
    · rcases List.mem_cons.mp hq with rfl | hq
      · exact ⟨hown _ (by simp), ha.2⟩
      · have z := N q (List.mem_append_right _ (List.mem_cons_of_mem _ hq))
        exact ⟨keep _ _ (nin _ (h2 q hq) hqb) z.1, z.2⟩
  intro q hq
  rcases List.mem_append.mp hq with hq | hq
  · exact rest q (List.mem_append_left _ hq) (k1 q hq)
  · rcases List.mem_cons.mp hq with rfl | hq
    · exact ⟨hown _ (by simp), hb.2⟩
    · exact rest q (List.mem_append_right _ (List.mem_cons_of_mem _ hq)) (k2 q hq)
end
end

section
def isOpt (o : Option Nat) (v : Value) : Prop := match o with | none => v = .none | some i => ∃ t, v = .int i t
end

section
def CutN (h₀ : Heap) (L : Addr) (J : (Str → Option Value) → List (Addr × Obj) → Prop) (s : Shared) (f : Flow) (s' : Shared) : Prop :=
  f = .next ∧ ∃ h' tk m news, s' = { s with heap := h', toks := tk } ∧ Fr h₀ L h' m ∧ News h₀ L h' news ∧ J m news
section
variable {prog : Program} {w : World} {A : Around} {E : Value → Shared → Prop} {s : Shared} {env : Env} {h₀ : Heap} {L : Addr} {x : Str} {body : List Stmt} {Q : Flow → Shared → Prop}
theorem CutN.intro {J : (Str → Option Value) → List (Addr × Obj) → Prop} {h' : Heap} {tk : Nat} {m : Str → Option Value} {all : List (Addr × Obj)} (F : Fr h₀ L h' m) (N : News h₀ L h' all) (news : List (Addr × Obj)) (sub : ∀ p ∈ news, p ∈ all) (hJ : J m news) :
    CutN h₀ L J s .next { s with heap := h', toks := tk } := ⟨rfl, h', tk, m, news, rfl, F, fun p hp => N p (sub p hp), hJ⟩
theorem cut {M : Model} {st : Stmt} {rest : List Stmt} (J : (Str → Option Value) → List (Addr × Obj) → Prop) (h : wpAny M A (exec st env) (fun f s' => match f with | .next => CutN h₀ L J s .next s' | f => Q f s') E s)
    (k : ∀ h' tk m news, Fr h₀ L h' m → News h₀ L h' news → J m news → wpAny M A (execs rest env) Q E { s with heap := h', toks := tk }) : wpAny M A (execs (st :: rest) env) Q E s := by
  refine wpAny_execs_cons (wpAny_mono h (fun f s' hq => ?_) fun _ _ e => e)
  cases f with
  | next =>
    obtain ⟨_, h', tk, m, news, rfl, F, N, hJ⟩ := hq
    exact k h' tk m news F N hJ
  | ret v => exact hq
  | brk => exact hq
  | cont => exact hq

def TurnV (h₀ : Heap) (L : Addr) (I : Addr) (oI : Obj) (J : (Str → Option Value) → List (Addr × Obj) → Prop) (s : Shared) (Q : Flow → Shared → Prop) (f : Flow) (s₂ : Shared) : Prop :=
  match f with
  | .ret v => Q (.ret v) s₂
  | .brk => Q .next s₂
  | _ => ∃ h' tk m' news', s₂ = { s with heap := h', toks := tk } ∧ Fr h₀ L h' m' ∧ News h₀ L h' ((I, oI) :: news') ∧ (∀ p ∈ news', p.1 ≠ I) ∧ J m' news'
theorem TurnV.intro {I : Addr} {oI : Obj} {J : (Str → Option Value) → List (Addr × Obj) → Prop} {h' : Heap} {tk : Nat} {m' : Str → Option Value} {all : List (Addr × Obj)} (F : Fr h₀ L h' m') (N : News h₀ L h' all) (news' : List (Addr × Obj))
    (sub : ∀ p ∈ (I, oI) :: news', p ∈ all) (off : ∀ p ∈ news', p.1 ≠ I) (hJ : J m' news') : TurnV h₀ L I oI J s Q .next { s with heap := h', toks := tk } := ⟨h', tk, m', news', rfl, F, fun p hp => N p (sub p hp), off, hJ⟩

theorem loop_core {I : Addr} {fp : List Addr} {n : Nat} {P : Nat → Value → Prop} {St : Nat → Heap → Prop} {m₀ : Str → Option Value} {news : List (Addr × Obj)} (J : Nat → (Str → Option Value) → List (Addr × Obj) → Prop)
    (W : Walks prog w A I fp [I] n P St) (hIo : ∀ i h, St i h → ∃ o, h.get? I = some o) (hIf : I ∈ fp) (hI₀ : h₀.get? I = none) (hLf : env.locals ∉ fp)
    (hfp : ∀ b ∈ fp, b = I ∨ (∃ o, h₀.get? b = some o) ∨ ∃ o, ∀ i m nw, J i m nw → (b, o) ∈ nw)
    (hst : St 0 s.heap) (F : Fr h₀ env.locals s.heap m₀) (N : News h₀ env.locals s.heap news) (off : ∀ p ∈ news, p.1 ≠ I) (hj : J 0 m₀ news)
    (turn : ∀ i v m₁ news₁ h tk oI, i < n → P i v → J i m₁ news₁ → (∀ p ∈ news₁, p.1 ≠ I) → Fr h₀ env.locals h (fun y => if y = x then some v else m₁ y) → News h₀ env.locals h ((I, oI) :: news₁) →
      wpAny (model prog w) A (execs body env) (TurnV h₀ env.locals I oI (J (i + 1)) { s with heap := h, toks := tk } Q) E { s with heap := h, toks := tk })
    (done : ∀ m news h tk, J n m news → Fr h₀ env.locals h m → News h₀ env.locals h news → Q .next { s with heap := h, toks := tk }) :
    LoopAtV prog w A h₀ env x body Q E (.ref I) s := by
  refine ⟨I, fp, [I], n, P, St, m₀, news, J, rfl, W, hLf, (fun b hb => by rw [List.mem_singleton.mp hb]; exact hI₀), (fun p hp hm => off p hp (List.mem_singleton.mp hm)), hst, F, N, hj, ?_, ?_⟩
  · rintro i v m₁ news₁ s₁ own ⟨hh, tk, rfl⟩ hin hP hJ hoff hown howng hfull hst₁ F₁ N₁
    obtain ⟨oI, heI⟩ := hIo _ _ hst₁
    have hm := hfull I hIf hI₀ oI heI
    have N₂ : News h₀ env.locals hh ((I, oI) :: news₁) := fun p hp => by
      rcases List.mem_cons.mp hp with rfl | hp
      · exact N₁ _ (List.mem_append_left _ hm)
      · exact N₁ p (List.mem_append_right _ hp)
    refine wpAny_mono (turn i v m₁ news₁ hh tk oI hin hP hJ (fun p hp e => hoff p hp (List.mem_singleton.mpr e)) F₁ N₂) (fun f s₂ p => ?_) fun _ _ e => e
    have fin : (∃ h' tk' m' news', s₂ = { s with heap := h', toks := tk' } ∧ Fr h₀ env.locals h' m' ∧ News h₀ env.locals h' ((I, oI) :: news') ∧ (∀ p ∈ news', p.1 ≠ I) ∧ J (i + 1) m' news') →
        LoopStepU h₀ env.locals [I] own (J (i + 1)) { s with heap := hh, toks := tk } .next s₂ := by
      rintro ⟨h', tk', m', news', rfl, F', N', off', hJ'⟩
      refine ⟨rfl, h', tk', m', news', rfl, F', fun p hp => ?_, fun p hp hm => off' p hp (List.mem_singleton.mp hm), hJ'⟩
      rcases List.mem_append.mp hp with hp | hp
      · rcases hfp _ (hown p hp) with e | ⟨o, e⟩ | ⟨o, e⟩
        · have z := howng p hp
          rw [e, heI] at z
          obtain ⟨p1, p2⟩ := p
          simp only at e z
          subst e
          cases z
          exact N' _ List.mem_cons_self
        · have z := (N₁ p (List.mem_append_left _ hp)).2.2
          rw [e] at z; cases z
        · have z1 := (N₁ _ (List.mem_append_right _ (e _ _ _ hJ))).1
          have z2 := howng p hp
          obtain ⟨p1, p2⟩ := p
          simp only at z1 z2
          rw [z1] at z2
          cases z2
          exact N' _ (List.mem_cons_of_mem _ (e _ _ _ hJ'))
      · exact N' p (List.mem_cons_of_mem _ hp)
    cases f with
    | ret v => exact .ret p
    | brk => exact .brk p
    | next => exact .next (fin p)
    | cont => exact .cont (fin p)
  · rintro h' tk m' news' F' N' _ hJ
    exact done m' news' h' tk hJ F' N'

theorem for_listN {ax : Addr} {ox : Obj} {its : Array Value} {k : Nat} {m₀ : Str → Option Value} {news : List (Addr × Obj)} (J : Nat → (Str → Option Value) → List (Addr × Obj) → Prop)
    (hh : A.handled = none) (hc : ox.cls = .type "list") (hd : ox.data = .seq its k) (hm : (ax, ox) ∈ news) (hJm : ∀ i m nw, J i m nw → (ax, ox) ∈ nw) (F : Fr h₀ env.locals s.heap m₀) (N : News h₀ env.locals s.heap news) (hj : J 0 m₀ news)
    (turn : ∀ i v m₁ news₁ h tk I oI, its[i]? = some v → J i m₁ news₁ → (∀ p ∈ news₁, p.1 ≠ I) → Fr h₀ env.locals h (fun y => if y = x then some v else m₁ y) → News h₀ env.locals h ((I, oI) :: news₁) →
      wpAny (model prog w) A (execs body env) (TurnV h₀ env.locals I oI (J (i + 1)) { s with heap := h, toks := tk } Q) E { s with heap := h, toks := tk })
    (done : ∀ m news h tk, J its.size m news → Fr h₀ env.locals h m → News h₀ env.locals h news → Q .next { s with heap := h, toks := tk }) :
    wpAny (model prog w) A (pyIter (.ref ax)) (fun it s₂ => LoopAtV prog w A h₀ env x body Q E it s₂) E s := by
  have hl : s.heap.IsList ax its := ⟨ox, (N _ hm).1, hc, k, hd⟩
  have hlt : @LT.lt Nat _ ax s.heap.objs.size := ltS (N _ hm).1
  refine wpAny_pyIter_list hl ?_
  refine loop_core (s := { s with heap := s.heap.push { cls := .type "list_iterator", data := .fields #[.ref ax, .int 0 0] } }) J (Walks.list hh s.heap.objs.size ax (Nat.ne_of_lt hlt) its) (fun i h st => by obtain ⟨o, e, _⟩ := st.1; exact ⟨o, e⟩) (by simp) (next_is_new F) (fun hL => ?_) (fun b hb => ?_)
    ⟨⟨_, Heap.get?_push_size _ rfl, rfl, rfl⟩, hl.push _⟩ (F.push _) (fun p hp => ⟨Heap.get?_push_of_some _ (N p hp).1, (N p hp).2⟩) (fun p hp => Nat.ne_of_lt (Heap.lt_size (N p hp).1)) hj
    (fun i v m₁ news₁ h tk oI _ hP hJ o F₁ N₁ => turn i v m₁ news₁ h tk _ oI hP hJ o F₁ N₁) done
  · rcases List.mem_cons.mp hL with e | hL
    · exact absurd F.ns.lt (e ▸ Nat.lt_irrefl _)
    · exact (N _ hm).2.1 (List.mem_singleton.mp hL).symm
  · rcases List.mem_cons.mp hb with e | hb
    · exact .inl e
    · rw [List.mem_singleton.mp hb]; exact .inr (.inr ⟨ox, hJm⟩)

theorem for_tupN {ax : Addr} {ox : Obj} {its : Array Value} {k : Nat} {m₀ : Str → Option Value} {news : List (Addr × Obj)} (J : Nat → (Str → Option Value) → List (Addr × Obj) → Prop)
    (hh : A.handled = none) (hc : ox.cls = .type "tuple") (hd : ox.data = .seq its k) (hm : (ax, ox) ∈ news) (hJm : ∀ i m nw, J i m nw → (ax, ox) ∈ nw) (F : Fr h₀ env.locals s.heap m₀) (N : News h₀ env.locals s.heap news) (hj : J 0 m₀ news)
    (turn : ∀ i v m₁ news₁ h tk I oI, its[i]? = some v → J i m₁ news₁ → (∀ p ∈ news₁, p.1 ≠ I) → Fr h₀ env.locals h (fun y => if y = x then some v else m₁ y) → News h₀ env.locals h ((I, oI) :: news₁) →
      wpAny (model prog w) A (execs body env) (TurnV h₀ env.locals I oI (J (i + 1)) { s with heap := h, toks := tk } Q) E { s with heap := h, toks := tk })
    (done : ∀ m news h tk, J its.size m news → Fr h₀ env.locals h m → News h₀ env.locals h news → Q .next { s with heap := h, toks := tk }) :
    wpAny (model prog w) A (pyIter (.ref ax)) (fun it s₂ => LoopAtV prog w A h₀ env x body Q E it s₂) E s := by
  have hl : s.heap.IsTuple ax its := ⟨ox, (N _ hm).1, hc, k, hd⟩
  have hlt : @LT.lt Nat _ ax s.heap.objs.size := ltS (N _ hm).1
  refine wpAny_pyIter_tuple hl ?_
  refine loop_core (s := { s with heap := s.heap.push { cls := .type "tuple_iterator", data := .fields #[.ref ax, .int 0 0] } }) J (Walks.tuple hh s.heap.objs.size ax (Nat.ne_of_lt hlt) its) (fun i h st => by obtain ⟨o, e, _⟩ := st.1; exact ⟨o, e⟩) (by simp) (next_is_new F) (fun hL => ?_) (fun b hb => ?_)
    ⟨⟨_, Heap.get?_push_size _ rfl, rfl, rfl⟩, hl.at fun o e => Heap.get?_push_of_some _ e⟩ (F.push _) (fun p hp => ⟨Heap.get?_push_of_some _ (N p hp).1, (N p hp).2⟩) (fun p hp => Nat.ne_of_lt (Heap.lt_size (N p hp).1)) hj
    (fun i v m₁ news₁ h tk oI _ hP hJ o F₁ N₁ => turn i v m₁ news₁ h tk _ oI hP hJ o F₁ N₁) done
  · rcases List.mem_cons.mp hL with e | hL
    · exact absurd F.ns.lt (e ▸ Nat.lt_irrefl _)
    · exact (N _ hm).2.1 (List.mem_singleton.mp hL).symm
  · rcases List.mem_cons.mp hb with e | hb
    · exact .inl e
    · rw [List.mem_singleton.mp hb]; exact .inr (.inr ⟨ox, hJm⟩)

end

section
variable {prog : Program} {w : World} {A : Around} {s : Shared} {h₀ : Heap} {L : Addr} {m : Str → Option Value} {env : Env}
theorem rest_inv {elt : Expr} {x : Str} {scope : Scope} {cl : List (Str × Addr)} {S : List (Addr × Obj) → Prop} {P : Nat → Value → Prop} {Fin : List Value → List (Addr × Obj) → Prop} {n : Nat} {news : List (Addr × Obj)} (J : Nat → List Value → List (Addr × Obj) → Prop)
    (hj : J 0 [] news)
    (turn : ∀ i v ys news I oI C oC D m₂ h tk (E' : Value → Shared → Prop), i < n → P i v → J i ys news → LCg.NsObj oC m₂ → m₂ x = some v → Fr h₀ L h m → News h₀ L h ((I, oI) :: (C, oC) :: (D, LCg.lst ys) :: news) → LCg.Off3 I C D news → ((@Ne Nat I C) ∧ (@Ne Nat I D) ∧ (@Ne Nat C D)) →
      wpAny (model prog w) A (eval elt (compEnvC scope cl C env)) (LCg.CompEnd h₀ L m { s with heap := h, toks := tk } I oI C oC D (LCg.lst ys) S (fun y news' => J (i + 1) (ys ++ [y]) news')) E' { s with heap := h, toks := tk })
    (fin : ∀ ys news, J n ys news → Fin ys news) : LCg.CompRest prog w A h₀ L m env elt x scope cl s S P Fin n 0 [] news := by
  have key : ∀ (j i : Nat) (ys : List Value) (news : List (Addr × Obj)), i + j = n → J i ys news → LCg.CompRest prog w A h₀ L m env elt x scope cl s S P Fin j i ys news := by
    intro j
    induction j with
    | zero =>
      intro i ys news hi hJ
      exact fin ys news ((show i = n by omega) ▸ hJ)
    | succ j ih =>
      intro i ys news hi hJ
      refine LCg.CompRest.succ ?_
      intro v I oI C oC D m₂ h tk E' hv hC hx F N off ne
      refine wpAny_mono (turn i v ys news I oI C oC D m₂ h tk E' (by omega) hv hJ hC hx F N off ne) (fun y s' hq => ?_) fun _ _ e => e
      obtain ⟨h', tk', news', rfl, F', N', off', hS, hJ'⟩ := hq
      exact ⟨h', tk', news', rfl, F', N', off', hS, ih (i + 1) _ _ (by omega) hJ'⟩
  exact key n 0 [] news (by omega) hj

end
end

section
section
variable {prog : Program} {w : World} {A : Around} {E : Value → Shared → Prop} {s : Shared} {h₀ : Heap} {m : Str → Option Value} {env : Env}
end

def Froz (h₀ : Heap) (fz : List (Addr × Obj)) (P : Heap → Prop) : Prop := ∀ h, Grown h₀ h → (∀ p ∈ fz, h.get? p.1 = some p.2) → P h
theorem Froz.at {h₀ h : Heap} {L : Addr} {m : Str → Option Value} {fz news : List (Addr × Obj)} {P : Heap → Prop} (Z : Froz h₀ fz P) (F : Fr h₀ L h m) (N : News h₀ L h news) (sub : ∀ p ∈ fz, p ∈ news) : P h := Z h F.keep fun p hp => (N p (sub p hp)).1
theorem Froz.more {h₀ : Heap} {fz fz' : List (Addr × Obj)} {P : Heap → Prop} (Z : Froz h₀ fz P) (sub : ∀ p ∈ fz, p ∈ fz') : Froz h₀ fz' P := fun h k a => Z h k fun p hp => a p (sub p hp)
theorem rangesV_of {h : Heap} {l : Addr} {vs : List Value} {ps : List (Int × Int)} (hl : h.IsList l vs.toArray) (hp : PairsAre h vs ps) (hb : ps.length ≤ 1000) : RangesV h l vs ps := ⟨hl, hp.length, fun i p e => hp.get i p e, hb⟩
theorem isList_lst {h : Heap} {l : Addr} {vs : List Value} (e : h.get? l = some (LCg.lst vs)) : h.IsList l vs.toArray := ⟨_, e, rfl, _, rfl⟩
end

section
def newLn (g₀ : Heap) (ns : List Int) : Value → Heap → Prop := fun v h' => ∃ a ys n, v = .ref a ∧ h'.get? a = some (W.listOf (List.toArray ys) n) ∧ g₀.get? a = none ∧ IntsAre ys ns
theorem newLn.intro {g₀ h' : Heap} {ns : List Int} {L a : Addr} {ys : List Value} {n : Nat} {news : List (Addr × Obj)} (N : News g₀ L h' news) (hm : (a, W.listOf ys.toArray n) ∈ news) (hi : IntsAre ys ns) : newLn g₀ ns (.ref a) h' := ⟨a, ys, n, rfl, (N _ hm).1, (N _ hm).2.2, hi⟩
section
variable (prog : Program) (w : World) (K : Frag) (p : Program) (loose : List Str)
def ListFn (d u : Nat) (f : Addr) (args : List Value) (P : Heap → Prop) (ns : List Int) : Prop :=
  ∀ g₀, PureF prog w K p loose d u f args (fun h => h = g₀ ∧ P h) (newLn g₀ ns)
end
section
variable {prog : Program} {w : World} {K : Frag} {p : Program} {loose : List Str} {d u : Nat} {f : Addr} {args : List Value} {P : Heap → Prop} {ns : List Int}
theorem ListFn.use (S : ListFn prog w K p loose d u f args P ns) {A A₀ : Around} {mean : ExcName → Option Value} {mg mb : Str → Option Value} {env : Env} {outer : List Env} {base h₀ : Heap} {L : Addr} {m : Str → Option Value} {news : List (Addr × Obj)} {s : Shared} {Q E : Value → Shared → Prop}
    (B : Below A₀ base outer h₀) (F : Fr h₀ L s.heap m) (X : K.In h₀) (N : News h₀ L s.heap news) (T : Top p loose mean mg mb h₀) (hA : A.frames = some (env :: outer)) (hh : A.handled = none) (hd : A.depth ≤ d) (hu : A.units ≤ u)
    (hf : env.frame = some L) (hk : env.scope.kind = .function) (hp : P s.heap)
    (ret : ∀ a ys n h' tk, Grown s.heap h' → Fr h₀ L h' m → News h₀ L h' ((a, W.listOf (List.toArray ys) n) :: news) → IntsAre ys ns → (∀ p ∈ news, @Ne Nat p.1 a) → Q (.ref a) { s with heap := h', toks := tk }) :
    wpAny (model prog w) A (call (.ref f) args) Q E s := by
  refine PureF.use (S s.heap) B F X N T hA hh hd hu hf hk ⟨rfl, hp⟩ ?_
  rintro v h' tk G F' N' ⟨a, ys, n, rfl, h1, h2, hi⟩
  refine ret a ys n h' tk G F' (fun q hq => ?_) hi fun p hp z => by
    have q := (N p hp).1
    have z' : p.1 = a := z
    rw [z', h2] at q; cases q
  rcases List.mem_cons.mp hq with rfl | hq
  · refine ⟨h1, fun z => ?_, ?_⟩
    · have z' : a = L := z
      have := nsLt F
      rw [← z'] at this
      obtain ⟨oL, es, ep, e, _⟩ := F.ns
      rw [← z', h2] at e; cases e
    · cases q : h₀.get? a with
      | none => rfl
      | some o => rw [F.keep _ _ q] at h2; cases h2
  · exact N' q hq
end
end

section
def keysD (ks : List Int) : List (PyData × PyData) := ks.map fun k => (PyData.int k, PyData.bool true)
def DI (prog : Program) (w : World) (h : Heap) (a : Addr) (ks : List Int) : Prop := IntTab prog w h a (keysD ks)
theorem DI.grown {prog : Program} {w : World} {h h' : Heap} {a : Addr} {ks : List Int} (x : DI prog w h a ks) (k : Grown h h') : DI prog w h' a ks := PyProof.Rows.TabAt.keep x k
theorem lookup_keysD (c : Int) : ∀ ks : List Int, (lookup (.int c) (keysD ks)).isSome = decide (c ∈ ks)
  | [] => rfl
  | k :: r => by
    have ih := lookup_keysD c r
    have e : lookup (.int c) (keysD (k :: r)) = if Spec.same (.int k) (.int c) = true then some (PyData.bool true) else lookup (.int c) (keysD r) := rfl
    have es : Spec.same (.int k) (.int c) = decide (k = c) := by simp only [Spec.same]; rfl
    rw [e, es]
    by_cases h : k = c
    · simp [h]
    · have h' : ¬ c = k := fun e => h e.symm
      rw [decide_eq_false h, if_neg Bool.false_ne_true, ih]
      simp [h']
section
variable {prog : Program} {w : World} {A : Around} {E : Value → Shared → Prop} {s : Shared} {h₀ : Heap} {L : Addr} {m : Str → Option Value} {news : List (Addr × Obj)}
theorem in_DI {a : Addr} {ks : List Int} {c : Int} {t : Tok} {Q : Value → Shared → Prop} (D : DI prog w s.heap a ks) (h : ∀ tk, Q (.bool (decide (c ∈ ks))) { s with toks := tk }) :
    wpAny (model prog w) A (compareOp .In (.int c t) (.ref a)) Q E s := in_intTab D (by rw [lookup_keysD]; exact h _)

theorem sort_ints_N {B : Addr} {vs : List Value} {ns : List Int} {c : Nat} {Q : Value → Shared → Prop} (F : Fr h₀ L s.heap m) (N : News h₀ L s.heap ((B, W.listOf vs.toArray c) :: news)) (off : ∀ q ∈ news, @LT.lt Nat _ q.1 B) (hI : IntsAre vs ns) (h64 : vs.length < 64)
    (h : ∀ h' vs' ns' c', Fr h₀ L h' m → News h₀ L h' ((B, W.listOf (List.toArray vs') c') :: news) → IntsAre vs' ns' → ns'.Perm ns → ns'.Pairwise (· ≤ ·) → Q .none { s with heap := h' }) :
    wpAny (model prog w) A (call (.builtin "list.sort") [.ref B]) Q E s := by
  have z := N _ (.head _)
  refine wpAny_call_entry PyProof.Rows.slot_list_sort ⟨_, z.1, rfl⟩ PyProof.Rows.entry_list_sort (list_sort_tree (n := c) (vs := vs) z.1 hI h64 fun out ns' a1 a2 a3 => ⟨.none, rfl, ?_⟩) (PyProof.Rows.args_list_sort _)
  obtain ⟨e, he⟩ := sortedHeap_at (out := out) (show s.heap.get? B = some (seqObj "list" vs.toArray c) from z.1)
  have keep : ∀ b o, ¬ (b = B) → s.heap.get? b = some o → (sortedHeap s.heap B vs out).get? b = some o := fun b o hb q => (sortedHeap_old hb (Heap.lt_size q)).trans q
  have F' : Fr h₀ L (sortedHeap s.heap B vs out) m := frBut (P := fun b => b = B) F keep (fun e => z.2.1 e.symm) fun b o q e => by rw [e, z.2.2] at q; cases q
  refine h _ out.toList ns' e F' (fun q hq => ?_) a1 a2 a3
  rcases List.mem_cons.mp hq with rfl | hq
  · exact ⟨by rw [Array.toArray_toList]; exact he, z.2⟩
  · have y := N q (.tail _ hq)
    exact ⟨keep _ _ (Nat.ne_of_lt (off q hq)) y.1, y.2⟩

theorem sorted_DI {a : Addr} {ks : List Int} {Q : Value → Shared → Prop} (hh : A.handled = none) (F : Fr h₀ L s.heap m) (N : News h₀ L s.heap news) (D : DI prog w s.heap a ks) (h64 : ks.length < 64)
    (h : ∀ B h' tk vs ns c, Fr h₀ L h' m → News h₀ L h' ((B, W.listOf (List.toArray vs) c) :: news) → (∀ q ∈ news, @LT.lt Nat _ q.1 B) → IntsAre vs ns → ns.Perm ks → ns.Pairwise (· ≤ ·) → Q (.ref B) { s with heap := h', toks := tk }) :
    wpAny (model prog w) A (call (.builtin "sorted") [.ref a]) Q E s := by
  obtain ⟨lo, kvs, hD, hf⟩ := D
  obtain ⟨ep, hat⟩ := hD.dictAt
  have hlen : kvs.length = ks.length := by rw [← hf.length]; simp [keysD]
  refine kdu_sorted (kdl_dict (knd := intKind prog w) (kvs := kvs) (ep := ep) lo) hh F N hat (kdl_size (by omega)) fun B h' tk vs F' N' l1 hl hv => ?_
  have hI : IntsAre vs ks := by
    have key : ∀ (ks : List Int) (vs : List Value), vs.length = ks.length → (∀ (j : Nat) (u : Value), vs[j]? = some u → ∃ k t, ks[j]? = some k ∧ u = Value.int k t) → IntsAre vs ks := by
      intro ks
      induction ks with
      | nil => intro vs hl _; rw [List.eq_nil_of_length_eq_zero hl]; exact .nil
      | cons k r ih =>
        intro vs hl hv
        match vs, hl with
        | v :: vr, hl =>
          obtain ⟨k', t, e1, e2⟩ := hv 0 v rfl
          obtain rfl : k = k' := Option.some.inj e1
          subst e2
          exact .cons k t (ih vr (by simpa using hl) fun j u hu => by simpa using hv (j + 1) u (by simpa using hu))
    refine key ks vs (by omega) fun j u hu => ?_
    obtain ⟨k, x, hx, hk⟩ := hv j u hu
    obtain ⟨dv, hd, _⟩ := hf.at hx
    obtain ⟨t, rfl⟩ := PyProof.V.Flat.int_inv (kdl_flat_int hk)
    refine ⟨k, t, ?_, rfl⟩
    unfold keysD at hd
    rw [List.getElem?_map] at hd
    cases hj : ks[j]? with
    | none => rw [hj] at hd; cases hd
    | some k' =>
      rw [hj] at hd
      have e := congrArg Prod.fst (Option.some.inj hd)
      injection e with e
      rw [e]
  refine sort_ints_N (s := { s with heap := h', toks := tk }) F' N' l1 hI (by omega) fun h'' vs' ns' c' F'' N'' a1 a2 a3 => h B h'' tk vs' ns' c' F'' N'' l1 a1 a2 a3
end
end

section
abbrev kvs3 (a b c : Addr) : List (Str × Value) := [(Str.ofString "wide", .ref a), (Str.ofString "marks", .ref b), (Str.ofString "pictures", .ref c)]
def WAt (prog : Program) (w : World) (h : Heap) (wd : Addr) (W M J : List Int) : Prop :=
  ∃ ow a b c, h.get? wd = some ow ∧ ow.IsDictOf (strKind prog w) (kvs3 a b c) ∧ DI prog w h a W ∧ DI prog w h b M ∧ DI prog w h c J
theorem WAt.grown {prog : Program} {w : World} {h h' : Heap} {wd : Addr} {W M J : List Int} (x : WAt prog w h wd W M J) (k : Grown h h') : WAt prog w h' wd W M J := by
  obtain ⟨ow, a, b, c, e, d, x1, x2, x3⟩ := x
  exact ⟨ow, a, b, c, k _ _ e, d, x1.grown k, x2.grown k, x3.grown k⟩
def Agr (ps : List (Int × Int)) (ks : List Int) : Prop := ∀ c, holdsR ps c = decide (c ∈ ks)
section
variable {prog : Program} {w : World} {A : Around} {E : Value → Shared → Prop} {s : Shared} {h₀ : Heap} {L : Addr} {m : Str → Option Value} {news : List (Addr × Obj)}
theorem item_str0 {d : Addr} {o : Obj} {kvs : List (Str × Value)} {k : Str} {u : Tok} {v : Value} {value slice : Expr} {Q : Value → Shared → Prop} (F : Fr h₀ L s.heap m) (e : h₀.get? d = some o) (hd : o.IsDictOf (strKind prog w) kvs) (hl : valueAt kvs k = some v) (h : ∀ tk, Q v { s with toks := tk })
    (hs : subscripted slice false (.ref d) (.str k u) = operate [.ref d, .str k u] (getItem (.ref d) (.str k u)) := by with_unfolding_all rfl) (hg : ∀ r, letTemporaryGo value (.ref d) r = pure () := by intro _; with_unfolding_all rfl) :
    wpAny (model prog w) A (subscriptTail value slice (.ref d) (.str k u)) Q E s :=
  have hD : s.heap.DictOf (strKind prog w) d kvs := Heap.dictOf_iff.mpr ⟨o, F.keep _ _ e, hd⟩
  subscriptTail_builtin hD.typeIs slot_dict_getitem.lookup (wpAny_getItem_of (strKind_is _ _ _ _) hD.mapOf hl (h _)) hs hg
end
theorem widthR_0 {W M : List (Int × Int)} {M' : List Int} {c : Int} (hM : Agr M M') (h : c ∈ M') : widthR W M c = 0 := by rw [widthR, hM, if_pos (decide_eq_true h)]
theorem widthR_2 {W M : List (Int × Int)} {W' M' : List Int} {c : Int} (hM : Agr M M') (hW : Agr W W') (h : ¬ c ∈ M') (h2 : c ∈ W') : widthR W M c = 2 := by rw [widthR, hM, hW, decide_eq_false h, decide_eq_true h2]; rfl
theorem widthR_1 {W M : List (Int × Int)} {W' M' : List Int} {c : Int} (hM : Agr M M') (hW : Agr W W') (h : ¬ c ∈ M') (h2 : ¬ c ∈ W') : widthR W M c = 1 := by rw [widthR, hM, hW, decide_eq_false h, decide_eq_false h2]; rfl
end

section
section
variable {prog : Program} {w : World} {A : Around} {E : Value → Shared → Prop} {s : Shared} {h₀ : Heap} {L D : Addr} {m : Str → Option Value} {news news' : List (Addr × Obj)} {vs : List Value} {x y : Value} {n : Nat}
theorem set_last {u : Tok} {Q : Unit → Shared → Prop} (F : Fr h₀ L s.heap m) (N : News h₀ L s.heap news) (U : Upd D (W.listOf (vs ++ [x]).toArray n) (W.listOf (vs ++ [y]).toArray n) news news') (hb : vs.length ≤ 1000)
    (h : ∀ h', Fr h₀ L h' m → News h₀ L h' news' → Q () { s with heap := h' }) : wpAny (model prog w) A (setItem (.ref D) (.int (-1) u) y) Q E s := by
  obtain ⟨pre, post, rfl, rfl, a, b⟩ := U.split
  have z := N (D, W.listOf (vs ++ [x]).toArray n) (List.mem_append.mpr (.inr (.head _)))
  have ho := z.1
  have hl : s.heap.IsList D (vs ++ [x]).toArray := PySem.IsL.isList (n := n) ho
  have hsz : (vs ++ [x]).toArray.size = vs.length + 1 := by simp
  have hidx := seqIndex_neg (k := -1) (n := (vs ++ [x]).toArray.size) (by decide) (by rw [hsz]; omega)
  have hj : ((-1 : Int) + ((vs ++ [x]).toArray.size : Int)).toNat = vs.length := by rw [hsz]; omega
  rw [hj] at hidx
  have hx : (vs ++ [x]).toArray[vs.length]? = some x := by simp
  have hset : (vs ++ [x]).toArray.setIfInBounds vs.length y = (vs ++ [y]).toArray := by
    apply Array.toList_inj.mp
    simp
  have hQ := h _ (F.change (Heap.SameBut.update ..) z.2.1 z.2.2) (ki_turn (·.setIfInBounds vs.length y) (n' := n) N a b hset (by simp))
  unfold setItem
  try with_reducible refine wpAny_holding ?_
  first | refine wpAny_bind (wpAny_pure ?_) | skip
  refine wpAny_bind (wpAny_sequenceKey hl.typeIs (by decide) ?_)
  refine wpAny_bind (wpAny_callSpecial?_slot (name := Str.ofString "__setitem__") hl.typeIs slot_list_setitem
    (wpAny_call_entry slot_list_setitem hl.typeIs entry_list_setitem ?_ (args_list_setitem _ _ _)))
  show wpAny _ _ (Builtin.List.listSubscript? (.int (-1) u) >>= _) _ _ s
  refine wpAny_bind (wpAny_listSubscript_int (fitsIndex_neg (by decide) (by decide)) ?_)
  show wpAny _ _ ((Builtin.List.listItems (.ref D) >>= fun xs => pure ((seqIndex? (-1) xs.size).bind fun i => xs[i]?.map (i, ·))) >>= _) _ _ s
  refine wpAny_bind (wpAny_bind ?_)
  show wpAny _ _ (seqItems? (.ref D) >>= _) _ _ s
  refine wpAny_bind (wpAny_seqItems ho rfl (wpAny_pure (wpAny_pure ?_)))
  rw [hidx]
  simp only [Option.bind_some, hx, Option.map_some]
  show wpAny _ _ (setSeqItemAt D vs.length y >>= _) _ _ s
  refine wpAny_bind (wpAny_setSeqItemAt ho rfl ?_)
  first
    | exact wpAny_bind (wpAny_pure (wpAny_pure ⟨.none, rfl, wpAny_pure hQ⟩))
    | exact wpAny_pure ⟨.none, rfl, wpAny_pure hQ⟩
end
def tupO (p : Int × Int) (t u : Tok) : Obj := { cls := .type "tuple", data := .seq #[.int p.1 t, .int p.2 u] }
def PairIn (fz : List (Addr × Obj)) (p : Int × Int) (v : Value) : Prop := ∃ a t u, v = .ref a ∧ (a, tupO p t u) ∈ fz
theorem PairIn.more {fz fz' : List (Addr × Obj)} {p : Int × Int} {v : Value} (x : PairIn fz p v) (sub : ∀ q ∈ fz, q ∈ fz') : PairIn fz' p v := let ⟨a, t, u, e, m⟩ := x; ⟨a, t, u, e, sub _ m⟩
theorem pairsIn_at {h : Heap} {fz : List (Addr × Obj)} {vs : List Value} {ps : List (Int × Int)} (x : All2 (PairIn fz) vs ps) (a : ∀ p ∈ fz, h.get? p.1 = some p.2) : PairsAre h vs ps :=
  x.mono fun p v ⟨b, t, u, e, m⟩ => ⟨b, t, u, e, _, a _ m, rfl, _, rfl⟩
def Built (xs : List Int) (ps : List (Int × Int)) : Prop :=
  (∀ c, holdsR ps c = decide (c ∈ xs)) ∧ wrongAt (-1) 0 ps = none ∧ ∀ p, ps.getLast? = some p → xs.getLast? = some p.2
theorem holdsR_append (ps qs : List (Int × Int)) (c : Int) : holdsR (ps ++ qs) c = (holdsR ps c || holdsR qs c) := by simp [holdsR]
theorem wrongAt_snoc {ps : List (Int × Int)} {q : Int × Int} : ∀ {b : Int} {k : Nat}, wrongAt b k ps = none → (∀ p, ps.getLast? = some p → p.2 < q.1) → (ps = [] → b < q.1) → q.1 ≤ q.2 → wrongAt b k (ps ++ [q]) = none := by
  induction ps with
  | nil => intro b k _ _ h1 h2; simp [wrongAt, h1 rfl, h2]
  | cons p r ih =>
    intro b k h hl _ h2
    rw [List.cons_append]
    unfold wrongAt at h ⊢
    split at h
    · rename_i hp
      rw [if_pos hp]
      refine ih h (fun p' hp' => hl p' ?_) (fun hr => hl p (by rw [hr]; rfl)) h2
      cases r with
      | nil => cases hp'
      | cons x r => simpa [List.getLast?_cons_cons] using hp'
    · cases h
theorem wrongAt_last {ps : List (Int × Int)} {q q' : Int × Int} : ∀ {b : Int} {k : Nat}, wrongAt b k (ps ++ [q]) = none → q'.1 = q.1 → q.2 ≤ q'.2 → wrongAt b k (ps ++ [q']) = none := by
  induction ps with
  | nil =>
    intro b k h h1 h2
    simp only [List.nil_append, wrongAt] at h ⊢
    split at h
    · rename_i hp; rw [if_pos ⟨by omega, by omega⟩]
    · cases h
  | cons p r ih =>
    intro b k h h1 h2
    rw [List.cons_append] at h ⊢
    unfold wrongAt at h ⊢
    split at h
    · rename_i hp; rw [if_pos hp]; exact ih h h1 h2
    · cases h
theorem Built.nil : Built [] [] := ⟨fun c => by simp [holdsR], rfl, fun p h => by cases h⟩
theorem Built.snoc {xs : List Int} {ps : List (Int × Int)} {c : Int} (x : Built xs ps) (h0 : -1 < c) (hl : ∀ y, xs.getLast? = some y → y < c) : Built (xs ++ [c]) (ps ++ [(c, c)]) := by
  obtain ⟨x1, x2, x3⟩ := x
  refine ⟨fun d => ?_, wrongAt_snoc x2 (fun p hp => hl _ (x3 p hp)) (fun _ => h0) (Int.le_refl _), fun p hp => ?_⟩
  · rw [holdsR_append, x1 d, Bool.eq_iff_iff]
    simp [holdsR]
    constructor
    · rintro (h | h)
      · exact .inl h
      · exact .inr (by omega)
    · rintro (h | h)
      · exact .inl h
      · exact .inr (by omega)
  · simp at hp ⊢
    rw [← hp]
theorem Built.join {xs : List Int} {ps : List (Int × Int)} {a b c : Int} (x : Built xs (ps ++ [(a, b)])) (hc : b = c - 1) : Built (xs ++ [c]) (ps ++ [(a, c)]) := by
  obtain ⟨x1, x2, x3⟩ := x
  have hab : a ≤ b := by
    have := (wrongAt_none x2 ps.length (by simp)).2.1
    simpa using this
  refine ⟨fun d => ?_, wrongAt_last x2 rfl (by show b ≤ c; omega), fun p hp => by simp at hp ⊢; rw [← hp]⟩
  have e := x1 d
  rw [holdsR_append] at e ⊢
  rw [Bool.eq_iff_iff] at e ⊢
  simp [holdsR] at e ⊢
  constructor
  · rintro (h | h)
    · exact .inl (e.mp (.inl h))
    · by_cases hd : d = c
      · exact .inr hd
      · exact .inl (e.mp (.inr ⟨h.1, by omega⟩))
  · rintro (h | h)
    · rcases e.mpr h with h | h
      · exact .inl h
      · exact .inr ⟨h.1, by omega⟩
    · exact .inr ⟨by omega, by omega⟩
end

section
set_option maxHeartbeats 2000000
section
variable {prog : Program} {w : World} {A : Around} {E : Value → Shared → Prop} {s : Shared} {h₀ : Heap} {L : Addr} {m : Str → Option Value} {env : Env}
theorem compLoop_pt {elt target iter c : Expr} {scope : Scope} {pos : Pos} {it acc : Value} {env : Env} {R : Result → Shared → Prop} (I : Nat → Shared → Prop)
    (turn : ∀ n s, I n s → wpAny (model prog w) A (pyNext it) (fun r s₁ => match r with
      | none => R (.ok .next) s₁
      | some v => wpAny (model prog w) A (letOwnedTupleGo target it v) (fun _ s₁' => wpAny (model prog w) A (assign target env v) (fun _ s₂ =>
          wpAny (model prog w) A (isTrue c env (eval c env)) (fun ok s₃ => if ok = true then
            wpAny (model prog w) A (eval elt env) (fun x s₄ => wpAny (model prog w) A (call (.builtin "list.append") [acc, x]) (fun _ s₅ => ∃ m, m < n ∧ I m s₅) (notedBy (model prog w) A env fun e s' => R (.error e) s') s₄) (notedBy (model prog w) A env fun e s' => R (.error e) s') s₃
            else ∃ m, m < n ∧ I m s₃) (notedBy (model prog w) A env fun e s' => R (.error e) s') s₂)
          (notedBy (model prog w) A env fun e s' => R (.error e) s') s₁') (notedBy (model prog w) A env fun e s' => R (.error e) s') s₁) (notedBy (model prog w) A env fun e s' => R (.error e) s') s)
    (n : Nat) (h : I n s) : codeAny (model prog w) A (.compLoop (.ListComp elt [⟨target, iter, [c], 0⟩] scope pos) 0 it acc env) R s := by
  refine codeAny_loop rfl I (fun n s hI => ?_) n h
  show wpAny _ A ((compTurn (.ListComp elt [⟨target, iter, [c], 0⟩] scope pos) 0 it acc env).onRaise (fun x => do noteFrame x env; theTreesLotGoes x)) _ _ s
  refine wpAny_noted ?_
  rw [compTurn_list]
  refine wpAny_bind (wpAny_standAt (wpAny_bind (wpAny_mono (turn n s hI) (fun r s₁ h₁ => ?_) fun _ _ z => z)))
  cases r with
  | none => exact wpAny_pure h₁
  | some v =>
    refine wpAny_bind (wpAny_mono h₁ (fun _ s₁' h₁' => ?_) fun _ _ z => z)
    refine wpAny_bind (wpAny_mono h₁' (fun _ s₂ h₂ => wpAny_bind (wpAny_mono (wpAny_tests_one h₂) (fun ok s₃ h₃ => ?_) fun _ _ z => z)) fun _ _ z => z)
    cases ok with
    | false => exact wpAny_pure ⟨rfl, h₃⟩
    | true => exact wpAny_bind (wpAny_bind (wpAny_mono h₃ (fun x s₄ h₄ => wpAny_bind (wpAny_mono h₄ (fun _ s₅ h₅ => wpAny_pure (wpAny_pure ⟨rfl, h₅⟩)) fun _ _ z => z)) fun _ _ z => z))

def PairTest (prog : Program) (w : World) (A : Around) (h₀ : Heap) (L : Addr) (m : Str → Option Value) (env : Env) (ct elt : Expr) (x x₂ : Str) (scope : Scope) (cl : List (Str × Addr)) (Q : Value → Shared → Prop) (xv : Value) (s₁ : Shared) : Prop :=
  ∃ ax its k news, ∃ J : Nat → List Value → List (Addr × Obj) → Prop, xv = .ref ax ∧ A.handled = none ∧ Fr h₀ L s₁.heap m ∧ News h₀ L s₁.heap news ∧ its.size ≤ sizeLine ∧ J 0 [] news ∧
    (∀ i ys nw, J i ys nw → (ax, W.listOf its k) ∈ nw ∧ ys.length ≤ i) ∧
    (∀ i v ys nw, its[i]? = some v → J i ys nw → ∃ (t : Addr) (ot : Obj) (v₁ v₂ : Value) (nt : Nat), v = .ref t ∧ (t, ot) ∈ nw ∧ ot.cls = .type "tuple" ∧ ot.data = .seq #[v₁, v₂] nt ∧
      ∀ I oI C oC D m₂ h tk (E' : Value → Shared → Prop), LCg.NsObj oC m₂ → m₂ x = some v₁ → m₂ x₂ = some v₂ → Fr h₀ L h m → News h₀ L h ((I, oI) :: (C, oC) :: (D, LCg.lst ys) :: nw) → LCg.Off3 I C D nw → ((@Ne Nat I C) ∧ (@Ne Nat I D) ∧ (@Ne Nat C D)) →
        wpAny (model prog w) A (isTrue ct (compEnvC scope cl C env) (eval ct (compEnvC scope cl C env))) (fun ok s' => if ok = true then
          wpAny (model prog w) A (eval elt (compEnvC scope cl C env)) (LCg.CompEnd h₀ L m { s₁ with heap := h, toks := tk } I oI C oC D (LCg.lst ys) (fun _ => True) (fun y nw' => J (i + 1) (ys ++ [y]) nw')) E' s'
          else LCg.CompEnd h₀ L m { s₁ with heap := h, toks := tk } I oI C oC D (LCg.lst ys) (fun _ => True) (fun _ nw' => J (i + 1) ys nw') Value.none s') E' { s₁ with heap := h, toks := tk }) ∧
    ∀ ys nw, J its.size ys nw → LCg.FinE h₀ L m s₁ Q ys nw

theorem newsBut1 {h h' : Heap} {I : Addr} {news : List (Addr × Obj)} (N : News h₀ L h news) (k : ∀ b o, b ≠ I → h.get? b = some o → h'.get? b = some o) (off : ∀ p ∈ news, p.1 ≠ I) : News h₀ L h' news :=
  fun p hp => ⟨k _ _ (off p hp) (N p hp).1, (N p hp).2⟩
theorem ListComp_pt {ct elt iter : Expr} {x x₂ : Str} {px px₂ tp : Pos} {tk : Nat} {scope : Scope} {cl : List (Str × Addr)} {pos : Pos} {Q : Value → Shared → Prop}
    (hclos : closureFor scope env = pure cl) (hcell : ∀ y ∈ scope.names, y.2 ≠ .cell) (hkind : scope.kind = .function)
    (hnames : ∀ y ∈ scope.names, y.2 = .local → scope.names.lookup y.1 = some .local) (hx : scope.names.lookup x = some .local) (hx₂ : scope.names.lookup x₂ = some .local) (hxx : x ≠ x₂)
    (h : wpAny (model prog w) A (eval iter env) (PairTest prog w A h₀ L m env ct elt x x₂ scope cl Q) E s)
    (hs : ∀ x, foldedSetIterable iter env x = pure x := by intro _; rfl) :
    wpAny (model prog w) A (eval (.ListComp elt [⟨.Tuple [.Name x px, .Name x₂ px₂] tk tp, iter, [ct], 0⟩] scope pos) env) Q E s := by
  rw [eval_ListComp]
  refine wpAny_comprehension_free (use := none) rfl hs hclos hkind hnames (wpAny_mono h (fun xv s₁ h₁ => ?_) fun _ _ e => e)
  obtain ⟨ax, its, kk, news, J, rfl, hh, F, N, hsz, hj, hJ, turn, fin⟩ := h₁
  have hl : s₁.heap.IsList ax its := PySem.IsL.isList (n := kk) (N _ (hJ _ _ _ hj).1).1
  have hlt : @LT.lt Nat _ ax s₁.heap.objs.size := by obtain ⟨_, e, _⟩ := hl; exact ltS e
  refine wpAny_pyIter_list hl ?_
  generalize hI : s₁.heap.objs.size = I at hlt
  generalize hH1 : s₁.heap.push { cls := .type "list_iterator", data := .fields #[.ref ax, .int 0 0] } = H1
  have hs1 : H1.objs.size = I + 1 := by rw [← hH1, Heap.size_push, hI]
  have up1 : Grown s₁.heap H1 := fun b o e => hH1 ▸ Heap.get?_push_of_some _ e
  have W := Walks.list (prog := prog) (w := w) hh I ax (Nat.ne_of_lt hlt) its
  have hst0 : H1.IsListIter I ax 0 ∧ H1.IsList ax its := ⟨⟨_, by rw [← hH1, ← hI]; exact Heap.get?_push_size _ rfl, rfl, rfl⟩, isList_grown hl up1⟩
  refine wpAny_newObj_type (wpAny_newFunctionEnv hcell (by intro y hy; simp at hy) (fun h₁ hns₁ hsb₁ => ?_) hkind)
  dsimp only at hns₁ hsb₁ ⊢
  generalize hH2 : H1.push { cls := .type "list", dict := none, data := .seq ([] : List Value).toArray } = H2 at hns₁ hsb₁ ⊢
  have hs2 : H2.objs.size = I + 2 := by rw [← hH2, Heap.size_push, hs1]
  have hDs : H1.objs.size = I + 1 := hs1
  generalize hD : H1.objs.size = D at *
  generalize hC : H2.objs.size = C at *
  have lID : @LT.lt Nat _ I D := Nat.lt_of_lt_of_eq (Nat.lt_succ_self I) hDs.symm
  have lDC : @LT.lt Nat _ D C := by rw [hs2, hDs]; exact Nat.lt_succ_self _
  have lIC : @LT.lt Nat _ I C := Nat.lt_trans lID lDC
  have hID : @Ne Nat I D := Nat.ne_of_lt lID
  have hIC : @Ne Nat I C := Nat.ne_of_lt lIC
  have hDC : @Ne Nat D C := Nat.ne_of_lt lDC
  have up2 : Grown H1 H2 := fun b o e => hH2 ▸ Heap.get?_push_of_some _ e
  have old : Grown s₁.heap h₁ := fun b o e => hsb₁.extBut b o (neA (Nat.ne_of_lt (Nat.lt_trans (Nat.lt_of_lt_of_eq (ltS e) hI) lIC))) (Heap.get?_push_of_some _ (up2 _ _ (up1 _ _ e)))
  have old1 : Grown H1 h₁ := fun b o e => hsb₁.extBut b o (neA (Nat.ne_of_lt (Nat.lt_trans (Nat.lt_of_lt_of_eq (ltS e) hD) lDC))) (Heap.get?_push_of_some _ (up2 _ _ e))
  have hacc : h₁.get? D = some (LCg.lst []) := hsb₁.extBut _ _ (neA hDC) (Heap.get?_push_of_some _ (by rw [← hH2, ← hD]; exact Heap.get?_push_size _ rfl))
  have none0 : ∀ b : Addr, @LE.le Nat _ I b → h₀.get? b = none := fun b hb => by
    cases q : h₀.get? b with
    | none => rfl
    | some o => exact absurd (Nat.lt_of_lt_of_eq (ltS (F.keep b o q)) hI) (Nat.not_lt_of_le hb)
  have hI0 := none0 I (Nat.le_refl _)
  have hD0 := none0 D (Nat.le_of_lt lID)
  have hC0 := none0 C (Nat.le_of_lt lIC)
  have hLI : @LT.lt Nat _ L I := Nat.lt_of_lt_of_eq (nsLt F) hI
  have lt0 : ∀ p ∈ news, @LT.lt Nat _ p.1 I := fun p hp => Nat.lt_of_lt_of_eq (ltS (N p hp).1) hI
  have off0 : LCg.Off3 I C D news := LCg.Off3.of fun p hp => ⟨neA (Nat.ne_of_lt (lt0 p hp)), neA (Nat.ne_of_lt (Nat.lt_trans (lt0 p hp) lIC)), neA (Nat.ne_of_lt (Nat.lt_trans (lt0 p hp) lID))⟩
  have hCL : @Ne Nat C L := Nat.ne_of_gt (Nat.lt_trans hLI lIC)
  have hDL : @Ne Nat D L := Nat.ne_of_gt (Nat.lt_trans hLI lID)
  have hIL : @Ne Nat I L := Nat.ne_of_gt hLI
  have loop : ∀ s₃ : Shared, s₃ = { s₁ with heap := h₁, toks := s₁.toks + ([] : List (Str × Value)).length } →
      codeAny (model prog w) A (.compLoop (.ListComp elt [⟨.Tuple [.Name x px, .Name x₂ px₂] tk tp, iter, [ct], 0⟩] scope pos) 0 (.ref I) (.ref D) (compEnvC scope cl C env))
        (fun r s' => compPost (model prog w) A E none Q (.ref D) C r s') s₃ := by
    rintro s₃ rfl
    refine compLoop_pt (fun n s' => ∃ h' tk i ys m' nw, s' = { s₁ with heap := h', toks := tk } ∧ i ≤ its.size ∧ n = its.size + 1 - i ∧ h'.IsListIter I ax i ∧ Fr h₀ L h' m ∧ h'.Ns C m' ∧ News h₀ L h' ((D, LCg.lst ys) :: nw) ∧ LCg.Off3 I C D nw ∧ J i ys nw)
      ?_ (its.size + 1) ⟨h₁, _, 0, [], _, news, rfl, Nat.zero_le _, rfl, ?_, F.keeps old, hns₁, ?_, off0, hj⟩
    · rintro n s' ⟨h', tk', i, ys, m', nw, rfl, hi, rfl, hit, F', hn', N', off', hj'⟩
      have hax := (hJ _ _ _ hj').1
      have hls : h'.IsList ax its := PySem.IsL.isList (n := kk) (N' _ (.tail _ hax)).1
      have om := off'.mem
      have offI : ∀ p ∈ (D, LCg.lst ys) :: nw, p.1 ≠ I := fun p hp => by
        rcases List.mem_cons.mp hp with rfl | hp
        · exact Ne.symm hID
        · exact (om p hp).1
      by_cases hlt' : i < its.size
      · refine W.item i _ _ _ hlt' ⟨hit, hls⟩ fun v h₂ tk₂ hv hst₂ hk₂ => ?_
        have k2 : ∀ b o, b ≠ I → h'.get? b = some o → h₂.get? b = some o := fun b o hb e => hk₂ b o (by simpa using hb) e
        have N₂ := newsBut1 N' k2 offI
        have F₂ : Fr h₀ L h₂ m := frBut (P := fun b => b = I) F' k2 (neA (Ne.symm hIL)) fun b o q e => by rw [e, hI0] at q; cases q
        obtain ⟨t, ot, v₁, v₂, nt, rfl, hmt, hct, hdt, body⟩ := turn i v ys nw hv hj'
        have ht : IsTup h₂ t #[v₁, v₂] := ⟨ot, (N₂ _ (.tail _ hmt)).1, hct, nt, hdt⟩
        refine wpAny_letOwnedTupleGo_listiter hst₂.1 ?_
        refine assign_Tuple_tuple hh ht rfl rfl fun h₅ he => ?_
        have hdec : its.size + 1 - (i + 1) < its.size + 1 - i := Nat.sub_lt_sub_left (Nat.lt_succ_of_lt hlt') (Nat.lt_succ_self i)
        have k5 : Grown h₂ h₅ := fun b o e => he b o (Nat.ne_of_lt (Heap.lt_size e)) e
        have hns5 : h₅.Ns C m' := (hn'.at' fun o e => k2 _ o (Ne.symm hIC) e).at' fun o e => k5 _ o e
        refine assignInOrder_cons (wpAny_assign_Name (wpAny_storeName_local (lookup_relabel_local hx) hns5 (fun h₆ hn₆ hs₆ => ?_) (by simp [compEnvC, relabel, hkind])))
        refine assignInOrder_cons (wpAny_assign_Name (wpAny_storeName_local (lookup_relabel_local hx₂) hn₆ (fun h₇ hn₇ hs₇ => ?_) (by simp [compEnvC, relabel, hkind])))
        refine assignInOrder_nil ?_
        have k7 : ∀ b o, b ≠ C → h₂.get? b = some o → h₇.get? b = some o := fun b o hb e => hs₇.extBut b o hb (hs₆.extBut b o hb (k5 b o e))
        have hst₇ : h₇.IsListIter I ax (i + 1) := hst₂.1.at fun o e => k7 _ o hIC e
        obtain ⟨oI, heI, hIc, hId⟩ := id hst₇
        obtain ⟨oC, heC, hoC⟩ := LCg.ns_obj hn₇
        have F₇ : Fr h₀ L h₇ m := ((F₂.keeps k5).change hs₆ hCL hC0).change hs₇ hCL hC0
        have N₇ : News h₀ L h₇ ((I, oI) :: (C, oC) :: (D, LCg.lst ys) :: nw) := fun p hp => by
          rcases List.mem_cons.mp hp with rfl | hp
          · exact ⟨heI, neA hIL, hI0⟩
          · rcases List.mem_cons.mp hp with rfl | hp
            · exact ⟨heC, neA hCL, hC0⟩
            · have z := N₂ p hp
              refine ⟨k7 _ _ ?_ z.1, z.2⟩
              rcases List.mem_cons.mp hp with rfl | hp
              · exact hDC
              · exact (om p hp).2.1
        refine wpAny_mono (body I oI C oC D _ h₇ _ _ hoC (by simp [hxx]) (by simp) F₇ N₇ off' ⟨hIC, hID, Ne.symm hDC⟩) (fun ok s₄ h₄ => ?_) fun _ _ e => e
        cases ok with
        | false =>
          simp only [Bool.false_eq_true, if_false] at h₄ ⊢
          obtain ⟨h₈, tk₈, nw₈, rfl, F₈, N₈, off₈, -, hj₈⟩ := h₄
          refine ⟨its.size + 1 - (i + 1), hdec, h₈, tk₈, i + 1, ys, _, nw₈, rfl, hlt', rfl, ⟨oI, (N₈ _ (.head _)).1, hIc, hId⟩, F₈, hoC.ns (N₈ _ (.tail _ (.head _))).1, fun p hp => N₈ p (.tail _ (.tail _ hp)), off₈, hj₈⟩
        | true =>
          simp only [if_true] at h₄ ⊢
          refine wpAny_mono h₄ (fun y s₅ h₅' => ?_) fun _ _ e => e
          obtain ⟨h₈, tk₈, nw₈, rfl, F₈, N₈, off₈, -, hj₈⟩ := h₅'
          have hyl := (hJ _ _ _ hj').2
          refine append_at (hsz := by show ys.toArray.size ≤ sizeLine; rw [List.size_toArray]; exact Nat.le_trans (Nat.le_trans hyl hi) hsz) (N₈ _ (.tail _ (.tail _ (.head _)))).1 fun h₉ hs₉ hD₉ => ?_
          have om8 := off₈.mem
          refine ⟨its.size + 1 - (i + 1), hdec, h₉, tk₈, i + 1, ys ++ [y], _, nw₈, rfl, hlt', rfl, ⟨oI, hs₉.extBut _ _ hID (N₈ _ (.head _)).1, hIc, hId⟩, F₈.change hs₉ hDL hD0, (hoC.ns (N₈ _ (.tail _ (.head _))).1).sameBut hs₉ (Ne.symm hDC), fun p hp => ?_, off₈, hj₈⟩
          rcases List.mem_cons.mp hp with rfl | hp
          · exact ⟨hD₉.trans (congrArg some (LCg.lst_snoc ys y)), neA hDL, hD0⟩
          · have z := N₈ p (.tail _ (.tail _ (.tail _ hp)))
            exact ⟨hs₉.extBut _ _ (om8 p hp).2.2 z.1, z.2⟩
      · obtain rfl : i = its.size := Nat.le_antisymm hi (Nat.not_lt.mp hlt')
        refine W.done _ _ _ ⟨hit, hls⟩ fun h₂ tk₂ hk₂ => ?_
        have k2 : ∀ b o, b ≠ I → h'.get? b = some o → h₂.get? b = some o := fun b o hb e => hk₂ b o (by simpa using hb) e
        have F₂ : Fr h₀ L h₂ m := frBut (P := fun b => b = I) F' k2 (neA (Ne.symm hIL)) fun b o q e => by rw [e, hI0] at q; cases q
        have N₂ := newsBut1 N' k2 offI
        refine ⟨m', hn'.at' fun o e => k2 _ o (Ne.symm hIC) e, fun h'' hs'' => fin ys nw hj' D h'' tk₂ (F₂.change hs'' (neA hCL) hC0) (fun p hp => ?_) off'.one⟩
        refine ⟨hs''.extBut _ _ ?_ (N₂ p hp).1, (N₂ p hp).2⟩
        rcases List.mem_cons.mp hp with rfl | hp
        · exact hDC
        · exact (om p hp).2.1
    · exact hst0.1.at fun o e => old1 _ _ e
    · intro p hp
      rcases List.mem_cons.mp hp with rfl | hp
      · exact ⟨hacc, neA hDL, hD0⟩
      · exact ⟨old _ _ (N p hp).1, (N p hp).2⟩
  exact codeAny_compStart_list (loop _ rfl) (W.self 0 _ _ _ ⟨hst0.1.at fun o e => old1 _ _ e, isList_grown hst0.2 old1⟩ (loop _ rfl))
end
end

section
set_option maxHeartbeats 1000000
section
variable (prog : Program) (w : World) (K : Frag) (p : Program) (loose : List Str)
def CatchG (d u : Nat) (f : Addr) (args : List Value) (P : Heap → Prop) (r : Value → Prop) : Prop :=
  ∀ (mean : ExcName → Option Value) (mg mb : Str → Option Value) (envs : List Env) (base : Heap) (s : Shared) (Q E : Value → Shared → Prop),
    Below (nomA d u envs) base envs s.heap → K.In base → Top p loose mean mg mb base → P (hid s.heap envs) →
    (∀ v h' tk, (hid s.heap envs).StaysIn h' → s.heap.UpToSlots h' → r v → Q v { s with heap := h', toks := tk }) →
    wpAny (model prog w) (nomA d u envs) (call (.ref f) args) Q E s
def CatchGEnd (g : Heap) (envs : List Env) (r : Value → Prop) (s : Shared) (f : Flow) (s' : Shared) : Prop :=
  ∃ h' tk, s' = { s with heap := h', toks := tk } ∧ (hid g envs).StaysIn h' ∧ g.UpToSlots h' ∧ r (match f with | .ret v => v | _ => .none)
def CatchGBody (d u : Nat) (f : Addr) (qual : Str) (scope : Scope) (cdv : Value) (body : List Stmt) (binds : List (Str × Value)) (P : Heap → Prop) (r : Value → Prop) : Prop :=
  ∀ (mean : ExcName → Option Value) (mg mb : Str → Option Value) (envs : List Env) (base g : Heap) (L : Addr) (s : Shared) (E : Value → Shared → Prop),
    Below (nomA d u envs) base envs g → Fr g L s.heap (fun y => binds.reverse.lookup y) → News g L s.heap [] → K.In base → Top p loose mean mg mb base → K.In g → Top p loose mean mg mb g → P (hid g envs) →
    wpAny (model prog w) ((nomA d u envs).deeper (envOf qual scope L f cdv)) (execs body (envOf qual scope L f cdv)) (CatchGEnd g envs r s)
      (fun e s' => wpAny (model prog w) ((nomA d u envs).deeper (envOf qual scope L f cdv)) (leaving (envOf qual scope L f cdv) e) (fun _ s'' => E e s'') (fun e' s'' => E e' s'') s') s
end
theorem CatchGEnd.intro1 {g : Heap} {envs : List Env} {r : Value → Prop} {s : Shared} {f : Flow} {h' : Heap} {tk : Nat} {L : Addr} {m : Str → Option Value} (F : Fr g L h' m) (hr : r (match f with | .ret v => v | _ => .none)) :
    CatchGEnd g envs r s f { s with heap := h', toks := tk } := ⟨h', tk, rfl, fun b o q => F.keep b o (hid_some q).1, Heap.UpToSlots.of_keeps F.keep, hr⟩
def FramesIn (g : Heap) (l : List Addr) (fr : List (Addr × Obj)) : Prop := ∀ b ∈ l, ∃ o sl, g.get? b = some o ∧ (b, { o with slots := sl }) ∈ fr
theorem frames_led {g h2 G : Heap} {L : Addr} (hu : g.UpToSlots h2) : ∀ (l : List Addr), (∀ b ∈ l, ∃ o, g.get? b = some o ∧ ∀ vs, o.data ≠ .fields vs) → (∀ b ∈ l, b ≠ L) → (∀ b ∈ l, G.get? b = none) → ∃ fr, News G L h2 fr ∧ FramesIn g l fr
  | [], _, _, _ => ⟨[], News.nil, fun _ h => nomatch h⟩
  | b :: r, h1, h2', h3 => by
    obtain ⟨fr, N, I⟩ := frames_led hu r (fun c hc => h1 c (.tail _ hc)) (fun c hc => h2' c (.tail _ hc)) (fun c hc => h3 c (.tail _ hc))
    obtain ⟨o, ho, hnf⟩ := h1 b (.head _)
    obtain ⟨sl, hsl⟩ := hu b o ho hnf
    refine ⟨(b, { o with slots := sl }) :: fr, fun q hq => ?_, fun c hc => ?_⟩
    · rcases List.mem_cons.mp hq with rfl | hq
      · exact ⟨hsl, h2' b (.head _), h3 b (.head _)⟩
      · exact N q hq
    · rcases List.mem_cons.mp hc with rfl | hc
      · exact ⟨o, sl, ho, .head _⟩
      · obtain ⟨o', sl', e, m⟩ := I c hc
        exact ⟨o', sl', e, .tail _ m⟩
theorem CatchGEnd.intro2 {g : Heap} {envs : List Env} {r : Value → Prop} {s : Shared} {f : Flow} {h' : Heap} {tk : Nat} {L : Addr} {m : Str → Option Value} {news fr : List (Addr × Obj)} (F : Fr (hid g envs) L h' m) (N : News (hid g envs) L h' news)
    (I : FramesIn g (frs envs) fr) (sub : ∀ p ∈ fr, p ∈ news) (hr : r (match f with | .ret v => v | _ => .none)) : CatchGEnd g envs r s f { s with heap := h', toks := tk } := by
  refine ⟨h', tk, rfl, F.keep, fun b ob q hnf => ?_, hr⟩
  by_cases hb : b ∈ frs envs
  · obtain ⟨o, sl, e, hm⟩ := I b hb
    obtain rfl : o = ob := Option.some.inj (e.symm.trans q)
    exact ⟨sl, (N _ (sub _ hm)).1⟩
  · exact ⟨ob.slots, F.keep b ob (hideAll_get _ q hb)⟩
section
variable {prog : Program} {w : World} {K : Frag} {p : Program} {loose : List Str} {d u : Nat} {f : Addr} {args : List Value} {P : Heap → Prop} {r : Value → Prop}
theorem CatchG.enter {name qual : Str} {params : Arguments} {body : List Stmt} {scope : Scope} {dV kV doc pm cdv ct oc : Value} {an od : Option Addr} {osl : Array (Option Value)} {binds : List (Str × Value)}
    (ho : K.lookup f = some ⟨oc, od, .func (fnOf name qual params body scope dV kV doc pm an cdv ct), osl⟩) (hcd : codeIn K cdv qual = true) (hroom : d < recursionLimit)
    (hbind : bindArgs (fnOf name qual params body scope dV kV doc pm an cdv ct) ⟨args, []⟩ = pure binds) (hloc : ∀ y ∈ binds, scope.names.lookup y.1 = some .local)
    (hco : scope.isCoroutine = false) (hgen : scope.isGenerator = false) (hk : scope.kind = .function) (hcell : ∀ x ∈ scope.names, x.2 ≠ .cell)
    (h : CatchGBody prog w K p loose d u f qual scope cdv body binds P r) : CatchG prog w K p loose d u f args P r := by
  intro mean mg mb envs base s Q E B X T hp hq
  have Xs : K.In s.heap := X.keeps B.stays
  have Ts : Top p loose mean mg mb s.heap := T.keeps B.stays
  refine wpAny_call (codeAny_call_def (fd := fnX name qual params body scope [] dV kV doc pm an cdv ct) (body := body) (binds := binds) hroom (Xs _ _ ho) rfl Ts.nolimit (codeRec_of Xs hcd) rfl (.of_eq hbind) hcell hloc (fun h₁ hns hk₁ => ?_) hco hgen hk)
  have F₁ : Fr s.heap s.heap.objs.size h₁ (fun y => binds.reverse.lookup y) := ⟨hns, fun b o e => hk₁ b o e, Nat.le_refl _⟩
  refine wpAny_mono (h mean mg mb envs base s.heap s.heap.objs.size { s with heap := h₁, toks := s.toks + binds.length } E B F₁ News.nil X T Xs Ts hp) (fun fl s' he => ?_) fun _ _ y => y
  obtain ⟨h', tk, rfl, a, b, c⟩ := he
  exact hq _ h' tk a b c
end
end

section
set_option maxHeartbeats 1000000
def LastEnd (base : Heap) (v : Value) (s : Shared) (f : Flow) (s' : Shared) : Prop := ∃ h' tk, s' = { s with heap := h', toks := tk } ∧ base.StaysIn h' ∧ (match f with | .ret v => v | _ => .none) = v
theorem LastEnd.intro {base G : Heap} {v : Value} {s : Shared} {f : Flow} {h' : Heap} {tk : Nat} {L : Addr} {m : Str → Option Value} (hb : base.StaysIn G) (F : Fr G L h' m) (hv : (match f with | .ret v => v | _ => .none) = v) : LastEnd base v s f { s with heap := h', toks := tk } :=
  ⟨h', tk, rfl, fun b o e => F.keep b o (hb b o e), hv⟩
section
variable (prog : Program) (w : World) (K : Frag) (p : Program) (loose : List Str)
def LastF (d u : Nat) (f : Addr) (args : List Value) (own : List (Addr × Obj)) (v : Value) : Prop :=
  ∀ (mean : ExcName → Option Value) (mg mb : Str → Option Value) (envs : List Env) (base : Heap) (s : Shared) (Q E : Value → Shared → Prop),
    Below (nomA d u envs) base envs (hideAll s.heap (adrs own)) → K.In base → Top p loose mean mg mb base → (∀ q ∈ own, s.heap.get? q.1 = some q.2) →
    (∀ h' tk, base.StaysIn h' → Q v { s with heap := h', toks := tk }) → wpAny (model prog w) (nomA d u envs) (call (.ref f) args) Q E s
def LastBodyC (d u : Nat) (f : Addr) (qual : Str) (scope : Scope) (cdv : Value) (body : List Stmt) (binds : List (Str × Value)) (own : List (Addr × Obj)) (v : Value) : Prop :=
  ∀ (mean : ExcName → Option Value) (mg mb : Str → Option Value) (outer : List Env) (base g : Heap) (L : Addr) (s : Shared) (cells : List (Addr × Obj)) (E : Value → Shared → Prop),
    Below (nomA d u outer) base outer g → Fr g L s.heap (bindL (envOfC qual scope L f cdv).kindOf binds fun _ => none) → News g L s.heap (own ++ cells) → (∀ q ∈ own, q.1 < L) →
    CellsAre (bindC (envOfC qual scope L f cdv).kindOf binds fun _ => none) (cellsFrom (L + 1) scope.names []) cells → K.In base → Top p loose mean mg mb base → K.In g → Top p loose mean mg mb g →
    wpAny (model prog w) ((nomA d u outer).deeper (envOfC qual scope L f cdv)) (execs body (envOfC qual scope L f cdv)) (LastEnd base v s)
      (fun e s' => wpAny (model prog w) ((nomA d u outer).deeper (envOfC qual scope L f cdv)) (leaving (envOfC qual scope L f cdv) e) (fun _ s'' => E e s'') (fun e' s'' => E e' s'') s') s
end
section
variable {prog : Program} {w : World} {K : Frag} {p : Program} {loose : List Str} {d u : Nat} {f : Addr} {args : List Value} {own : List (Addr × Obj)} {v : Value}
theorem LastF.enterC {name qual : Str} {params : Arguments} {body : List Stmt} {scope : Scope} {dV kV doc pm cdv ct oc : Value} {an od : Option Addr} {osl : Array (Option Value)} {binds : List (Str × Value)}
    (ho : K.lookup f = some ⟨oc, od, .func (fnOf name qual params body scope dV kV doc pm an cdv ct), osl⟩) (hcd : codeIn K cdv qual = true) (hroom : d < recursionLimit)
    (hbind : bindArgs (fnOf name qual params body scope dV kV doc pm an cdv ct) ⟨args, []⟩ = pure binds)
    (hkind : (binds.all fun y => scope.names.lookup y.1 == some .local || scope.names.lookup y.1 == some .cell) = true)
    (hnd : ((cellsFrom 0 scope.names []).map (·.1)).Nodup)
    (hco : scope.isCoroutine = false) (hgen : scope.isGenerator = false) (hk : scope.kind = .function)
    (h : LastBodyC prog w K p loose d u f qual scope cdv body binds own v) : LastF prog w K p loose d u f args own v := by
  intro mean mg mb envs base s Q E B X T hown hq
  have up : (hideAll s.heap (adrs own)).StaysIn s.heap := fun b o e => of_hideAll _ e
  have Xg : K.In (hideAll s.heap (adrs own)) := X.keeps B.stays
  have Tg : Top p loose mean mg mb (hideAll s.heap (adrs own)) := T.keeps B.stays
  have Xs : K.In s.heap := Xg.keeps up
  have Ts : Top p loose mean mg mb s.heap := Tg.keeps up
  have hb : BindsTo s (fnX name qual params body scope [] dV kV doc pm an cdv ct) ⟨args, []⟩ binds := .of_eq hbind
  refine wpAny_call (codeAny_call_function (fd := fnX name qual params body scope [] dV kV doc pm an cdv ct) hroom (Xs _ _ ho) rfl hco hgen rfl (codeRec_of Xs hcd) (hb _ _ _ _ ?_))
  refine wpAny_newFunctionEnv_cells hk (kindsX hkind _) fun env' he s' x => ?_
  subst he
  refine ⟨Ts.nolimit.keeps x.toInCall.keep, codeAny_func ?_⟩
  obtain ⟨h₁, tk, rfl, _⟩ := x.done
  have hk₁ := x.toInCall.keep
  obtain ⟨cells, NC, Y⟩ := Cl.news (h₀ := s.heap) (Nat.le_refl _) fun n c hm => ⟨x.cell n c (lookup_of_mem_nodup (cellsFrom_names scope.names 0 (s.heap.objs.size + 1) [] [] rfl ▸ hnd) hm), x.above n c hm⟩
  have hg0 : ∀ b, s.heap.get? b = none → (hideAll s.heap (adrs own)).get? b = none := fun b hb => by
    cases q : (hideAll s.heap (adrs own)).get? b with
    | none => rfl
    | some o => rw [up b o q] at hb; cases hb
  have F₁ : Fr (hideAll s.heap (adrs own)) s.heap.objs.size h₁ (bindL (envOfC qual scope s.heap.objs.size f cdv).kindOf binds fun _ => none) := ⟨x.toInCall.ns, fun b o e => hk₁ b o (up b o e), Nat.le_of_eq (hideAll_size _ _)⟩
  have N₁ : News (hideAll s.heap (adrs own)) s.heap.objs.size h₁ (own ++ cells) := fun q hq => by
    rcases List.mem_append.mp hq with hq | hq
    · exact ⟨hk₁ _ _ (hown q hq), Nat.ne_of_lt (Heap.lt_size (hown q hq)), hideAll_none _ (List.mem_map_of_mem hq)⟩
    · exact ⟨(NC q hq).1, (NC q hq).2.1, hg0 _ (NC q hq).2.2⟩
  refine wpAny_mono (h mean mg mb envs base _ s.heap.objs.size { s with heap := h₁, toks := tk } cells E B F₁ N₁ (fun q hq => Heap.lt_size (hown q hq)) Y X T Xg Tg) (fun fl s' he => ?_) fun _ _ y => y
  obtain ⟨h', tk', rfl, hs, hv⟩ := he
  cases fl <;> (dsimp only at hv; subst hv; exact hq h' tk' hs)
theorem LastF.use {a b : Addr} {oa ob : Obj} (S : LastF prog w K p loose d u f args [(a, oa), (b, ob)] v) {A A₀ : Around} {mean : ExcName → Option Value} {mg mb : Str → Option Value} {env : Env} {outer : List Env} {base h₀ : Heap} {L : Addr} {m : Str → Option Value} {news : List (Addr × Obj)} {s : Shared} {Q E : Value → Shared → Prop}
    (B : Below A₀ base outer h₀) (F : Fr h₀ L s.heap m) (X : K.In base) (N : News h₀ L s.heap news) (T : Top p loose mean mg mb base) (hA : A.frames = some (env :: outer)) (hh : A.handled = none) (hd : A.depth ≤ d) (hu : A.units ≤ u)
    (hf : env.frame = some L) (hk : env.scope.kind = .function) (ma : (a, oa) ∈ news) (mb' : (b, ob) ∈ news)
    (ret : ∀ h' tk, base.StaysIn h' → Q v { s with heap := h', toks := tk }) : wpAny (model prog w) A (call (.ref f) args) Q E s := by
  have N0 : News h₀ L s.heap [(a, oa), (b, ob)] := fun q hq => by
    rcases List.mem_cons.mp hq with rfl | hq
    · exact N _ ma
    · rw [List.mem_singleton.mp hq]; exact N _ mb'
  obtain ⟨FG, BG, st, _⟩ := groundX (A := nomA d u (env :: outer)) (R := fun _ _ => True) B F N0 rfl hf hk
  exact wp_nom (S mean mg mb (env :: outer) base s Q E BG X T (fun q hq => (N0 q hq).1) ret) hh hd hA hu
theorem CatchG.use {P : Heap → Prop} {r : Value → Prop} (S : CatchG prog w K p loose d u f args P r) {A A₀ : Around} {mean : ExcName → Option Value} {mg mb : Str → Option Value} {env : Env} {outer : List Env} {base h₀ : Heap} {L : Addr} {m : Str → Option Value} {news : List (Addr × Obj)} {s : Shared} {Q E : Value → Shared → Prop}
    (B : Below A₀ base outer h₀) (F : Fr h₀ L s.heap m) (X : K.In base) (N : News h₀ L s.heap news) (T : Top p loose mean mg mb base) (hA : A.frames = some (env :: outer)) (hh : A.handled = none) (hd : A.depth ≤ d) (hu : A.units ≤ u)
    (hf : env.frame = some L) (hk : env.scope.kind = .function) (hp : ∀ h, (hid h₀ outer).StaysIn h → (∀ q ∈ news, h.get? q.1 = some q.2) → P h)
    (ret : ∀ v h' tk, Fr (hid h₀ outer) L h' m → News (hid h₀ outer) L h' news → r v → Q v { s with heap := h', toks := tk }) : wpAny (model prog w) A (call (.ref f) args) Q E s := by
  have hL0 : h₀.get? L = none := Heap.get?_none_of_le F.above
  have keepG : ∀ b o, (hid h₀ outer).get? b = some o → (hid s.heap (env :: outer)).get? b = some o := fun b o e => by
    obtain ⟨e1, e2⟩ := hid_some e
    refine hideAll_get _ (F.keep b o e1) fun hm => ?_
    obtain ⟨env', h1, h2⟩ := List.mem_filterMap.mp hm
    rcases List.mem_cons.mp h1 with rfl | h1
    · rw [hf] at h2
      obtain rfl := Option.some.inj h2
      rw [hL0] at e1; cases e1
    · exact e2 (List.mem_filterMap.mpr ⟨env', h1, h2⟩)
  have keepN : ∀ q ∈ news, (hid s.heap (env :: outer)).get? q.1 = some q.2 := fun q hq => by
    refine hideAll_get _ (N q hq).1 fun hm => ?_
    obtain ⟨env', h1, h2⟩ := List.mem_filterMap.mp hm
    rcases List.mem_cons.mp h1 with rfl | h1
    · rw [hf] at h2
      exact (N q hq).2.1 (Option.some.inj h2).symm
    · obtain ⟨_, o, ho, _⟩ := B.frames.mem (List.mem_filterMap.mpr ⟨env', h1, h2⟩)
      rw [(N q hq).2.2] at ho; cases ho
  refine wp_nom (S mean mg mb (env :: outer) base s Q E (belowNow B F rfl hf hk) X T (hp _ (fun b o e => keepG b o e) keepN) fun v h' tk st up hr => ?_) hh hd hA hu
  refine ret v h' tk ⟨up.ns F.ns, fun b o e => st b o (keepG b o e), Nat.le_trans (Nat.le_of_eq (hideAll_size _ _)) F.above⟩ (fun q hq => ⟨st _ _ (keepN q hq), (N q hq).2.1, hid_none (N q hq).2.2⟩) hr
end
end

section
set_option maxHeartbeats 4000000

theorem s_lis_region (w : World) (c : Int) (t : Tok) : PureF PP w (KF w) VV LL 352 370 156 [.int c t] (fun _ => True) (isV (.bool (decide (127462 ≤ c ∧ c ≤ 127487)))) := by
  w_top off
  unfold PP KF VV LL
  k_fill
  refine' PureF.enter (binds := [(Str.ofString "code", .int c t)]) ?k6 ?k7 ?k8 ?k9 ?kB ?c2 ?c3 ?c4 ?c5 ?h
  walk_at "MINE open"
  intro mean mg mb outer base g L s B F N X T hp
  (try dsimp only); k_unmd
  k_fold
  k_steps
  all_goals (simp only [Value.bool.injEq]; (try simp only [decide_eq_true_eq, decide_eq_false_iff_not] at *); (try simp); omega)

theorem s_lis_modifier (w : World) (c : Int) (t : Tok) : PureF PP w (KF w) VV LL 352 370 163 [.int c t] (fun _ => True) (isV (.bool (decide (127995 ≤ c ∧ c ≤ 127999)))) := by
  w_top off
  unfold PP KF VV LL
  k_fill
  refine' PureF.enter (binds := [(Str.ofString "code", .int c t)]) ?k6 ?k7 ?k8 ?k9 ?kB ?c2 ?c3 ?c4 ?c5 ?h
  walk_at "MINE open"
  intro mean mg mb outer base g L s B F N X T hp
  (try dsimp only); k_unmd
  k_fold
  k_steps
  all_goals (simp only [Value.bool.injEq]; (try simp only [decide_eq_true_eq, decide_eq_false_iff_not] at *); (try simp); omega)
end

section
set_option maxHeartbeats 4000000
local macro_rules | `(tactic| walk_at "compareOp NotEq ref ref") => `(tactic| (k_here; k_dflt (refine' ne_nil_ints (by is_list) (by is_list) (by l_ints) (by ke_room) ?_; k_whole)))
local macro_rules | `(tactic| walk_at "MutEnd") => `(tactic| (refine Halt.mk ?_))
theorem fmod_ge (a : Int) {b : Int} (h : 0 < b) : 0 ≤ a.fmod b := Int.fmod_nonneg_of_pos a h
theorem fmod_lt (a : Int) {b : Int} (h : 0 < b) : a.fmod b < b := Int.fmod_lt_of_pos a h
def Deck1 (K : Nat) (lc : Addr) (od ol : Obj) : Prop := ∃ (vs : List Value) (cs : List Int) (k : Int) (t : Tok) (n n' : Nat), od = W.listOf #[.ref lc, .int k t] n ∧ ol = W.listOf vs.toArray n' ∧ IntsAre vs cs ∧ vs.length ≤ 56 ∧ 0 ≤ k ∧ k ≤ (K : Int)
def drawR1 (K : Nat) (d lc : Addr) (many : Int) (v : Value) (own' : List (Addr × Obj)) (_ : Heap) : Prop := ∃ r t od' ol', v = .int r t ∧ 0 ≤ r ∧ r < many ∧ own' = [(d, od'), (lc, ol')] ∧ Deck1 (K + 1) lc od' ol'
theorem s_draw1 (w : World) (K : Nat) (d lc : Addr) (od ol : Obj) (many : Int) (tm : Tok) (hK : K ≤ 1000) (hne : @Ne Nat d lc) (h0 : 0 < many) (hD : Deck1 K lc od ol) :
    MutF PP w (KF w) VV LL 352 370 142 [.ref d, .int many tm] [(d, od), (lc, ol)] (fun _ => True) (drawR1 K d lc many) := by
  obtain ⟨vs, cs, k, tk0, n, n', rfl, rfl, hI, hn, hk0, hk1⟩ := hD
  have hln := hI.length
  w_top off
  unfold PP KF VV LL
  k_fill
  refine' MutF.enter (binds := [(Str.ofString "deck", .ref d), (Str.ofString "below", .int many tm)]) ?k6 ?k7 ?k8 ?k9 ?kB ?c2 ?c3 ?c4 ?c5 ?h
  walk_at "MINE open"
  intro mean mg mb outer base g L s B F N lo X T hp
  (try dsimp only); k_unmd
  k_fold
  k_steps
  all_goals unfold Halt
  all_goals refine MutEnd.intro2 (by assumption) (by assumption) (by k_mem) (by k_mem) ?_
  all_goals exact ⟨_, _, _, _, rfl, fmod_ge _ h0, fmod_lt _ h0, rfl, vs, cs, k + 1, _, _, _, rfl, rfl, hI, hn, by omega, by omega⟩
end

section
set_option maxHeartbeats 4000000
def lawCodes1 : List Int := [100, 101, 102, 103, 104, 105, 106, 107, 108, 109, 110, 111, 8205, 65039, 8419, 127994, 127995, 127999, 127462, 127487, 128000, 127461, 127488]
theorem s_codes1 (w : World) : ListFn PP w (KF w) VV LL 352 370 149 [] (fun _ => True) lawCodes1 := by
  intro g₀
  w_top off
  unfold PP KF VV LL
  k_fill
  refine' PureF.enter (binds := []) ?k6 ?k7 ?k8 ?k9 ?kB ?c2 ?c3 ?c4 ?c5 ?h
  walk_at "MINE open"
  intro mean mg mb outer base g L s B F N X T hp
  obtain ⟨hg, -⟩ := hp
  subst hg
  (try dsimp only); k_unmd
  k_fold
  k_steps
  exact newLn.intro (by assumption) (.head _) (by assumption)
end

section
local macro_rules | `(tactic| walk_at "MINE tab") => `(tactic| exact TabAt.grown (by assumption) (Fr.keep (by assumption)))
local macro_rules | `(tactic| walk_at "MINE wat") => `(tactic| exact WAt.grown (by assumption) (Fr.keep (by assumption)))
local macro_rules | `(tactic| walk_at "subscriptTail") => `(tactic| (k_here; walk_at "MINE g23"; (with_unfolding_all refine' seqI_m1 (by k_asm) (by assumption) (by omega) ?_; k_whole); intro t'))
local macro_rules | `(tactic| walk_at "subscriptTail") => `(tactic| (k_here; (with_reducible show wpAny _ _ (subscriptTail _ _ (Value.ref _) (Value.int 0 _)) _ _ _); (with_unfolding_all refine' seqI_z (by k_asm) (by assumption) (by omega) ?_; k_whole); intro t'))
local macro_rules | `(tactic| walk_at "call ref") => `(tactic| (k_here; (with_reducible show wpAny _ _ (call (Value.ref 111) _) _ _ _); k_dflt (refine' PureF.useA (s_is_region _ _ _) ?kp ?_; (case kp => exact trivial); k_whole; walk_at "MINE retV")))
local macro_rules | `(tactic| walk_at "call ref") => `(tactic| (k_here; (with_reducible show wpAny _ _ (call (Value.ref 118) _) _ _ _); k_dflt (refine' PureF.useA (s_is_modifier _ _ _) ?kp ?_; (case kp => exact trivial); k_whole; walk_at "MINE retV")))
local macro_rules | `(tactic| walk_at "call ref") => `(tactic| (k_here; (with_reducible show wpAny _ _ (call (Value.ref 90) _) _ _ _); k_dflt (refine' PureF.useA (s_width_of _ _ _ _ _ _ _ ?kv0 ?kv1) ?kp ?_; (case kp => walk_at "MINE tab"); walk_at "MINE a2"; k_whole; walk_at "MINE retI")))
local macro_rules | `(tactic| walk_at "call ref") => `(tactic| (k_here; (with_reducible show wpAny _ _ (call (Value.ref 97) _) _ _ _); k_dflt (refine' PureF.useA (s_is_picture _ _ _ _ _ _ _ ?kv0) ?kp ?_; (case kp => walk_at "MINE tab"); walk_at "MINE a1"; k_whole; walk_at "MINE retV")))
local macro_rules | `(tactic| walk_at "eval ListComp") => `(tactic| (k_here; lct_look; k_dflt (refine comp_seq (F₀ := by k_asm) (by with_unfolding_all rfl) (by decide) (by rfl) (by decide) (by rfl) ?_)))
local macro_rules | `(tactic| walk_at "SeqSrc") => `(tactic| (k_here; k_dflt (refine' SeqSrc.ints isReg ?kh ?k1 ?k2 ?k3 ?k4 ?k5 ?k6 (fun k' t' I' oI' C' oC' D' m' ys' h' tk' E' hk' hC' hx' F' N' off' ne' => ?_) (fun ys' D' h' tk' hI' hL' F' N' o1' => ?_); (case kh => exact rfl); (case k1 => k_asm); (case k2 => k_asm); (case k3 => assumption); (case k4 => exact fun _ => rfl); (case k5 => exact fun _ => rfl); (case k6 => decide); (all_goals try (rename LCg.Off3 _ _ _ _ => off'; simp only [LCg.Off3, and_true] at off')))))
local macro_rules | `(tactic| walk_at "compareOp In int ref") => `(tactic| (k_here; k_dflt (refine' seqI_in (by k_asm) (by assumption) ?_; k_whole)))
local macro_rules | `(tactic| walk_at "call ref") => `(tactic| (k_here; (with_reducible show wpAny _ _ (call (Value.ref 156) _) _ _ _); k_dflt (refine' PureF.useA (s_lis_region _ _ _) ?kp ?_; (case kp => exact trivial); k_whole; walk_at "MINE retV")))
local macro_rules | `(tactic| walk_at "call ref") => `(tactic| (k_here; (with_reducible show wpAny _ _ (call (Value.ref 163) _) _ _ _); k_dflt (refine' PureF.useA (s_lis_modifier _ _ _) ?kp ?_; (case kp => exact trivial); k_whole; walk_at "MINE retV")))

section
set_option maxHeartbeats 4000000
local macro_rules | `(tactic| walk_at "call builtin:len") => `(tactic| (k_here; walk_at "MINE g0"; (with_unfolding_all refine' seqI_len (by k_asm) (by assumption) ?_; k_whole); intro t' tk'))
local macro_rules | `(tactic| walk_at "subscriptTail") => `(tactic| (k_here; (with_reducible show wpAny _ _ (subscriptTail _ _ (Value.ref _) (Value.int (-2) _)) _ _ _); (with_unfolding_all refine' seqI_m2 (by k_asm) (by assumption) (by omega) ?_; k_whole); intro t'))

theorem s_bare (w : World) (a : Addr) (ns : List Int) (h0 : 1 ≤ ns.length) : PureF PP w (KF w) VV LL 358 390 125 [.ref a] (fun h => SeqI h a ns) (isI (bareN ns)) := by
  w_top off
  unfold PP KF VV LL
  k_fill
  refine' PureF.enter (binds := [(Str.ofString "codes", .ref a)]) ?k6 ?k7 ?k8 ?k9 ?kB ?c2 ?c3 ?c4 ?c5 ?h
  walk_at "MINE open"
  intro mean mg mb outer base g L s B F N X T hp
  have hn := hp.size
  (try dsimp only); k_unmd
  k_fold
  k_steps
  all_goals (refine isI_of ?_; unfold bareN; split <;> omega)
set_option maxHeartbeats 4000000
local macro_rules | `(tactic| k_inst) => `(tactic| exact instBase (by assumption) (by assumption) (by assumption))
local macro_rules | `(tactic| walk_at "call ref") => `(tactic| (k_here; (with_reducible show wpAny _ _ (call (Value.ref 125) [Value.ref _]) _ _ _); k_dflt (refine' PureF.useA (s_bare _ _ _ ?kv) ?kp ?_; (case kp => exact SeqI.grown (by assumption) (Fr.keep (by assumption))); (case kv => omega); k_whole; walk_at "MINE retI")))
local macro_rules | `(tactic| walk_at "TestEnd") => `(tactic| (k_dflt (refine' TestEnd.intro ?k1 ?k2 ?k3 ?k4; (case k1 => k_asm); (case k2 => k_asm); (case k3 => lcg_sub); (case k4 => rfl))))

theorem s_joins (w : World) (a t : Addr) (c : Int) (k : Tok) (ns : List Int) (W M J : List (Int × Int)) (hW : ValidR W) (hM : ValidR M) (hJ : ValidR J) :
    PureF PP w (KF w) VV LL 356 380 130 [.ref a, .int c k, .ref t] (fun h => SeqI h a ns ∧ TabAt h t W M J) (isV (.bool (joinsN W M J ns c))) := by
  w_top off
  unfold PP KF VV LL
  k_fill
  refine' PureF.enter (binds := [(Str.ofString "codes", .ref a), (Str.ofString "code", .int c k), (Str.ofString "table", .ref t)]) ?k6 ?k7 ?k8 ?k9 ?kB ?c2 ?c3 ?c4 ?c5 ?h
  walk_at "MINE open"
  intro mean mg mb outer base g L s B F N X T hp
  obtain ⟨hS, hTb⟩ := hp
  have hn := hS.size
  obtain ⟨dx, lw, lm, lj, h1, h2, h3, k1, k2, k3, hx, hd, -, -, -⟩ := id hTb
  (try dsimp only); k_unmd
  k_fold
  k_steps
  all_goals (first
    | rw [joins_0 (by assumption)]
    | rw [joins_1 (by assumption) (by assumption)]
    | rw [joins_3 (by assumption) (by assumption) (by assumption) (by assumption)]
    | (rw [joins_2 (by assumption) (by assumption) (by assumption) (by assumption)]; simp_all; done)
    | rw [joins_4 (by assumption) (by assumption) (by assumption) (by assumption)]
    | (rw [joins_5 (by assumption) (by assumption) (by assumption) (by assumption)]; simp_all; done))

local macro_rules | `(tactic| walk_at "subscriptTail Name Slice ref ref") => `(tactic| (k_here; (try dsimp only); k_dflt (refine' slice_last2' ?k1 ?k2 ?k3 ?k4 (fun hn' h' F' N' => ?_) (fun hn' h' b' F' N' => ?_) ?k6 ?k7; (case k6 => with_unfolding_all rfl); (case k7 => (intro _; with_unfolding_all rfl)); (case k1 => k_asm); (case k2 => k_asm); (case k3 => exact IsTup.keeps (by assumption) (Fr.keep (by assumption))); (case k4 => rw [List.size_toArray, sizeLine_eq]; omega))))
local macro_rules | `(tactic| walk_at "compareOp Eq ref ref") => `(tactic| (refine Halt.mk ?_))
theorem s_cluster (w : World) (a t : Addr) (vs : List Value) (ns : List Int) (W M J : List (Int × Int)) (hW : ValidR W) (hM : ValidR M) (hJ : ValidR J) :
    PureF PP w (KF w) VV LL 356 380 135 [.ref a, .ref t] (fun h => IsTup h a vs.toArray ∧ IntsAre vs ns ∧ ns.length ≤ 1000 ∧ TabAt h t W M J) (isI (columnsN W M J ns)) := by
  w_top off
  unfold PP KF VV LL
  k_fill
  refine' PureF.enter (binds := [(Str.ofString "codes", .ref a), (Str.ofString "table", .ref t)]) ?k6 ?k7 ?k8 ?k9 ?kB ?c2 ?c3 ?c4 ?c5 ?h
  walk_at "MINE open"
  intro mean mg mb outer base g L s B F N X T hp
  obtain ⟨hT, hI, hn, hTb⟩ := hp
  have hS : SeqI g a ns := ⟨vs, .inr hT, hI, hn⟩
  have hln := hI.length
  obtain ⟨dx, lw, lm, lj, h1, h2, h3, k1, k2, k3, hx, hd, -, -, -⟩ := id hTb
  (try dsimp only); k_unmd
  k_fold
  k_steps
  · exact isI_of (columns_0 (by assumption))
  · exact isI_of (columns_1 (by assumption) (by assumption))
  · exact isI_of (columns_2 (by assumption) (by assumption))
  · exact isI_of (columns_3 (by assumption) (by assumption) (by assumption) (by assumption) (by assumption))
  all_goals unfold Halt
  · refine eq_tups (ns := ns) (ms := [65039, 8419]) (IsTup.keeps hT (Fr.keep (by assumption))) (News.isTup (by assumption) (by k_mem)) hI (.cons _ _ (.cons _ _ .nil)) (Nat.le_of_ble_eq_true rfl) ?_
    have hz : ns.length - 2 = 0 := by rename (vs.toArray.size ≤ 2) => hz; rw [List.size_toArray] at hz; omega
    k_steps
    all_goals exact isI_of ((columns_4 (by assumption) (by assumption) (by assumption) (.inr (by assumption))).trans (by rw [hz]; simp_all))
  · refine eq_tups (ns := ns.drop (ns.length - 2)) (ms := [65039, 8419]) (News.isTup (by assumption) (by k_mem)) (News.isTup (by assumption) (by k_mem)) ?_ (.cons _ _ (.cons _ _ .nil)) (Nat.le_of_ble_eq_true rfl) ?_
    · rw [List.size_toArray, hln]; exact hI.drop _
    k_steps
    all_goals exact isI_of ((columns_4 (by assumption) (by assumption) (by assumption) (.inr (by assumption))).trans (by simp_all))
  · refine eq_tups (ns := ns) (ms := [65039, 8419]) (IsTup.keeps hT (Fr.keep (by assumption))) (News.isTup (by assumption) (by k_mem)) hI (.cons _ _ (.cons _ _ .nil)) (Nat.le_of_ble_eq_true rfl) ?_
    have hz : ns.length - 2 = 0 := by rename (vs.toArray.size ≤ 2) => hz; rw [List.size_toArray] at hz; omega
    k_steps
    all_goals exact isI_of ((columns_4 (by assumption) (by assumption) (by assumption) (.inl (by assumption))).trans (by rw [hz]; simp_all))
  · refine eq_tups (ns := ns.drop (ns.length - 2)) (ms := [65039, 8419]) (News.isTup (by assumption) (by k_mem)) (News.isTup (by assumption) (by k_mem)) ?_ (.cons _ _ (.cons _ _ .nil)) (Nat.le_of_ble_eq_true rfl) ?_
    · rw [List.size_toArray, hln]; exact hI.drop _
    k_steps
    all_goals exact isI_of ((columns_4 (by assumption) (by assumption) (by assumption) (.inl (by assumption))).trans (by simp_all))
end

section
set_option maxHeartbeats 4000000
local macro_rules | `(tactic| walk_at "subscriptTail") => `(tactic| (k_here; walk_at "MINE g28"; (with_unfolding_all refine' item_str0 (by k_asm) (by assumption) (by assumption) (by rfl) ?_; k_whole); intro tk'))
local macro_rules | `(tactic| walk_at "compareOp In int ref") => `(tactic| (k_here; k_dflt (refine' in_DI (by exact DI.grown (by assumption) (Fr.keep (by assumption))) ?_; k_whole); intro tk'))
theorem s_lwidth1 (w : World) (wd : Addr) (c : Int) (t : Tok) (W M : List (Int × Int)) (W' M' J' : List Int) (hW : Agr W W') (hM : Agr M M') :
    PureF PP w (KF w) VV LL 350 365 177 [.ref wd, .int c t] (fun h => WAt PP w h wd W' M' J') (isI (widthR W M c)) := by
  w_top off
  unfold PP KF VV LL
  k_fill
  refine' PureF.enter (binds := [(Str.ofString "w", .ref wd), (Str.ofString "code", .int c t)]) ?k6 ?k7 ?k8 ?k9 ?kB ?c2 ?c3 ?c4 ?c5 ?h
  walk_at "MINE open"
  intro mean mg mb outer base g L s B F N X T hp
  obtain ⟨ow, a1, a2, a3, hg, hd, d1, d2, d3⟩ := hp
  (try dsimp only); k_unmd
  k_fold
  k_steps
  · exact isI_of (widthR_0 hM (by assumption))
  · exact isI_of (widthR_2 hM hW (by assumption) (by assumption))
  · exact isI_of (widthR_1 hM hW (by assumption) (by assumption))
set_option maxHeartbeats 4000000
section
variable {W M J : List (Int × Int)} {W' M' J' ns : List Int} {c : Int}
theorem wnz (hM : Agr M M') (h : ¬ c ∈ M') : widthR W M c ≠ 0 := by
  rw [widthR, hM, decide_eq_false h, if_neg Bool.false_ne_true]
  split <;> decide
theorem kj_3 (hM : Agr M M') (h : ¬ (ns.length : Int) = 0) (hm : ¬ c ∈ M') (hc : 127462 ≤ c ∧ c ≤ 127487) (hl : 127462 ≤ ns.getD (-1 + (ns.length : Int)).toNat 0 ∧ ns.getD (-1 + (ns.length : Int)).toNat 0 ≤ 127487) :
    (((ns.filter isReg).length : Int) == 1) = joinsN W M J ns c := (joins_3 h (wnz hM hm) hc (by rw [← lastI_z]; exact hl)).symm
theorem kj_2 (hM : Agr M M') (h : ¬ (ns.length : Int) = 0) (hm : ¬ c ∈ M') (hc : 127462 ≤ c ∧ c ≤ 127487) (hl : ¬ (127462 ≤ ns.getD (-1 + (ns.length : Int)).toNat 0 ∧ ns.getD (-1 + (ns.length : Int)).toNat 0 ≤ 127487)) :
    decide (127462 ≤ ns.getD (-1 + (ns.length : Int)).toNat 0 ∧ ns.getD (-1 + (ns.length : Int)).toNat 0 ≤ 127487) = joinsN W M J ns c := by
  rw [joins_2 h (wnz hM hm) hc (by rw [← lastI_z]; exact hl), decide_eq_false hl]
theorem kj_4 (hM : Agr M M') (hJ : Agr J J') (h : ¬ (ns.length : Int) = 0) (hm : ¬ c ∈ M') (hc : ¬ (127462 ≤ c ∧ c ≤ 127487)) (hd : 127995 ≤ c ∧ c ≤ 127999) (hl : 1 < (ns.length : Int)) (e : ns.getD (-1 + (ns.length : Int)).toNat 0 = 65039) :
    decide ((ns.take (ns.length - 1)).getD (-1 + ((ns.take (ns.length - 1)).length : Int)).toNat 0 ∈ J') = joinsN W M J ns c := by
  rw [← hJ]; exact lj_3 h (wnz hM hm) (regs_1.mpr hc) hd.1 hd.2 hl e
theorem kj_5 (hM : Agr M M') (hJ : Agr J J') (h : ¬ (ns.length : Int) = 0) (hm : ¬ c ∈ M') (hc : ¬ (127462 ≤ c ∧ c ≤ 127487)) (hd : 127995 ≤ c ∧ c ≤ 127999) (e : ns.getD (-1 + (ns.length : Int)).toNat 0 ≠ 65039) :
    decide (ns.getD (-1 + (ns.length : Int)).toNat 0 ∈ J') = joinsN W M J ns c := by
  rw [← hJ]; exact lj_4 h (wnz hM hm) (regs_1.mpr hc) hd.1 hd.2 e
theorem kj_6 (hM : Agr M M') (hJ : Agr J J') (h : ¬ (ns.length : Int) = 0) (hm : ¬ c ∈ M') (hc : ¬ (127462 ≤ c ∧ c ≤ 127487)) (hd : 127995 ≤ c ∧ c ≤ 127999) (hl : ¬ 1 < (ns.length : Int)) :
    decide (ns.getD (-1 + (ns.length : Int)).toNat 0 ∈ J') = joinsN W M J ns c := by
  rw [← hJ]; exact lj_5 h (wnz hM hm) (regs_1.mpr hc) hd.1 hd.2 hl
theorem kj_7 (hM : Agr M M') (hJ : Agr J J') (h : ¬ (ns.length : Int) = 0) (hm : ¬ c ∈ M') (hc : ¬ (127462 ≤ c ∧ c ≤ 127487)) (hd : ¬ (127995 ≤ c ∧ c ≤ 127999)) (hj : c ∈ J') (e : ns.getD (-1 + (ns.length : Int)).toNat 0 = 8205) :
    decide (ns.getD (Int.toNat 0) 0 ∈ J') = joinsN W M J ns c := by
  rw [← hJ]; exact lj_6 h (wnz hM hm) (regs_1.mpr hc) (by omega) e (by rw [hJ]; exact decide_eq_true hj)
theorem kj_8 (hM : Agr M M') (h : ¬ (ns.length : Int) = 0) (hm : ¬ c ∈ M') (hc : ¬ (127462 ≤ c ∧ c ≤ 127487)) (hd : ¬ (127995 ≤ c ∧ c ≤ 127999)) (e : ns.getD (-1 + (ns.length : Int)).toNat 0 ≠ 8205) :
    (ns.getD (-1 + (ns.length : Int)).toNat 0 == 8205) = joinsN W M J ns c := lj_8 h (wnz hM hm) (regs_1.mpr hc) (by omega) e
theorem kj_9 (hM : Agr M M') (hJ : Agr J J') (h : ¬ (ns.length : Int) = 0) (hm : ¬ c ∈ M') (hc : ¬ (127462 ≤ c ∧ c ≤ 127487)) (hd : ¬ (127995 ≤ c ∧ c ≤ 127999)) (hj : ¬ c ∈ J') :
    decide (c ∈ J') = joinsN W M J ns c := by
  rw [joins_5 h (wnz hM hm) hc hd, hJ c, decide_eq_false hj, Bool.and_false, Bool.false_and]
end
local macro_rules | `(tactic| walk_at "MINE bound") => `(tactic| first | omega | exact Nat.le_trans (List.length_filter_le _ _) (by omega) | (simp; omega))
local macro_rules | `(tactic| walk_at "TestEnd") => `(tactic| (k_dflt (refine' TestEnd.intro ?k1 ?k2 ?k3 ?k4; (case k1 => k_asm); (case k2 => k_asm); (case k3 => lcg_sub); (case k4 => first | rfl | (rw [isReg, Bool.decide_and]; first | exact and_no (by assumption) | exact and_yes (by assumption))))))
local macro_rules | `(tactic| walk_at "call builtin:len") => `(tactic| (k_here; walk_at "MINE g0"; k_dflt (refine' seqI_lenH (by first | exact SeqI.grown (by assumption) (Fr.keep (by assumption)) | exact SeqI.led (by k_asm) (by k_mem) (by assumption) (by walk_at "MINE bound")) ?_; k_whole; intro t' tk')))
local macro_rules | `(tactic| walk_at "compareOp Eq ref ref") => `(tactic| (k_here; k_dflt (refine' eq_nil_ints (by is_list) (by is_list) (by l_ints) (by ke_room) ?_; k_whole)))
local macro_rules | `(tactic| walk_at "compareOp NotEq ref ref") => `(tactic| (k_here; k_dflt (refine' ne_nil_ints (by is_list) (by is_list) (by l_ints) (by ke_room) ?_; k_whole)))
theorem s_ljoins1 (w : World) (wd a : Addr) (c : Int) (k : Tok) (vs : List Value) (W M J : List (Int × Int)) (W' M' J' ns : List Int) (hW : Agr W W') (hM : Agr M M') (hJ : Agr J J') :
    PureF PP w (KF w) VV LL 348 360 182 [.ref wd, .ref a, .int c k] (fun h => WAt PP w h wd W' M' J' ∧ h.IsList a vs.toArray ∧ IntsAre vs ns ∧ ns.length ≤ 900) (isV (.bool (joinsN W M J ns c))) := by
  w_top off
  unfold PP KF VV LL
  k_fill
  refine' PureF.enter (binds := [(Str.ofString "w", .ref wd), (Str.ofString "cell", .ref a), (Str.ofString "code", .int c k)]) ?k6 ?k7 ?k8 ?k9 ?kB ?c2 ?c3 ?c4 ?c5 ?h
  walk_at "MINE open"
  intro mean mg mb outer base g L s B F N X T hp
  obtain ⟨⟨ow, a1, a2, a3, hg, hd, d1, d2, d3⟩, ha, hI, hn⟩ := hp
  have hln := hI.length
  have hS : SeqI g a ns := ⟨vs, .inl ha, hI, by omega⟩
  (try dsimp only); k_unmd
  k_fold
  k_steps
  all_goals (refine congrArg Value.bool ?_)
  all_goals (first
    | exact (joins_0 (by assumption)).symm
    | exact (joins_1 (by assumption) (widthR_0 hM (by assumption))).symm
    | exact kj_3 hM (by assumption) (by assumption) (by assumption) (by assumption)
    | exact kj_2 hM (by assumption) (by assumption) (by assumption) (by assumption)
    | exact kj_4 hM hJ (by assumption) (by assumption) (by assumption) (by assumption) (by assumption) (by assumption)
    | exact kj_5 hM hJ (by assumption) (by assumption) (by assumption) (by assumption) (by assumption)
    | exact kj_6 hM hJ (by assumption) (by assumption) (by assumption) (by assumption) (by assumption)
    | exact kj_7 hM hJ (by assumption) (by assumption) (by assumption) (by assumption) (by assumption) (by assumption)
    | exact kj_8 hM (by assumption) (by assumption) (by assumption) (by assumption) (by assumption)
    | exact kj_9 hM hJ (by assumption) (by assumption) (by assumption) (by assumption) (by assumption))

local macro_rules | `(tactic| walk_at "call ref") => `(tactic| (k_here; walk_at "MINE g13"; k_dflt (refine' PureF.useA (s_lwidth1 _ _ _ _ _ _ _ _ _ ?kv0 ?kv1) ?kp ?_; (case kp => walk_at "MINE wat"); walk_at "MINE a2"; k_whole; walk_at "MINE retI")))
theorem s_lcolumns1 (w : World) (wd a : Addr) (vs : List Value) (W M J : List (Int × Int)) (W' M' J' ns : List Int) (hW : Agr W W') (hM : Agr M M') (hJ : Agr J J') :
    PureF PP w (KF w) VV LL 348 360 187 [.ref wd, .ref a] (fun h => WAt PP w h wd W' M' J' ∧ h.IsList a vs.toArray ∧ IntsAre vs ns ∧ ns.length ≤ 900) (isI (columnsN W M J ns)) := by
  w_top off
  unfold PP KF VV LL
  k_fill
  refine' PureF.enter (binds := [(Str.ofString "w", .ref wd), (Str.ofString "cell", .ref a)]) ?k6 ?k7 ?k8 ?k9 ?kB ?c2 ?c3 ?c4 ?c5 ?h
  walk_at "MINE open"
  intro mean mg mb outer base g L s B F N X T hp
  obtain ⟨hWt, ha, hI, hn⟩ := hp
  obtain ⟨ow, a1, a2, a3, hg, hd, d1, d2, d3⟩ := id hWt
  have hln := hI.length
  have hS : SeqI g a ns := ⟨vs, .inl ha, hI, by omega⟩
  (try dsimp only); k_unmd
  k_fold
  k_steps
  all_goals (first
    | exact isI_of (columns_0 (by assumption))
    | exact isI_of (columns_1 (by assumption) (by assumption))
    | exact isI_of (columns_2 (by assumption) (by assumption))
    | exact isI_of (columns_3 (by assumption) (by assumption) (by assumption) (by assumption) ((hJ _).trans (decide_eq_true (by assumption))))
    | exact isI_of ((columns_4 (by assumption) (by assumption) (by assumption) (.inr ((hJ _).trans (decide_eq_false (by assumption))))).trans (if_pos (by assumption)))
    | exact isI_of ((columns_4 (by assumption) (by assumption) (by assumption) (.inr ((hJ _).trans (decide_eq_false (by assumption))))).trans (if_neg (by assumption)))
    | exact isI_of ((columns_4 (by assumption) (by assumption) (by assumption) (.inl (by assumption))).trans (if_pos (by assumption)))
    | exact isI_of ((columns_4 (by assumption) (by assumption) (by assumption) (.inl (by assumption))).trans (if_neg (by assumption))))
end

section
set_option maxHeartbeats 4000000
local macro_rules | `(tactic| walk_at "CatchGEnd") => `(tactic| (refine Halt.mk ?_))
local macro_rules | `(tactic| walk_at "call ref") => `(tactic| (k_here; walk_at "MINE g2"; k_dflt (first
  | (refine' PureF.useA (s_table _ _ _ _ _ _ _ _ _ _ ?kv0 ?kv1 ?kv2) ?kp ?_; (case kp => exact ⟨by walk_at "MINE rg", by walk_at "MINE rg", by walk_at "MINE rg"⟩); walk_at "MINE a3"; k_whole; intro v' h' tk' G' F' N' r'; ((obtain ⟨t', r'⟩ := r'); (obtain ⟨e', r'⟩ := r'); subst e'))
  | (refine' ThrowF.useA (s_table_bad _ _ _ _ _ _ _ _ _ _ _ ?kv0) ?kp ?_; (case kp => exact ⟨by walk_at "MINE rg", by walk_at "MINE rg", by walk_at "MINE rg"⟩); walk_at "MINE a1"; k_whole; refine Halt.mk ?_))))

local macro_rules | `(tactic| walk_at "getAttr ref") => `(tactic| (k_here; (with_reducible show wpAny _ _ (getAttr (Value.ref _) (PySem.Str.ofString "told") _) _ _ _); refine Halt.mk ?_))

theorem s_refused1 (w : World) (lo l0 l1 l2 : Addr) (v0 v1 v2 : List Value) (W M J : List (Int × Int)) :
    CatchG PP w (KF w) VV LL 340 365 194 [.ref lo] (fun h => h.IsList lo #[.ref l0, .ref l1, .ref l2] ∧ RangesV h l0 v0 W ∧ RangesV h l1 v1 M ∧ RangesV h l2 v2 J) (isOpt (firstWrong W M J)) := by
  have XK := excK w
  w_top off
  unfold PP KF VV LL
  unfold KF at XK
  k_fill
  refine' CatchG.enter (binds := [(Str.ofString "lists", .ref lo)]) ?k6 ?k7 ?k8 ?k9 ?kB ?c2 ?c3 ?c4 ?c5 ?h
  walk_at "MINE open"
  intro mean mg mb envs base g L s E B F N XB TB X T hp
  obtain ⟨rl, r0, r1, r2⟩ := hp
  have hg : Grown (hid g envs) g := fun b o q => (hid_some q).1
  replace rl := isList_grown rl hg
  replace r0 := r0.grown hg
  replace r1 := r1.grown hg
  replace r2 := r2.grown hg
  (try dsimp only); k_unmd
  k_fold
  cases hw : firstWrong W M J with
  | none =>
    have hW : ValidR W := by unfold firstWrong at hw; unfold ValidR; split at hw <;> first | assumption | cases hw
    have hM : ValidR M := by unfold firstWrong at hw; unfold ValidR; split at hw <;> first | (split at hw <;> first | assumption | cases hw) | cases hw
    have hJ : ValidR J := by unfold firstWrong at hw; unfold ValidR; split at hw <;> first | (split at hw <;> first | assumption | cases hw) | cases hw
    k_steps
    unfold Halt
    exact CatchGEnd.intro1 (by assumption) (by rw [hw]; rfl)
  | some i =>
    k_steps
    rename Fr _ _ _ _ => F1
    rename News _ _ _ _ => N1
    unfold Halt
    rintro e' s' ⟨e, dx, od, t, h', tk', rfl, rfl, hr, htell, hu, hdx⟩
    refine caught_D (bm := .ref 32 :: bmE) B F1 hu hr XB (topRead_of TB) ?kx ?kC rfl ?kk ?kd ?kn ?kL
    case kx => k_is
    case kd => obtain ⟨es, ep, h1, _⟩ := htell; exact ⟨es, ep, h1⟩
    case kC => intro h' X'; obtain ⟨nm, q, bs, sn, sub, ab, col, dd, k0, k1, k2, k3, k5, hC⟩ := XK.c45; exact ⟨nm, q, 44, bs, true, sn, sub, ab, col, dd, k0, k1, k2, k3, k5, _, X' _ _ hC⟩
    case kn =>
      cases q : g.get? dx with
      | none => rfl
      | some o => rw [F1.keep _ _ q] at hdx; cases hdx
    case kL =>
      rintro rfl
      obtain ⟨oL', _, _, eL, _⟩ := F1.ns
      rw [eL] at hdx; cases hdx
    case kk =>
      intro h2 tk2 oe ws F2 N2 hc hd2 hdat hu2
      obtain ⟨fr, Nfr, If⟩ := frames_led (G := hid g envs) (L := L) hu2 (frs envs) (fun b hb => by obtain ⟨_, o, ho, h4⟩ := B.frames.mem hb; exact ⟨o, ho, h4⟩) (fun b hb z => by
        obtain ⟨_, o, ho, _⟩ := B.frames.mem hb
        have h1 := ltS ho; have h2 := F1.above; rw [z] at h1; exact absurd h1 (Nat.not_lt.mpr h2)) (fun b hb => hideAll_none _ hb)
      have N3 : News (hid g envs) L h2 ((e, oe) :: (dx, od) :: fr) := by
        intro q hq
        rcases List.mem_cons.mp hq with rfl | hq
        · exact N2 _ (.head _)
        · rcases List.mem_cons.mp hq with rfl | hq
          · exact N2 _ (.tail _ (.head _))
          · exact Nfr q hq
      have XG := XB.keeps (Below.hid_stays B)
      have TG := TB.keeps (Below.hid_stays B)
      clear N2 hr hu F1 N1 X T
      k_unmd
      k_steps
      unfold Halt
      refine told_get XK F2 XG N3 (.head _) (.tail _ (.head _)) hc hd2 hdat htell rfl fun tk => ?_
      k_steps
      unfold Halt
      exact CatchGEnd.intro2 (by assumption) (by assumption) If (fun p hp => .tail _ (.tail _ hp)) (by rw [hw]; exact ⟨_, rfl⟩)
end

section
local macro_rules | `(tactic| k_ne) => `(tactic| (refine neN ?_; (try dsimp only); first | with_reducible assumption | with_reducible exact Ne.symm (by assumption) | with_reducible exact Nat.ne_of_lt (by assumption) | with_reducible exact Nat.ne_of_gt (by assumption) | omega))
local macro_rules | `(tactic| k_all) => `(tactic| with_reducible assumption)
local macro_rules | `(tactic| k_mem) => `(tactic| with_reducible assumption)
local macro_rules | `(tactic| walk_at "CutN") => `(tactic| (refine Halt.mk ?_))
local macro_rules | `(tactic| walk_at "TurnV") => `(tactic| (refine Halt.mk ?_))
local macro_rules | `(tactic| walk_at "MINE all") => `(tactic| repeat (first | with_reducible assumption | exact List.forall_mem_nil _ | refine List.forall_mem_cons.mpr ⟨by k_ne, ?_⟩))
local macro_rules | `(tactic| walk_at "MINE sub") => `(tactic| repeat (first | exact List.forall_mem_nil _ | (refine List.forall_mem_cons.mpr ⟨by k_mem, ?_⟩) | (intro p hp; simp only [List.mem_cons, hp, or_true]; done)))

section
set_option maxHeartbeats 4000000
theorem append_O {prog : Program} {w : World} {A : Around} {E : Value → Shared → Prop} {s : Shared} {h₀ : Heap} {L D : Addr} {m : Str → Option Value} {news news' : List (Addr × Obj)} {vs : List Value} {x : Value} {n : Nat} {Q : Value → Shared → Prop} (F : Fr h₀ L s.heap m) (N : News h₀ L s.heap news) (U : Upd D (W.listOf vs.toArray n) (W.listOf (vs ++ [x]).toArray (n + 1)) news news') (hb : vs.length ≤ 1000)
    (h : ∀ h', Fr h₀ L h' m → News h₀ L h' news' → Q .none { s with heap := h' }) : wpAny (model prog w) A (call (.builtin "list.append") [.ref D, x]) Q E s :=
  append_K (its := vs.toArray) (n := n) F N (by rw [List.push_toArray]; exact U) h (by rw [List.size_toArray, sizeLine_eq]; omega)
theorem last_O {prog : Program} {w : World} {A : Around} {E : Value → Shared → Prop} {s : Shared} {h₀ : Heap} {L D : Addr} {news : List (Addr × Obj)} {vs : List Value} {x : Value} {n : Nat} {value slice : Expr} {u : Tok} {Q : Value → Shared → Prop} (N : News h₀ L s.heap news) (hm : (D, W.listOf (vs ++ [x]).toArray n) ∈ news) (hb : vs.length ≤ 1000) (h : Q x s)
    (hs : subscripted slice false (.ref D) (.int (-1) u) = operate [.ref D, .int (-1) u] (getItem (.ref D) (.int (-1) u)) := by with_unfolding_all rfl) (hg : ∀ r, letTemporaryGo value (.ref D) r = pure () := by intro _; with_unfolding_all rfl) :
    wpAny (model prog w) A (subscriptTail value slice (.ref D) (.int (-1) u)) Q E s := by
  have hl : s.heap.IsList D (vs ++ [x]).toArray := PySem.IsL.isList (n := n) (N.get hm)
  have hsz : (vs ++ [x]).toArray.size = vs.length + 1 := by simp
  refine subscriptTail_builtin hl.typeIs slot_list_getitem.lookup (wpAny_getItem_list_neg hl (by decide) (by rw [hsz]; omega) (by decide) (x := x) ?_ h) hs hg
  rw [hsz, show (-1 + ((vs.length + 1 : Nat) : Int)).toNat = vs.length by omega]
  simp
theorem ne_nil_O {prog : Program} {w : World} {A : Around} {E : Value → Shared → Prop} {s : Shared} {h₀ : Heap} {L a b : Addr} {news fz : List (Addr × Obj)} {ys : List Value} {ps : List (Int × Int)} {Q : Value → Shared → Prop} (N : News h₀ L s.heap news) (hP : All2 (PairIn fz) ys ps) (sub : ∀ p ∈ fz, p ∈ news) (ha : s.heap.IsList a ys.toArray) (hb : s.heap.IsList b (#[] : Array Value))
    (hu : A.units + 64 < cLine) (h : Q (.bool (!ps.isEmpty)) s) : wpAny (model prog w) A (compareOp .NotEq (.ref a) (.ref b)) Q E s :=
  ne_nil_pairs ha hb (pairsIn_at hP fun p hp => N.get (sub p hp)) hu h
theorem ints_item {vs : List Value} {ns : List Int} (hI : IntsAre vs ns) {i : Nat} {v : Value} (hv : vs.toArray[i]? = some v) : ∃ c t, v = .int c t ∧ ns[i]? = some c := by
  have hv' : vs[i]? = some v := by simpa using hv
  have hi : i < ns.length := by rw [← hI.length]; exact (List.getElem?_eq_some_iff.mp hv').1
  obtain ⟨t, ht⟩ := hI.get i ns[i] (by simp [hi])
  rw [hv'] at ht
  exact ⟨ns[i], t, Option.some.inj ht, by simp [hi]⟩
theorem all2_snoc {α : Type} {R : α → Value → Prop} {ps : List α} {p : α} : ∀ {ys : List Value}, All2 R ys (ps ++ [p]) → ∃ ys' v, ys = ys' ++ [v] ∧ All2 R ys' ps ∧ R p v := by
  induction ps with
  | nil =>
    intro ys h
    rw [List.nil_append] at h
    cases h with
    | cons h hr => cases hr; exact ⟨[], _, rfl, .nil, h⟩
  | cons a r ih =>
    intro ys h
    rw [List.cons_append] at h
    cases h with
    | cons h hr =>
      obtain ⟨ys', v, rfl, h1, h2⟩ := ih hr
      exact ⟨_ :: ys', v, rfl, .cons h h1, h2⟩
theorem nil_or_snoc {α : Type} (l : List α) : l = [] ∨ ∃ r a, l = r ++ [a] := by
  rcases List.eq_nil_or_concat l with h | ⟨r, a, h⟩
  · exact .inl h
  · exact .inr ⟨r, a, by rw [h, List.concat_eq_append]⟩
theorem pair_item {prog : Program} {w : World} {A : Around} {E : Value → Shared → Prop} {s : Shared} {h₀ : Heap} {L q : Addr} {news fz : List (Addr × Obj)} {x y : Int} {t1 t2 u : Tok} {value slice : Expr} {k : Int} {v : Value} {Q : Value → Shared → Prop} (N : News h₀ L s.heap news) (hm : (q, tupO (x, y) t1 t2) ∈ fz) (sub : ∀ p ∈ fz, p ∈ news)
    (hk : (k = 0 ∧ v = .int x t1) ∨ (k = 1 ∧ v = .int y t2)) (h : Q v s)
    (hs : subscripted slice false (.ref q) (.int k u) = operate [.ref q, .int k u] (getItem (.ref q) (.int k u)) := by with_unfolding_all rfl) :
    wpAny (model prog w) A (subscriptTail value slice (.ref q) (.int k u)) Q E s := by
  have ht : IsTup s.heap q #[.int x t1, .int y t2] := ⟨_, N.get (sub _ hm), rfl, _, rfl⟩
  rcases hk with ⟨rfl, rfl⟩ | ⟨rfl, rfl⟩
  · exact item_tupleT (l := [.int x t1, .int y t2]) (j := 0) ht (by decide) (by decide) rfl rfl h hs
  · exact item_tupleT (l := [.int x t1, .int y t2]) (j := 1) ht (by decide) (by decide) rfl rfl h hs
theorem take_snoc {ns : List Int} {i : Nat} {c : Int} (h : ns[i]? = some c) : ns.take (i + 1) = ns.take i ++ [c] := by rw [List.take_add_one, h]; rfl
theorem asc_lt {ns ks : List Int} (hp : ns.Perm ks) (ha : ns.Pairwise (· ≤ ·)) (hn : ks.Nodup) {i : Nat} {c : Int} (h : ns[i]? = some c) : ∀ y, (ns.take i).getLast? = some y → y < c := by
  intro y hy
  have hi := (List.getElem?_eq_some_iff.mp h).1
  have hnn : ns.Nodup := hp.nodup_iff.mpr hn
  have hy' : y ∈ ns.take i := List.mem_of_getLast? hy
  obtain ⟨j, hj, rfl⟩ := List.mem_iff_getElem.mp hy'
  have hji : j < i := by simp at hj; omega
  have e1 : (ns.take i)[j] = ns[j]'(by omega) := by simp
  have e2 : c = ns[i] := (Option.some.inj ((List.getElem?_eq_getElem hi).symm.trans h)).symm
  rw [e1, e2]
  have h1 := List.pairwise_iff_getElem.mp ha j i (by omega) hi hji
  have h2 := List.pairwise_iff_getElem.mp hnn j i (by omega) hi hji
  omega
local macro_rules | `(tactic| walk_at "pyIter ref") => `(tactic| (refine Halt.mk ?_))
local macro_rules | `(tactic| walk_at "call builtin:sorted") => `(tactic| (k_here; k_dflt (refine' sorted_DI (by rfl) (by k_asm) (by k_asm) (by exact DI.grown (by assumption) (Fr.keep (by assumption))) (by assumption) ?_; k_whole); refine Halt.mk ?_))
local macro_rules | `(tactic| walk_at "call builtin:list.append") => `(tactic| (k_here; (with_reducible show wpAny _ _ (call (Value.builtin _) [Value.ref _, _]) _ _ _); k_dflt (refine' append_O (by k_asm) (by k_asm) (by k_upd) (by omega) ?_; k_whole); intro h' F' N'))
local macro_rules | `(tactic| walk_at "subscriptTail") => `(tactic| (k_here; walk_at "MINE g23"; (with_unfolding_all refine' last_O (by k_asm) (by k_mem) (by omega) ?_; k_whole)))
local macro_rules | `(tactic| walk_at "subscriptTail") => `(tactic| (k_here; walk_at "MINE g26"; (with_unfolding_all refine' pair_item (by k_asm) (by assumption) (by walk_at "MINE sub") (by first | exact .inl ⟨rfl, rfl⟩ | exact .inr ⟨rfl, rfl⟩) ?_; k_whole)))
local macro_rules | `(tactic| walk_at "setItem ref int") => `(tactic| (k_here; k_dflt (refine' set_last (by k_asm) (by k_asm) (by k_upd) (by omega) ?_; k_whole); intro h' F' N'))
local macro_rules | `(tactic| walk_at "compareOp NotEq ref ref") => `(tactic| (k_here; k_dflt (refine' ne_nil_O (by k_asm) (by assumption) (by walk_at "MINE sub") (by is_list) (by is_list) (by ke_room) ?_; k_whole)))
def newRanges (g₀ : Heap) (ks : List Int) (v : Value) (h' : Heap) : Prop := ∃ fa ys n ps fz, v = .ref fa ∧ h'.get? fa = some (W.listOf (List.toArray ys) n) ∧ g₀.get? fa = none ∧ (∀ p ∈ fz, h'.get? p.1 = some p.2 ∧ g₀.get? p.1 = none ∧ p.1 ≠ fa) ∧ All2 (PairIn fz) ys ps ∧ ValidR ps ∧ Agr ps ks ∧ ps.length ≤ 100
theorem s_ranges1 (w : World) (a : Addr) (step : Int) (t : Tok) (ks : List Int) (g₀ : Heap) (hnd : ks.Nodup) (hb : ks.length < 64) (hpos : ∀ k ∈ ks, 0 ≤ k) :
    PureF PP w (KF w) VV LL 352 370 170 [.ref a, .int step t] (fun h => h = g₀ ∧ DI PP w h a ks) (newRanges g₀ ks) := by
  w_top off
  unfold PP KF VV LL
  k_fill
  refine' PureF.enter (binds := [(Str.ofString "codes", .ref a), (Str.ofString "step", .int step t)]) ?k6 ?k7 ?k8 ?k9 ?kB ?c2 ?c3 ?c4 ?c5 ?h
  walk_at "MINE open"
  intro mean mg mb outer base g L s B F N X T hp
  obtain ⟨hg, hD⟩ := hp
  subst hg
  (try dsimp only); k_unmd
  k_fold
  refine cut (h₀ := g) (L := L) (fun m news => ∃ fa, news = [(fa, W.listOf (List.toArray []) 0)] ∧ m (Str.ofString "found") = some (.ref fa) ∧ m (Str.ofString "codes") = some (.ref a) ∧ m (Str.ofString "step") = some (.int step t)) ?ha ?hb
  case ha =>
    k_steps
    unfold Halt
    exact CutN.intro (by assumption) (by assumption) _ (fun p hp => hp) ⟨_, rfl, rfl, rfl, rfl⟩
  clear F N
  rintro h2 tk2 m2 news2 F N ⟨fa, rfl, e1, e2, e3⟩
  try dsimp only
  replace F := frOver F [(Str.ofString "found", .ref fa), (Str.ofString "codes", .ref a), (Str.ofString "step", .int step t)] (allCons e1 (allCons e2 (allCons e3 allNil)))
  clear e1 e2 e3
  refine cut (h₀ := g) (L := L) (fun m news => ∃ ys n ps fz, news = (fa, W.listOf (List.toArray ys) n) :: fz ∧ m (Str.ofString "found") = some (.ref fa) ∧ All2 (PairIn fz) ys ps ∧ ValidR ps ∧ Agr ps ks ∧ ps.length ≤ 64 ∧ ∀ p ∈ fz, p.1 ≠ fa) ?hc ?hd
  case hc =>
    refine For_invVF F (by rfl) (by rfl) ?_
    k_steps
    unfold Halt
    intro B1 h1 tk1 vs ns c1 F1 N1 off1 hI1 hperm hasc
    have hBf : @LT.lt Nat _ fa B1 := off1 _ (.head _)
    k_steps
    unfold Halt
    have hlen : ns.length = ks.length := hperm.length_eq
    refine for_listN (fun i m news => ∃ ys n ps fz, news = (B1, W.listOf vs.toArray c1) :: (fa, W.listOf (List.toArray ys) n) :: fz ∧ m (Str.ofString "found") = some (.ref fa) ∧ m (Str.ofString "step") = some (.int step t) ∧ All2 (PairIn fz) ys ps ∧ Built (ns.take i) ps ∧ ps.length ≤ i ∧ ∀ p ∈ fz, p.1 ≠ fa)
      (by rfl) (by rfl) (by rfl) (.head _) (by rintro i m nw ⟨ys, n, ps, fz, rfl, -⟩; exact .head _) F1 N1 ⟨[], 0, [], [], rfl, rfl, rfl, .nil, by rw [List.take_zero]; exact Built.nil, Nat.zero_le _, fun _ h => nomatch h⟩ ?turn ?done
    case done =>
      rintro m nw h tk ⟨ys, n, ps, fz, rfl, e1, e2, hP, hBt, hl, hz⟩ F N
      have hsz : vs.toArray.size = ns.length := by rw [List.size_toArray, hI1.length]
      rw [hsz] at hBt hl
      rw [List.take_length] at hBt
      exact CutN.intro F N _ (fun p hp => .tail _ hp) ⟨ys, n, ps, fz, rfl, e1, hP, hBt.2.1, fun c => by rw [hBt.1 c]; exact decide_eq_decide.mpr hperm.mem_iff, by omega, hz⟩
    case turn =>
      rintro i v m1 nw h3 tk3 I oI hv ⟨ys, n, ps, fz, rfl, e1, e2, hP, hBt, hl, hz⟩ hoff F N
      obtain ⟨c, tc, rfl, hcc⟩ := ints_item hI1 hv
      change Fr g L _ _ at F
      change News g L _ _ at N
      have u1 : @Ne Nat fa I := hoff (fa, W.listOf (List.toArray ys) n) (.tail _ (.head _))
      have u2 : @Ne Nat B1 I := hoff (B1, W.listOf vs.toArray c1) (.head _)
      have u3 : @Ne Nat B1 fa := Nat.ne_of_gt hBf
      have hz2 : ∀ p ∈ fz, p.1 ≠ I := fun p hp => hoff p (.tail _ (.tail _ hp))
      have hil : i < ns.length := (List.getElem?_eq_some_iff.mp hcc).1
      have hyl := hP.length
      have hc0 : 0 ≤ c := hpos c (hperm.mem_iff.mp (List.mem_of_getElem? hcc))
      have hlt := asc_lt hperm hasc hnd hcc
      have htk := take_snoc hcc
      clear hoff
      replace F := frOver F [(Str.ofString "found", .ref fa), (Str.ofString "step", .int step t)] (allCons e1 (allCons e2 allNil))
      rcases nil_or_snoc ps with rfl | ⟨ps', ⟨x, y⟩, rfl⟩
      · cases hP
        k_steps
        unfold Halt
        obtain ⟨q, N9, -, hq1, hq2, hq3, hq4⟩ : ∃ q, News g L _ ((q, tupO (c, c) tc tc) :: _ :: (I, oI) :: (B1, W.listOf vs.toArray c1) :: (fa, W.listOf (List.toArray ([] ++ [Value.ref q])) (n + 1)) :: fz) ∧ (_ < q ∧ I < q ∧ B1 < q ∧ fa < q ∧ AllLt q fz) := ⟨_, by assumption, by assumption⟩
        refine TurnV.intro (by assumption) N9 ((B1, W.listOf vs.toArray c1) :: (fa, W.listOf (List.toArray ([] ++ [Value.ref q])) (n + 1)) :: (q, tupO (c, c) tc tc) :: fz) ?s1 ?o1 ⟨_, n + 1, [] ++ [(c, c)], (q, tupO (c, c) tc tc) :: fz, rfl, rfl, rfl, .cons ⟨q, tc, tc, rfl, .head _⟩ .nil, ?b1, by simp, ?z1⟩
        case s1 => walk_at "MINE sub"
        case o1 => walk_at "MINE all"
        case b1 => rw [htk]; exact hBt.snoc (by omega) hlt
        case z1 => walk_at "MINE all"
      · obtain ⟨ys', v', rfl, hP', q0, t1, t2, rfl, hm0⟩ := all2_snoc hP
        have hbl : ys'.length ≤ 1000 := by simp at hyl hl; omega
        k_steps
        all_goals unfold Halt
        · obtain ⟨q, N9, -, hq1, hq2, hq3, hq4⟩ : ∃ q, News g L _ ((q, tupO (c, c) tc tc) :: _ :: (I, oI) :: (B1, W.listOf vs.toArray c1) :: (fa, W.listOf (List.toArray (ys' ++ [Value.ref q0] ++ [Value.ref q])) (n + 1)) :: fz) ∧ (_ < q ∧ I < q ∧ B1 < q ∧ fa < q ∧ AllLt q fz) := ⟨_, by assumption, by assumption⟩
          refine TurnV.intro (by assumption) N9 ((B1, W.listOf vs.toArray c1) :: (fa, W.listOf (List.toArray (ys' ++ [Value.ref q0] ++ [Value.ref q])) (n + 1)) :: (q, tupO (c, c) tc tc) :: fz) (by walk_at "MINE sub") (by walk_at "MINE all") ?_
          exact ⟨_, n + 1, ps' ++ [(x, y)] ++ [(c, c)], (q, tupO (c, c) tc tc) :: fz, rfl, rfl, rfl, (hP.mono fun _ _ z => z.more fun _ h => .tail _ h).append (.cons ⟨q, tc, tc, rfl, .head _⟩ .nil), by rw [htk]; exact hBt.snoc (by omega) hlt, by simp at hl ⊢; omega, by walk_at "MINE all"⟩
        · obtain ⟨q, N9, -, hq1, hq2, hq3, hq4⟩ : ∃ q, News g L _ ((q, tupO (x, c) t1 tc) :: _ :: (I, oI) :: (B1, W.listOf vs.toArray c1) :: (fa, W.listOf (List.toArray (ys' ++ [Value.ref q])) n) :: fz) ∧ (_ < q ∧ I < q ∧ B1 < q ∧ fa < q ∧ AllLt q fz) := ⟨_, by assumption, by assumption⟩
          refine TurnV.intro (by assumption) N9 ((B1, W.listOf vs.toArray c1) :: (fa, W.listOf (List.toArray (ys' ++ [Value.ref q])) n) :: (q, tupO (x, c) t1 tc) :: fz) (by walk_at "MINE sub") (by walk_at "MINE all") ?_
          exact ⟨_, n, ps' ++ [(x, c)], (q, tupO (x, c) t1 tc) :: fz, rfl, rfl, rfl, (hP'.mono fun _ _ z => z.more fun _ h => .tail _ h).append (.cons ⟨q, t1, tc, rfl, .head _⟩ .nil), by rw [htk]; exact hBt.join (by assumption), by simp at hl ⊢; omega, by walk_at "MINE all"⟩
        · obtain ⟨q, N9, -, hq1, hq2, hq3, hq4⟩ : ∃ q, News g L _ ((q, tupO (c, c) tc tc) :: _ :: (I, oI) :: (B1, W.listOf vs.toArray c1) :: (fa, W.listOf (List.toArray (ys' ++ [Value.ref q0] ++ [Value.ref q])) (n + 1)) :: fz) ∧ (_ < q ∧ I < q ∧ B1 < q ∧ fa < q ∧ AllLt q fz) := ⟨_, by assumption, by assumption⟩
          refine TurnV.intro (by assumption) N9 ((B1, W.listOf vs.toArray c1) :: (fa, W.listOf (List.toArray (ys' ++ [Value.ref q0] ++ [Value.ref q])) (n + 1)) :: (q, tupO (c, c) tc tc) :: fz) (by walk_at "MINE sub") (by walk_at "MINE all") ?_
          exact ⟨_, n + 1, ps' ++ [(x, y)] ++ [(c, c)], (q, tupO (c, c) tc tc) :: fz, rfl, rfl, rfl, (hP.mono fun _ _ z => z.more fun _ h => .tail _ h).append (.cons ⟨q, tc, tc, rfl, .head _⟩ .nil), by rw [htk]; exact hBt.snoc (by omega) hlt, by simp at hl ⊢; omega, by walk_at "MINE all"⟩
        · obtain ⟨q, N9, -, hq1, hq2, hq3, hq4⟩ : ∃ q, News g L _ ((q, tupO (c, c) tc tc) :: _ :: (I, oI) :: (B1, W.listOf vs.toArray c1) :: (fa, W.listOf (List.toArray (ys' ++ [Value.ref q0] ++ [Value.ref q])) (n + 1)) :: fz) ∧ (_ < q ∧ I < q ∧ B1 < q ∧ fa < q ∧ AllLt q fz) := ⟨_, by assumption, by assumption⟩
          refine TurnV.intro (by assumption) N9 ((B1, W.listOf vs.toArray c1) :: (fa, W.listOf (List.toArray (ys' ++ [Value.ref q0] ++ [Value.ref q])) (n + 1)) :: (q, tupO (c, c) tc tc) :: fz) (by walk_at "MINE sub") (by walk_at "MINE all") ?_
          exact ⟨_, n + 1, ps' ++ [(x, y)] ++ [(c, c)], (q, tupO (c, c) tc tc) :: fz, rfl, rfl, rfl, (hP.mono fun _ _ z => z.more fun _ h => .tail _ h).append (.cons ⟨q, tc, tc, rfl, .head _⟩ .nil), by rw [htk]; exact hBt.snoc (by omega) hlt, by simp at hl ⊢; omega, by walk_at "MINE all"⟩
  case hd =>
    clear F N
    rintro h3 tk3 m3 news3 F N ⟨ys, n, ps, fz, rfl, e1, hP, hV, hA, hl, hz⟩
    replace F := frOver F [(Str.ofString "found", .ref fa)] (allCons e1 allNil)
    k_steps
    exact ⟨fa, ys, n, ps, fz, rfl, (N _ (.head _)).1, (N _ (.head _)).2.2, fun p hp => ⟨(N p (.tail _ hp)).1, (N p (.tail _ hp)).2.2, hz p hp⟩, hP, hV, hA, by omega⟩
end

section
set_option maxHeartbeats 800000
def DObj (prog : Program) (w : World) (o : Obj) (ks : List Int) : Prop := ∃ kvs, o.IsDictOf (intKind prog w) kvs ∧ PyProof.V.FlatPairs PyData.int kvs (keysD ks)
def addK (ks : List Int) (c : Int) : List Int := if c ∈ ks then ks else ks ++ [c]
def GoodK (i : Nat) (ks : List Int) : Prop := ks.Nodup ∧ ks.length ≤ i ∧ ∀ k ∈ ks, 0 ≤ k
theorem GoodK.nil (i : Nat) : GoodK i [] := ⟨List.nodup_nil, Nat.zero_le _, fun _ h => nomatch h⟩
theorem GoodK.next {i : Nat} {ks : List Int} (g : GoodK i ks) : GoodK (i + 1) ks := ⟨g.1, Nat.le_succ_of_le g.2.1, g.2.2⟩
theorem GoodK.add {i : Nat} {ks : List Int} {c : Int} (g : GoodK i ks) (hc : 0 ≤ c) : GoodK (i + 1) (addK ks c) := by
  unfold addK
  split
  · exact g.next
  · rename_i h
    refine ⟨List.nodup_append.mpr ⟨g.1, by simp, fun a ha b hb => ?_⟩, by simp; exact g.2.1, fun k hk => ?_⟩
    · rw [List.mem_singleton.mp hb]; rintro rfl; exact h ha
    · rcases List.mem_append.mp hk with hk | hk
      · exact g.2.2 k hk
      · rw [List.mem_singleton.mp hk]; exact hc
theorem putD_keysD (ks : List Int) (c : Int) : PyProof.V.putD (.int c) (.bool true) (keysD ks) = keysD (addK ks c) := by
  have any : (keysD ks).any (fun p => Spec.same p.1 (.int c)) = decide (c ∈ ks) := by
    unfold keysD
    rw [List.any_map, Bool.eq_iff_iff, decide_eq_true_eq, List.any_eq_true]
    constructor
    · rintro ⟨k, hk, e⟩
      have e' : decide (k = c) = true := by rw [← PyProof.V.same_int]; exact e
      exact (of_decide_eq_true e') ▸ hk
    · intro h
      exact ⟨c, h, (PyProof.V.same_int c c).trans (decide_eq_true rfl)⟩
  unfold PyProof.V.putD addK
  rw [any]
  by_cases h : c ∈ ks
  · rw [if_pos (decide_eq_true h), if_pos h]
    unfold keysD
    rw [List.map_map]
    refine List.map_congr_left fun k _ => ?_
    simp only [Function.comp]
    split <;> rfl
  · rw [if_neg (by rw [decide_eq_false h]; exact Bool.false_ne_true), if_neg h]
    simp [keysD]
section
variable {prog : Program} {w : World} {A : Around} {E : Value → Shared → Prop} {s : Shared} {h₀ : Heap} {L : Addr} {m : Str → Option Value} {news : List (Addr × Obj)}
theorem set_DI {d : Addr} {o : Obj} {g : Obj → List (Addr × Obj)} {ks : List Int} {c : Int} {t : Tok} {Q : Unit → Shared → Prop} (F : Fr h₀ L s.heap m) (N : News h₀ L s.heap news) (U : UpdF d o news g) (hd : DObj prog w o ks) (hb : ks.length ≤ 1000)
    (h : ∀ h' o' tk, Fr h₀ L h' m → News h₀ L h' (g o') → DObj prog w o' (addK ks c) → Q () { s with heap := h', toks := tk }) : wpAny (model prog w) A (setItem (.ref d) (.int c t) (.bool true)) Q E s := by
  obtain ⟨kvs, h1, h2⟩ := hd
  refine setItem_K PyProof.V.same_int (intKind_is _ _ _ _) (PyProof.V.Flat.bool true) F N U h1 h2 (fun h' o' F' N' a b => h h' o' _ F' N' ⟨_, a, ?_⟩) (by simp [keysD, sizeLine_eq]; omega)
  rw [← putD_keysD]; exact b
theorem DI.led {a : Addr} {o : Obj} {ks : List Int} (N : News h₀ L s.heap news) (hm : (a, o) ∈ news) (lo : (a == sysModules) = false) (hd : DObj prog w o ks) : DI prog w s.heap a ks := by
  obtain ⟨kvs, h1, h2⟩ := hd
  exact PyProof.Rows.TabAt.ofObj lo (N.get hm) h1 h2
theorem wat_led {wd a b c : Addr} {ow oa ob oc : Obj} {W M J : List Int} (N : News h₀ L s.heap news) (m0 : (wd, ow) ∈ news) (m1 : (a, oa) ∈ news) (m2 : (b, ob) ∈ news) (m3 : (c, oc) ∈ news) (hw : ow.IsDictOf (strKind prog w) (kvs3 a b c))
    (l1 : (a == sysModules) = false) (l2 : (b == sysModules) = false) (l3 : (c == sysModules) = false) (d1 : DObj prog w oa W) (d2 : DObj prog w ob M) (d3 : DObj prog w oc J) : WAt prog w s.heap wd W M J :=
  ⟨ow, a, b, c, N.get m0, hw, DI.led N m1 l1 d1, DI.led N m2 l2 d2, DI.led N m3 l3 d3⟩
theorem wat_ledA {wd a b c : Addr} {ow oa ob oc : Obj} {W M J : List Int} (hw : ow.IsDictOf (strKind prog w) (kvs3 a b c) := by assumption) (N : News h₀ L s.heap news := by k_asm) (m0 : (wd, ow) ∈ news := by k_mem) (m1 : (a, oa) ∈ news := by k_mem) (m2 : (b, ob) ∈ news := by k_mem) (m3 : (c, oc) ∈ news := by k_mem)
    (l1 : (a == sysModules) = false := by assumption) (l2 : (b == sysModules) = false := by assumption) (l3 : (c == sysModules) = false := by assumption) (d1 : DObj prog w oa W := by assumption) (d2 : DObj prog w ob M := by assumption) (d3 : DObj prog w oc J := by assumption) : WAt prog w s.heap wd W M J := wat_led N m0 m1 m2 m3 hw l1 l2 l3 d1 d2 d3
theorem item_strL {d : Addr} {o : Obj} {kvs : List (Str × Value)} {k : Str} {u : Tok} {v : Value} {value slice : Expr} {Q : Value → Shared → Prop} (N : News h₀ L s.heap news) (hm : (d, o) ∈ news) (hd : o.IsDictOf (strKind prog w) kvs) (hl : valueAt kvs k = some v) (h : ∀ tk, Q v { s with toks := tk })
    (hs : subscripted slice false (.ref d) (.str k u) = operate [.ref d, .str k u] (getItem (.ref d) (.str k u)) := by with_unfolding_all rfl) (hg : ∀ r, letTemporaryGo value (.ref d) r = pure () := by intro _; with_unfolding_all rfl) :
    wpAny (model prog w) A (subscriptTail value slice (.ref d) (.str k u)) Q E s :=
  have hD : s.heap.DictOf (strKind prog w) d kvs := Heap.dictOf_iff.mpr ⟨o, N.get hm, hd⟩
  subscriptTail_builtin hD.typeIs slot_dict_getitem.lookup (wpAny_getItem_of (strKind_is _ _ _ _) hD.mapOf hl (h _)) hs hg
theorem len_DI {a : Addr} {o : Obj} {ks : List Int} {Q : Value → Shared → Prop} (N : News h₀ L s.heap news) (hm : (a, o) ∈ news) (lo : (a == sysModules) = false) (hd : DObj prog w o ks) (hb : ks.length ≤ 1000) (h : ∀ t tk, Q (.int (ks.length : Int) t) { s with toks := tk }) :
    wpAny (model prog w) A (call (.builtin "len") [.ref a]) Q E s := by
  have e : ((keysD ks).length : Int) = (ks.length : Int) := by simp [keysD]
  refine PyProof.Rows.len_tab (knd := intKind prog w) (enc := PyData.int) (DI.led N hm lo hd) (by rw [e]; omega) ?_
  rw [e]; exact h _ _
theorem in_DL {a : Addr} {o : Obj} {ks : List Int} {c : Int} {t : Tok} {Q : Value → Shared → Prop} (N : News h₀ L s.heap news) (hm : (a, o) ∈ news) (lo : (a == sysModules) = false) (hd : DObj prog w o ks) (h : ∀ tk, Q (.bool (decide (c ∈ ks))) { s with toks := tk }) :
    wpAny (model prog w) A (compareOp .In (.int c t) (.ref a)) Q E s := in_DI (DI.led N hm lo hd) h
theorem newsAdd {h h' : Heap} {a : Addr} {o : Obj} (F : Fr h₀ L h m) (N : News h₀ L h' news) (e : h'.get? a = some o) (hn : h.get? a = none) : News h₀ L h' ((a, o) :: news) := by
  intro q hq
  rcases List.mem_cons.mp hq with rfl | hq
  · refine ⟨e, fun z => ?_, ?_⟩
    · have z' : a = L := z
      obtain ⟨oL, es, ep, eL, _⟩ := F.ns
      rw [← z', hn] at eL; cases eL
    · cases q : h₀.get? a with
      | none => rfl
      | some o => rw [F.keep _ _ q] at hn; cases hn
  · exact N q hq
end
def RAt (fz : List (Addr × Obj)) (fa : Addr) (ys : List Value) (ps : List (Int × Int)) : Prop := (∃ n, (fa, W.listOf (List.toArray ys) n) ∈ fz) ∧ All2 (PairIn fz) ys ps ∧ ps.length ≤ 100
theorem RAt.more {fz fz' : List (Addr × Obj)} {fa : Addr} {ys : List Value} {ps : List (Int × Int)} (x : RAt fz fa ys ps) (sub : ∀ q ∈ fz, q ∈ fz') : RAt fz' fa ys ps :=
  ⟨let ⟨n, m⟩ := x.1; ⟨n, sub _ m⟩, x.2.1.mono fun _ _ z => z.more sub, x.2.2⟩
theorem RAt.led {h₀ h : Heap} {L fa : Addr} {news fz : List (Addr × Obj)} {ys : List Value} {ps : List (Int × Int)} (N : News h₀ L h news) (x : RAt fz fa ys ps) (sub : ∀ q ∈ fz, q ∈ news) : RangesV h fa ys ps := by
  obtain ⟨⟨n, m⟩, a, b⟩ := x
  exact rangesV_of (PySem.IsL.isList (n := n) (N _ (sub _ m)).1) (pairsIn_at a fun p hp => (N _ (sub _ hp)).1) (by omega)
section
variable {A A₀ : Around} {mean : ExcName → Option Value} {mg mb : Str → Option Value} {env : Env} {outer : List Env} {base h₀ : Heap} {L : Addr} {m : Str → Option Value} {news : List (Addr × Obj)} {s : Shared} {Q E : Value → Shared → Prop}
theorem ranges_use (w : World) {a : Addr} {o : Obj} {step : Int} {t : Tok} {ks : List Int} (hm : (a, o) ∈ news) (lo : (a == sysModules) = false) (hD : DObj PP w o ks) (hg : GoodK 40 ks)
    (B : Below A₀ base outer h₀) (F : Fr h₀ L s.heap m) (X : (KF w).In h₀) (N : News h₀ L s.heap news) (T : Top VV LL mean mg mb h₀) (hA : A.frames = some (env :: outer)) (hh : A.handled = none) (hd : A.depth ≤ 352) (hu : A.units ≤ 370)
    (hf : env.frame = some L) (hk : env.scope.kind = .function)
    (ret : ∀ fa ys ps fz h' tk, Fr h₀ L h' m → News h₀ L h' (fz ++ news) → RAt fz fa ys ps → ValidR ps → Agr ps ks → (∀ p ∈ fz, ∀ q ∈ news, @Ne Nat p.1 q.1) → Q (.ref fa) { s with heap := h', toks := tk }) :
    wpAny (model PP w) A (call (.ref 170) [.ref a, .int step t]) Q E s := by
  refine PureF.use (s_ranges1 w a step t ks s.heap hg.1 (by have := hg.2.1; omega) hg.2.2) B F X N T hA hh hd hu hf hk ⟨rfl, DI.led N hm lo hD⟩ ?_
  rintro v h' tk G F' N' ⟨fa, ys, n, ps, fz, rfl, e1, e2, hz, hP, hV, hAg, hl⟩
  have all : ∀ p ∈ (fa, W.listOf (List.toArray ys) n) :: fz, h'.get? p.1 = some p.2 ∧ s.heap.get? p.1 = none := fun p hp => by
    rcases List.mem_cons.mp hp with rfl | hp
    · exact ⟨e1, e2⟩
    · exact ⟨(hz p hp).1, (hz p hp).2.1⟩
  have key : ∀ l : List (Addr × Obj), (∀ p ∈ l, h'.get? p.1 = some p.2 ∧ s.heap.get? p.1 = none) → News h₀ L h' (l ++ news) := by
    intro l
    induction l with
    | nil => intro _; exact N'
    | cons p r ih => intro hl; exact newsAdd F (ih fun q hq => hl q (.tail _ hq)) (hl p (.head _)).1 (hl p (.head _)).2
  refine ret fa ys ps ((fa, W.listOf (List.toArray ys) n) :: fz) h' tk F' (key _ all) ⟨⟨n, .head _⟩, hP.mono fun _ _ z => z.more fun q hq => .tail _ hq, hl⟩ hV hAg fun p hp q hq z => ?_
  have z1 := (all p hp).2
  have z2 := (N q hq).1
  have z' : p.1 = q.1 := z
  rw [z', z2] at z1; cases z1
def Off2 (a b : Addr) (l : List (Addr × Obj)) : Prop := ∀ p ∈ l, @Ne Nat p.1 a ∧ @Ne Nat p.1 b
abbrev tabDict (h1 h2 h3 : Int) (k1 k2 k3 : Tok) (l0 l1 l2 : Addr) : Obj := dictOf [⟨h1, .str (Str.ofString "wide") k1, .ref l0⟩, ⟨h2, .str (Str.ofString "marks") k2, .ref l1⟩, ⟨h3, .str (Str.ofString "joiners") k3, .ref l2⟩] 3
theorem tab_led {h : Heap} {t dx l0 l1 l2 : Addr} {h1 h2 h3 : Int} {k1 k2 k3 : Tok} {v0 v1 v2 : List Value} {W M J : List (Int × Int)} (N : News h₀ L h news) (m1 : (t, instObj 100 dx) ∈ news) (m2 : (dx, tabDict h1 h2 h3 k1 k2 k3 l0 l1 l2) ∈ news)
    (r0 : RangesV h l0 v0 W) (r1 : RangesV h l1 v1 M) (r2 : RangesV h l2 v2 J) : TabAt h t W M J := ⟨dx, l0, l1, l2, h1, h2, h3, k1, k2, k3, (N _ m1).1, (N _ m2).1, ⟨v0, r0⟩, ⟨v1, r1⟩, ⟨v2, r2⟩⟩
theorem table_use (w : World) {l0 l1 l2 : Addr} {v0 v1 v2 : List Value} {W M J : List (Int × Int)} (hW : ValidR W) (hM : ValidR M) (hJ : ValidR J)
    (B : Below A₀ base outer h₀) (F : Fr h₀ L s.heap m) (X : (KF w).In h₀) (N : News h₀ L s.heap news) (T : Top VV LL mean mg mb h₀) (hA : A.frames = some (env :: outer)) (hh : A.handled = none) (hd : A.depth ≤ 354) (hu : A.units ≤ 380)
    (hf : env.frame = some L) (hk : env.scope.kind = .function) (r0 : RangesV s.heap l0 v0 W) (r1 : RangesV s.heap l1 v1 M) (r2 : RangesV s.heap l2 v2 J)
    (ret : ∀ t dx h1 h2 h3 k1 k2 k3 h' tk, Fr h₀ L h' m → News h₀ L h' ((t, instObj 100 dx) :: (dx, tabDict h1 h2 h3 k1 k2 k3 l0 l1 l2) :: news) → Off2 t dx news → Q (.ref t) { s with heap := h', toks := tk }) :
    wpAny (model PP w) A (call (.ref 100) [.ref l0, .ref l1, .ref l2]) Q E s := by
  refine PureF.use (s_tableN w s.heap l0 l1 l2 W M J v0 v1 v2 hW hM hJ) B F X N T hA hh hd hu hf hk ⟨rfl, r0, r1, r2⟩ ?_
  rintro v h' tk G F' N' ⟨t, dx, h1, h2, h3, k1, k2, k3, rfl, e1, e2, n1, n2, hne⟩
  refine ret t dx h1 h2 h3 k1 k2 k3 h' tk F' (newsAdd F (newsAdd F N' e2 n2) e1 n1) fun p hp => ⟨fun z => ?_, fun z => ?_⟩
  · have q := (N p hp).1; have z' : p.1 = t := z; rw [z', n1] at q; cases q
  · have q := (N p hp).1; have z' : p.1 = dx := z; rw [z', n2] at q; cases q
end
end

section
set_option maxHeartbeats 800000
def TurnW (h₀ : Heap) (L : Addr) (its : List (Addr × Obj)) (J : (Str → Option Value) → List (Addr × Obj) → Prop) (s : Shared) (Q : Flow → Shared → Prop) (f : Flow) (s₂ : Shared) : Prop :=
  match f with
  | .ret v => Q (.ret v) s₂
  | .brk => Q .next s₂
  | _ => ∃ h' tk m' news', s₂ = { s with heap := h', toks := tk } ∧ Fr h₀ L h' m' ∧ News h₀ L h' (its ++ news') ∧ (∀ p ∈ news', p.1 ∉ adrs its) ∧ J m' news'
section
variable {prog : Program} {w : World} {A : Around} {E : Value → Shared → Prop} {s : Shared} {env : Env} {h₀ : Heap} {L : Addr} {target : Expr} {body : List Stmt} {Q : Flow → Shared → Prop}
theorem TurnW.intro {its : List (Addr × Obj)} {J : (Str → Option Value) → List (Addr × Obj) → Prop} {h' : Heap} {tk : Nat} {m' : Str → Option Value} {all : List (Addr × Obj)} (F : Fr h₀ L h' m') (N : News h₀ L h' all) (news' : List (Addr × Obj))
    (sub : ∀ p ∈ its ++ news', p ∈ all) (off : ∀ p ∈ news', p.1 ∉ adrs its) (hJ : J m' news') : TurnW h₀ L its J s Q .next { s with heap := h', toks := tk } := ⟨h', tk, m', news', rfl, F, fun p hp => N p (sub p hp), off, hJ⟩
theorem its_of {h : Heap} : ∀ wr : List Addr, (∀ b ∈ wr, ∃ o, h.get? b = some o) → ∃ its : List (Addr × Obj), adrs its = wr ∧ ∀ p ∈ its, h.get? p.1 = some p.2
  | [], _ => ⟨[], rfl, fun _ h => nomatch h⟩
  | b :: r, hb => by
    obtain ⟨o, ho⟩ := hb b (.head _)
    obtain ⟨its, e, a⟩ := its_of r fun c hc => hb c (.tail _ hc)
    refine ⟨(b, o) :: its, congrArg (b :: ·) e, fun p hp => ?_⟩
    rcases List.mem_cons.mp hp with rfl | hp
    · exact ho
    · exact a p hp
theorem turns_J {I : Addr} {fp wr : List Addr} {n : Nat} {P Md : Nat → Value → Heap → Prop} {St : Nat → Heap → Prop} {m₀ : Str → Option Value} {news : List (Addr × Obj)} {hp : Heap} {tk0 : Nat} (J : Nat → (Str → Option Value) → List (Addr × Obj) → Prop)
    (W : KTurns prog w A target I fp wr n P Md St) (hobj : ∀ i h, St i h → ∀ b ∈ wr, ∃ o, h.get? b = some o) (hwr : ∀ b ∈ wr, h₀.get? b = none) (hL : env.locals ∉ fp)
    (hfp : ∀ b ∈ fp, b ∈ wr ∨ ∃ o, ∀ i m nw, J i m nw → (b, o) ∈ nw) (hnw : ∀ p ∈ news, p.1 ∉ wr) (hst : St 0 hp) (F : Fr h₀ env.locals hp m₀) (N : News h₀ env.locals hp news) (hj : J 0 m₀ news)
    (turn : ∀ i v m₁ news₁ h tk its, i < n → P i v h → J i m₁ news₁ → adrs its = wr → (∀ p ∈ news₁, p.1 ∉ wr) → Fr h₀ env.locals h m₁ → News h₀ env.locals h (its ++ news₁) →
      wpAny (model prog w) A (assign target env v) (fun _ s₂ => wpAny (model prog w) A (execs body env) (TurnW h₀ env.locals its (J (i + 1)) { s with heap := h, toks := tk } Q) E s₂) E { s with heap := h, toks := tk })
    (done : ∀ m news h tk, J n m news → Fr h₀ env.locals h m → News h₀ env.locals h news → Q .next { s with heap := h, toks := tk }) :
    TurnsAt prog w A h₀ env target body Q E (.ref I) { s with heap := hp, toks := tk0 } := by
  refine ⟨I, fp, wr, n, P, Md, St, m₀, news, J, rfl, W, hL, hwr, hnw, hst, F, N, hj, ?_, fun h' tk m' news' F' N' _ hJ => done m' news' h' tk hJ F' N'⟩
  intro i v m₁ news₁ h₁ tk₁ own hin hP hJ hoff hown howng hfull hst₁ F₁ N₁
  obtain ⟨its, hits, hitg⟩ := its_of wr (hobj _ _ hst₁)
  have inOwn : ∀ p ∈ its, p ∈ own := fun p hp => by
    have hb : p.1 ∈ wr := hits ▸ List.mem_map_of_mem hp
    exact hfull p.1 (W.sub _ hb) (hwr _ hb) p.2 (hitg p hp)
  have N₂ : News h₀ env.locals h₁ (its ++ news₁) := fun p hp => by
    rcases List.mem_append.mp hp with hp | hp
    · exact N₁ p (List.mem_append_left _ (inOwn p hp))
    · exact N₁ p (List.mem_append_right _ hp)
  refine wpAny_mono (turn i v m₁ news₁ h₁ tk₁ its hin hP hJ hits hoff F₁ N₂) (fun _ s₂ h₂ => wpAny_mono h₂ (fun f s₃ p => ?_) fun _ _ e => e) fun _ _ e => e
  have fin : (∃ h' tk' m' news', s₃ = { s with heap := h', toks := tk' } ∧ Fr h₀ env.locals h' m' ∧ News h₀ env.locals h' (its ++ news') ∧ (∀ p ∈ news', p.1 ∉ adrs its) ∧ J (i + 1) m' news') →
      LoopStepU h₀ env.locals wr own (J (i + 1)) { s with heap := h₁, toks := tk₁ } .next s₃ := by
    rintro ⟨h', tk', m', news', rfl, F', N', off', hJ'⟩
    refine ⟨rfl, h', tk', m', news', rfl, F', fun p hp => ?_, hits ▸ off', hJ'⟩
    rcases List.mem_append.mp hp with hp | hp
    · rcases hfp _ (hown p hp) with hb | ⟨o, e⟩
      · obtain ⟨q, hq, e⟩ := List.mem_map.mp (hits ▸ hb : p.1 ∈ adrs its)
        have z1 := howng p hp
        have z2 := hitg q hq
        obtain ⟨q1, q2⟩ := q
        obtain ⟨p1, p2⟩ := p
        simp only at e z1 z2
        subst e
        rw [z1] at z2
        cases z2
        exact N' _ (List.mem_append_left _ hq)
      · have z1 := (N₁ _ (List.mem_append_right _ (e _ _ _ hJ))).1
        have z2 := howng p hp
        obtain ⟨p1, p2⟩ := p
        simp only at z1 z2
        rw [z1] at z2
        cases z2
        exact N' _ (List.mem_append_right _ (e _ _ _ hJ'))
    · exact N' p (List.mem_append_right _ hp)
  cases f with
  | ret v => exact p
  | brk => exact p
  | next => exact fin p
  | cont => exact fin p

theorem for_tupT {ax : Addr} {ox : Obj} {its : Array Value} {k : Nat} {m₀ : Str → Option Value} {news : List (Addr × Obj)} (J : Nat → (Str → Option Value) → List (Addr × Obj) → Prop)
    (hh : A.handled = none) (hc : ox.cls = .type "tuple") (hd : ox.data = .seq its k) (hm : (ax, ox) ∈ news) (hJm : ∀ i m nw, J i m nw → (ax, ox) ∈ nw) (F : Fr h₀ env.locals s.heap m₀) (N : News h₀ env.locals s.heap news) (hj : J 0 m₀ news)
    (turn : ∀ i v m₁ news₁ h tk I oI, its[i]? = some v → J i m₁ news₁ → (∀ p ∈ news₁, p.1 ≠ I) → Fr h₀ env.locals h m₁ → News h₀ env.locals h ((I, oI) :: news₁) →
      wpAny (model prog w) A (assign target env v) (fun _ s₂ => wpAny (model prog w) A (execs body env) (TurnW h₀ env.locals [(I, oI)] (J (i + 1)) { s with heap := h, toks := tk } Q) E s₂) E { s with heap := h, toks := tk })
    (done : ∀ m news h tk, J its.size m news → Fr h₀ env.locals h m → News h₀ env.locals h news → Q .next { s with heap := h, toks := tk }) :
    wpAny (model prog w) A (pyIter (.ref ax)) (fun it s₂ => TurnsAt prog w A h₀ env target body Q E it s₂) E s := by
  have hl : s.heap.IsTuple ax its := ⟨ox, (N _ hm).1, hc, k, hd⟩
  have hlt : @LT.lt Nat _ ax s.heap.objs.size := ltS (N _ hm).1
  refine wpAny_pyIter_tuple hl ?_
  refine turns_J (s := s) (tk0 := s.toks) (wr := [s.heap.objs.size]) J (KTurns.ofWalks (Walks.tuple hh s.heap.objs.size ax (Nat.ne_of_lt hlt) its) fun i v s Q E st q => letGo_tupleiter st.1 q) (fun i h st b hb => ?_) (fun b hb => ?_) (fun hL => ?_) (fun b hb => ?_) (fun p hp hI => ?_)
    ⟨⟨_, Heap.get?_push_size _ rfl, rfl, rfl⟩, hl.at fun o e => Heap.get?_push_of_some _ e⟩ (F.push _) (fun p hp => ⟨Heap.get?_push_of_some _ (N p hp).1, (N p hp).2⟩) hj (fun i v m₁ news₁ h tk its hi hP hJ hits hoff F₁ N₁ => ?_) done
  · obtain ⟨o, e, _⟩ := st.1
    rw [List.mem_singleton.mp hb]
    exact ⟨o, e⟩
  · rw [List.mem_singleton.mp hb]; exact next_is_new F
  · rcases List.mem_cons.mp hL with e | hL
    · exact absurd F.ns.lt (e ▸ Nat.lt_irrefl _)
    · exact (N _ hm).2.1 (List.mem_singleton.mp hL).symm
  · rcases List.mem_cons.mp hb with e | hb
    · exact .inl (e ▸ .head _)
    · rw [List.mem_singleton.mp hb]; exact .inr ⟨ox, hJm⟩
  · exact absurd (Heap.lt_size (N p hp).1) ((List.mem_singleton.mp hI) ▸ Nat.lt_irrefl _)
  · obtain ⟨oI, rfl⟩ := adrs_one hits
    exact turn i v m₁ news₁ h tk _ oI hP hJ (fun p hp e => hoff p hp (List.mem_singleton.mpr e)) F₁ N₁

theorem for_enumN {elts : List Expr} {kk : Nat} {pos : Pos} {ax : Addr} {ox : Obj} {its : Array Value} {k : Nat} {m₀ : Str → Option Value} {news : List (Addr × Obj)} (J : Nat → (Str → Option Value) → List (Addr × Obj) → Prop)
    (hh : A.handled = none) (hc : ox.cls = .type "list") (hd : ox.data = .seq its k) (hm : (ax, ox) ∈ news) (hJm : ∀ i m nw, J i m nw → (ax, ox) ∈ nw) (F : Fr h₀ env.locals s.heap m₀) (N : News h₀ env.locals s.heap news) (hj : J 0 m₀ news)
    (turn : ∀ i v m₁ news₁ h tk T t e oe it oi, its[i]? = some v → J i m₁ news₁ → (∀ p ∈ news₁, p.1 ≠ e) → (∀ p ∈ news₁, p.1 ≠ it) → IsTup h T #[.int (i : Int) t, v] → Fr h₀ env.locals h m₁ → News h₀ env.locals h ((e, oe) :: (it, oi) :: news₁) →
      wpAny (model prog w) A (assign (.Tuple elts kk pos) env (.ref T)) (fun _ s₂ => wpAny (model prog w) A (execs body env) (TurnW h₀ env.locals [(e, oe), (it, oi)] (J (i + 1)) { s with heap := h, toks := tk } Q) E s₂) E { s with heap := h, toks := tk })
    (done : ∀ m news h tk, J its.size m news → Fr h₀ env.locals h m → News h₀ env.locals h news → Q .next { s with heap := h, toks := tk }) :
    wpAny (model prog w) A (call (.type "enumerate") [.ref ax]) (fun xv s₁ => wpAny (model prog w) A (pyIter xv) (fun it s₂ => TurnsAt prog w A h₀ env (.Tuple elts kk pos) body Q E it s₂) E s₁) E s := by
  have hl : s.heap.IsList ax its := ⟨ox, (N _ hm).1, hc, k, hd⟩
  have hlt : @LT.lt Nat _ ax s.heap.objs.size := ltS (N _ hm).1
  have hLs : @LT.lt Nat _ env.locals s.heap.objs.size := nsLt F
  refine call_enumerate_list hl fun h' hE hI hsz hk => ?_
  refine wpAny_pyIter_enum hE ?_
  refine turns_J (s := s) (tk0 := s.toks) (wr := [s.heap.objs.size + 1, s.heap.objs.size]) J (KTurns.ofWalksU (WalksT.enumerate hh (s.heap.objs.size + 1) s.heap.objs.size ax (Nat.succ_ne_self _) (ktu_ne 1 hlt) (Nat.ne_of_lt hlt) its).toU) (fun i h st b hb => ?_) (fun b hb => ?_) (fun hL => ?_) (fun b hb => ?_) (fun p hp hI => ?_)
    ⟨⟨.none, hE⟩, hI, hl.at fun o e => hk ax o e⟩ (F.keeps hk) (N.grown hk) hj (fun i v m₁ news₁ h tk its' hi hP hJ hits hoff F₁ N₁ => ?_) done
  · obtain ⟨⟨old, he⟩, ⟨oi, hoi, hic, _⟩, _⟩ := st
    rcases List.mem_cons.mp hb with rfl | hb
    · exact ⟨_, he⟩
    · rw [List.mem_singleton.mp hb]; exact ⟨oi, hoi⟩
  · rcases List.mem_cons.mp hb with rfl | hb
    · exact ktu_new F (Nat.le_add_right _ _)
    · rw [List.mem_singleton.mp hb]; exact ktu_new F (Nat.le_refl _)
  · have hb' : env.locals = s.heap.objs.size + 1 ∨ env.locals = s.heap.objs.size ∨ env.locals = ax := by simpa using hL
    rcases hb' with e | e | e
    · exact ktu_ne 1 hLs e
    · exact Nat.ne_of_lt hLs e
    · exact (N _ hm).2.1 e.symm
  · have hb' : b = s.heap.objs.size + 1 ∨ b = s.heap.objs.size ∨ b = ax := by simpa using hb
    rcases hb' with rfl | rfl | rfl
    · exact .inl (by simp)
    · exact .inl (by simp)
    · exact .inr ⟨ox, hJm⟩
  · have hb' : p.1 = s.heap.objs.size + 1 ∨ p.1 = s.heap.objs.size := by simpa using hI
    have hlp := Heap.lt_size (N p hp).1
    rcases hb' with e | e
    · exact ktu_ne 1 hlp e
    · exact Nat.ne_of_lt hlp e
  · obtain ⟨oe, oi, rfl⟩ := adrs_two hits
    obtain ⟨T, vals, rfl, ⟨t, x, hx, rfl⟩, hT⟩ := hP
    exact turn i x m₁ news₁ h tk T t _ oe _ oi hx hJ (fun p hp e => hoff p hp (by rw [e]; exact .head _)) (fun p hp e => hoff p hp (by rw [e]; exact .tail _ (.head _))) hT F₁ N₁
end
end

section
set_option maxHeartbeats 4000000
local macro_rules | `(tactic| walk_at "MINE openC") => `(tactic| (
  (case k6 => k_dflt k_is)
  (case k7 => k_dflt k_is)
  (case k8 => decide)
  (case k9 => with_unfolding_all exact rfl)
  (case kB => exact rfl)
  (case kD => decide +kernel)
  (case c2 => exact rfl)
  (case c3 => exact rfl)
  (case c4 => exact rfl)))
theorem All2.at_ {α : Type} {R : α → Value → Prop} : ∀ {vs : List Value} {ps : List α} {i : Nat} {v : Value}, All2 R vs ps → vs[i]? = some v → ∃ p, ps[i]? = some p ∧ R p v
  | _, _, 0, _, .cons h _, e => ⟨_, rfl, Option.some.inj e ▸ h⟩
  | _, _, i + 1, _, .cons _ r, e => r.at_ (i := i) (by simpa using e)
abbrev RP := List (Int × Int) × Option Nat
def SomeAt (rest : List (Addr × Obj)) (p : RP) (v : Value) : Prop := ∃ t l ws pv n, v = .ref t ∧ (t, ({ cls := .type "tuple", data := .seq #[.ref l, pv] } : Obj)) ∈ rest ∧ (l, W.listOf (List.toArray ws) n) ∈ rest ∧ All2 (PairIn rest) ws p.1 ∧ isOpt p.2 pv
theorem SomeAt.more {rest rest' : List (Addr × Obj)} {p : RP} {v : Value} (x : SomeAt rest p v) (sub : ∀ q ∈ rest, q ∈ rest') : SomeAt rest' p v := by
  obtain ⟨t, l, ws, pv, n, e, m1, m2, a, o⟩ := x
  exact ⟨t, l, ws, pv, n, e, sub _ m1, sub _ m2, a.mono fun _ _ z => z.more sub, o⟩
def some1 : List RP := [([(5, 4)], some 0), ([(3, 6), (6, 9)], some 1), ([(0, 1), (7, 9), (2, 3)], some 2), ([(-1, 3)], some 0), ([(0, 3), (4, 5)], none)]
def some2 : List RP := [([(0, 0), (1, 1), (1, 2)], some 2), ([], none), ([(4, 4), (5, 9), (10, 8)], some 2)]
local macro_rules | `(tactic| walk_at "MINE in") => `(tactic| repeat (first | exact List.Mem.head _ | refine List.Mem.tail _ ?_))
local macro_rules | `(tactic| walk_at "MINE pairs") => `(tactic| repeat (first | exact All2.nil | refine All2.cons ⟨_, _, _, rfl, by walk_at "MINE in"⟩ ?_))
local macro_rules | `(tactic| walk_at "MINE some") => `(tactic| repeat (first | exact All2.nil | refine All2.cons ⟨_, _, _, _, _, rfl, by walk_at "MINE in", by walk_at "MINE in", by walk_at "MINE pairs", by first | exact ⟨_, rfl⟩ | exact rfl⟩ ?_))
theorem add_O {prog : Program} {w : World} {A : Around} {E : Value → Shared → Prop} {s : Shared} {h₀ : Heap} {L l b : Addr} {m : Str → Option Value} {news : List (Addr × Obj)} {vs ws : List Value} {n k : Nat} {Q : Value → Shared → Prop} (F : Fr h₀ L s.heap m) (N : News h₀ L s.heap news) (m1 : (l, W.listOf vs.toArray n) ∈ news) (m2 : (b, W.listOf ws.toArray k) ∈ news) (hsz : vs.length + ws.length ≤ 1000)
    (h : ∀ h' x, Fr h₀ L h' m → News h₀ L h' ((x, W.listOf (vs ++ ws).toArray 0) :: news) → (∀ p ∈ news, @LT.lt Nat _ p.1 x) → Q (.ref x) { s with heap := h' }) :
    wpAny (model prog w) A (binaryOp .Add (.ref l) (.ref b)) Q E s :=
  add_lists (hsz := by rw [sizeLine_eq]; omega) F N (PySem.IsL.isList (n := n) (N.get m1)) (PySem.IsL.isList (n := k) (N.get m2)) fun h' F' N' => h h' _ F' N' fun p hp => ltS (N p hp).1
local macro_rules | `(tactic| walk_at "binaryOp Add ref ref") => `(tactic| (refine Halt.mk ?_))
section
variable {A A₀ : Around} {mean : ExcName → Option Value} {mg mb : Str → Option Value} {env : Env} {outer : List Env} {base h₀ : Heap} {L : Addr} {m : Str → Option Value} {news : List (Addr × Obj)} {s : Shared} {Q E : Value → Shared → Prop}
theorem draw_use1 (w : World) (K : Nat) {d lc : Addr} {od ol : Obj} {many : Int} {tm : Tok} {g1 : Obj → List (Addr × Obj)} {g2 : Obj → Obj → List (Addr × Obj)} (hD : Deck1 K lc od ol) (hne : @Ne Nat d lc) (h0 : 0 < many) (hK : K ≤ 1000)
    (B : Below A₀ base outer h₀) (F : Fr h₀ L s.heap m) (X : (KF w).In h₀) (N : News h₀ L s.heap news) (T : Top VV LL mean mg mb h₀) (hA : A.frames = some (env :: outer)) (hh : A.handled = none) (hd : A.depth ≤ 352) (hu : A.units ≤ 370)
    (hf : env.frame = some L) (hk : env.scope.kind = .function) (U1 : UpdF d od news g1) (U2 : ∀ o', UpdF lc ol (g1 o') (g2 o'))
    (ret : ∀ r t h' tk od' ol', Fr h₀ L h' m → News h₀ L h' (g2 od' ol') → Deck1 (K + 1) lc od' ol' → 0 ≤ r → r < many → Q (.int r t) { s with heap := h', toks := tk }) :
    wpAny (model PP w) A (call (.ref 142) [.ref d, .int many tm]) Q E s := by
  refine MutF.use2 (s_draw1 w K d lc od ol many tm hK hne h0 hD) B F X N T hA hh hd hu hf hk U1 U2 trivial ?_
  rintro v h' tk oa ob F' N' ⟨r, t, od', ol', rfl, r0, r1, e, hD'⟩
  cases e
  exact ret r t h' tk _ _ F' N' hD' r0 r1
theorem item_at {prog : Program} {w : World} {value slice : Expr} {l : Addr} {vs : List Value} {n : Nat} {k : Int} {u : Tok} (N : News h₀ L s.heap news) (hm : (l, W.listOf vs.toArray n) ∈ news) (h0 : 0 ≤ k) (h1 : k < (vs.length : Int)) (hb : vs.length ≤ 1000) (h : ∀ v, vs[k.toNat]? = some v → Q v s)
    (hs : subscripted slice false (.ref l) (.int k u) = operate [.ref l, .int k u] (getItem (.ref l) (.int k u)) := by with_unfolding_all rfl) (hg : ∀ r, letTemporaryGo value (.ref l) r = pure () := by intro _; with_unfolding_all rfl) :
    wpAny (model prog w) A (subscriptTail value slice (.ref l) (.int k u)) Q E s := by
  have hlt : k.toNat < vs.length := by omega
  exact item_listL (PySem.IsL.isList (n := n) (N.get hm)) h0 (by omega) (by simp [hlt]) (h vs[k.toNat] (by simp [hlt])) hs hg
end
local macro_rules | `(tactic| walk_at "call type:range") => `(tactic| (k_here; (with_unfolding_all refine range1_rows (by k_asm) (by k_asm) ?_); intro h' tk' t₁ u₁ v₁ hR' F' N' k'))
local macro_rules | `(tactic| walk_at "CompSrc") => `(tactic| (refine Halt.mk ?_))
local macro_rules | `(tactic| walk_at "CompEnd") => `(tactic| (refine Halt.mk ?_))
local macro_rules | `(tactic| walk_at "subscriptTail") => `(tactic| (k_here; walk_at "MINE g26"; refine Halt.mk ?_))
local macro_rules | `(tactic| walk_at "call ref") => `(tactic| (k_here; (with_reducible show wpAny _ _ (call (Value.ref 142) _) _ _ _); k_dflt (refine' draw_use1 _ _ ?kx ?ky ?kz ?kw ?k1 ?k2 ?k3 ?k4 ?k5 ?kA ?kh ?kd ?ku ?kf ?kk ?kU ?kV ?_; (case kx => assumption); (case ky => assumption); (case kz => decide); (case kw => omega); walk_at "MINE use"; (case kU => k_updF); (case kV => (intro _; k_updF)); k_whole; intro r' t' h' tk' od' ol' F' N' hD' hr0' hr1'; (try dsimp only at N'))))
def dueOf (q : RP) : Option Int := q.2.map fun k : Nat => (k : Int)
local macro_rules | `(tactic| walk_at "eval ListComp") => `(tactic| (refine Halt.mk ?_))
local macro_rules | `(tactic| walk_at "PairTest") => `(tactic| (refine Halt.mk ?_))
theorem take_due {xs : List RP} {i : Nat} {x : RP} (h : xs[i]? = some x) : (xs.take (i + 1)).filterMap dueOf = (xs.take i).filterMap dueOf ++ (dueOf x).toList := by
  rw [List.take_add_one, h, List.filterMap_append]
  cases hx : dueOf x <;> simp [hx]
theorem slice_t1 {prog : Program} {w : World} {A : Around} {E : Value → Shared → Prop} {h₀ : Heap} {L : Addr} {m : Str → Option Value} {news : List (Addr × Obj)} {value slice : Expr} {l : Addr} {vs : List Value} {ns : List Int} {u : Tok} {Q : Value → Shared → Prop} {h : Heap} {gg dr tk os}
    (F : Fr h₀ L h m) (N : News h₀ L h news) (hm : (l, LCg.lst vs) ∈ news) (hi : IntsAre vs ns) (hb : ns.length ≤ 1000)
    (hq : ∀ D ws h', Fr h₀ L h' m → News h₀ L h' ((D, W.listOf (List.toArray ws) 0) :: news) → IntsAre ws (ns.take 1) → Q (.ref D) ⟨h', gg, dr, tk, os⟩)
    (hs : subscripted slice false (.ref l) (.ref h.objs.size) = operate [.ref h.objs.size, .ref l] (getItem (.ref l) (.ref h.objs.size)))
    (hg : ∀ r, letTemporaryGo value (.ref l) r = pure ()) :
    wpAny (model prog w) A (subscriptTail value slice (.ref l) (.ref h.objs.size)) Q E ⟨h.push { cls := .type "slice", data := .fields #[.none, .int 1 u, .none] }, gg, dr, tk, os⟩ :=
  kmk_slice_ints (s := ⟨h, gg, dr, tk, os⟩) F N (isList_lst (N.get hm)) IsPart.none (IsPart.int _ _) hi (kmk_upto hi (by decide)) (List.length_take ..) (fun D ws h' F' N' _ hI _ _ => hq D ws h' F' N' hI) hs hg (by rw [List.size_toArray, hi.length, sizeLine_eq]; omega)
local macro_rules | `(tactic| walk_at "subscriptTail") => `(tactic| (k_here; (with_reducible show wpAny _ _ (subscriptTail _ _ (Value.ref _) (Value.ref _)) _ _ _); refine Halt.mk ?_))
theorem rest_invP {prog : Program} {w : World} {A : Around} {s : Shared} {h₀ : Heap} {L : Addr} {m : Str → Option Value} {env : Env} {elt : Expr} {x x₂ : Str} {scope : Scope} {cl : List (Str × Addr)} {S : List (Addr × Obj) → Prop} {P : Nat → Value → Prop} {Fin : List Value → List (Addr × Obj) → Prop} {n : Nat} {news : List (Addr × Obj)} (J : Nat → List Value → List (Addr × Obj) → Prop)
    (hj : J 0 [] news)
    (turn : ∀ i v ys news, i < n → P i v → J i ys news → ∃ (t : Addr) (ot : Obj) (v₁ v₂ : Value) (nt : Nat), v = .ref t ∧ (t, ot) ∈ news ∧ ot.cls = .type "tuple" ∧ ot.data = .seq #[v₁, v₂] nt ∧
      ∀ I oI C oC D m₂ h tk (E' : Value → Shared → Prop), LCg.NsObj oC m₂ → m₂ x = some v₁ → m₂ x₂ = some v₂ → Fr h₀ L h m → News h₀ L h ((I, oI) :: (C, oC) :: (D, LCg.lst ys) :: news) → LCg.Off3 I C D news → ((@Ne Nat I C) ∧ (@Ne Nat I D) ∧ (@Ne Nat C D)) →
      wpAny (model prog w) A (eval elt (compEnvC scope cl C env)) (LCg.CompEnd h₀ L m { s with heap := h, toks := tk } I oI C oC D (LCg.lst ys) S (fun y news' => J (i + 1) (ys ++ [y]) news')) E' { s with heap := h, toks := tk })
    (fin : ∀ ys news, J n ys news → Fin ys news) : LCp.CompRestP prog w A h₀ L m env elt x x₂ scope cl s S P Fin n 0 [] news := by
  have key : ∀ (j i : Nat) (ys : List Value) (news : List (Addr × Obj)), i + j = n → J i ys news → LCp.CompRestP prog w A h₀ L m env elt x x₂ scope cl s S P Fin j i ys news := by
    intro j
    induction j with
    | zero =>
      intro i ys news hi hJ
      exact fin ys news ((show i = n by omega) ▸ hJ)
    | succ j ih =>
      intro i ys news hi hJ
      refine LCp.CompRestP.succ ?_
      intro v hv
      obtain ⟨t, ot, v₁, v₂, nt, e, m1, c1, c2, body⟩ := turn i v ys news (by omega) hv hJ
      refine ⟨t, ot, v₁, v₂, nt, e, m1, c1, c2, fun I oI C oC D m₂ h tk E' hC hx hx2 F N off ne => ?_⟩
      refine wpAny_mono (body I oI C oC D m₂ h tk E' hC hx hx2 F N off ne) (fun y s' hq => ?_) fun _ _ e => e
      obtain ⟨h', tk', news', rfl, F', N', off', hS, hJ'⟩ := hq
      exact ⟨h', tk', news', rfl, F', N', off', hS, ih (i + 1) _ _ (by omega) hJ'⟩
  exact key n 0 [] news (by omega) hj
def LstAt (rest : List (Addr × Obj)) (q : RP) (v : Value) : Prop := ∃ l ws n, v = .ref l ∧ (l, W.listOf (List.toArray ws) n) ∈ rest ∧ All2 (PairIn rest) ws q.1
theorem some_ok : ∀ q ∈ some1 ++ some2, q.2 = wrongAt (-1) 0 q.1 ∧ q.1.length ≤ 3 := by decide
theorem first_due (p0 p1 p2 : RP) (h0 : p0.2 = wrongAt (-1) 0 p0.1) (h1 : p1.2 = wrongAt (-1) 0 p1.1) (h2 : p2.2 = wrongAt (-1) 0 p2.1) :
    match firstWrong p0.1 p1.1 p2.1 with | none => ([p0, p1, p2].filterMap dueOf).take 1 = [] | some k => ([p0, p1, p2].filterMap dueOf).take 1 = [(k : Int)] := by
  unfold firstWrong
  cases e0 : wrongAt (-1) 0 p0.1 with
  | some k => rw [e0] at h0; simp [List.filterMap_cons, dueOf, h0]
  | none =>
    rw [e0] at h0
    cases e1 : wrongAt (-1) 0 p1.1 with
    | some k => rw [e1] at h1; simp [List.filterMap_cons, dueOf, h0, h1]
    | none =>
      rw [e1] at h1
      cases e2 : wrongAt (-1) 0 p2.1 with
      | some k => rw [e2] at h2; simp [List.filterMap_cons, dueOf, h0, h1, h2]
      | none => rw [e2] at h2; simp [List.filterMap_cons, dueOf, h0, h1, h2]
theorem lstAt_ranges {h : Heap} {rest : List (Addr × Obj)} {q : RP} {l : Addr} {ws : List Value} {n : Nat} (hm : (l, W.listOf (List.toArray ws) n) ∈ rest) (hp : All2 (PairIn rest) ws q.1) (hb : q.1.length ≤ 3) (a : ∀ p ∈ rest, h.get? p.1 = some p.2) : RangesV h l ws q.1 :=
  rangesV_of (PySem.IsL.isList (n := n) (a _ hm)) (pairsIn_at hp a) (by omega)
local macro_rules | `(tactic| walk_at "SrcLP") => `(tactic| (refine Halt.mk ?_))
local macro_rules | `(tactic| walk_at "LastEnd") => `(tactic| (refine Halt.mk ?_))
local macro_rules | `(tactic| walk_at "call ref") => `(tactic| (k_here; (with_reducible show wpAny _ _ (call (Value.ref 194) _) _ _ _); refine Halt.mk ?_))
theorem len3 {α : Type} {l : List α} (h : l.length = 3) : ∃ a b c, l = [a, b, c] := by
  match l, h with
  | [a, b, c], _ => exact ⟨a, b, c, rfl⟩
theorem all2_3 {α : Type} {R : α → Value → Prop} {vs : List Value} {a b c : α} (h : All2 R vs [a, b, c]) : ∃ x y z, vs = [x, y, z] ∧ R a x ∧ R b y ∧ R c z := by
  cases h with
  | cons h1 h => cases h with
    | cons h2 h => cases h with
      | cons h3 h => cases h with
        | nil => exact ⟨_, _, _, rfl, h1, h2, h3⟩
theorem newTuple_b {M : Model} {A : Around} {E : Value → Shared → Prop} {s : Shared} {h₀ : Heap} {L b : Addr} {m : Str → Option Value} {news : List (Addr × Obj)} {vs : List Value} {Q : Value → Shared → Prop} (F : Fr h₀ L s.heap m) (N : News h₀ L s.heap news) (hb : @LT.lt Nat _ b s.heap.objs.size)
    (h : ∀ D h', Fr h₀ L h' m → News h₀ L h' ((D, { cls := .type "tuple", data := .seq vs.toArray }) :: news) → @LT.lt Nat _ b D → @LT.lt Nat _ b h'.objs.size → Q (.ref D) { s with heap := h' }) (hsz : vs.length ≤ sizeLine := by size_fits) : wpAny M A (newTuple vs) Q E s :=
  newTuple_N F N (fun h' F' N' => h _ h' F' N' hb (Nat.lt_trans hb (ltS (N' _ (.head _)).1))) hsz
theorem newList_b {M : Model} {A : Around} {E : Value → Shared → Prop} {s : Shared} {h₀ : Heap} {L b : Addr} {m : Str → Option Value} {news : List (Addr × Obj)} {vs : List Value} {Q : Value → Shared → Prop} (F : Fr h₀ L s.heap m) (N : News h₀ L s.heap news) (hb : @LT.lt Nat _ b s.heap.objs.size)
    (h : ∀ D h', Fr h₀ L h' m → News h₀ L h' ((D, W.listOf vs.toArray 0) :: news) → @LT.lt Nat _ b D → @LT.lt Nat _ b h'.objs.size → Q (.ref D) { s with heap := h' }) (hsz : vs.length ≤ sizeLine := by size_fits) : wpAny M A (newList vs) Q E s :=
  newList_N F N (fun h' F' N' => h _ h' F' N' hb (Nat.lt_trans hb (ltS (N' _ (.head _)).1))) hsz
local macro_rules | `(tactic| walk_at "newTuple") => `(tactic| (k_here; k_dflt (refine' newTuple_b ?F ?N ?b ?_; (case F => k_asm); (case N => k_asm); (case b => assumption); k_whole); intro D' h' F' N' l1 l2; (try k_sweep)))
local macro_rules | `(tactic| walk_at "newList") => `(tactic| (k_here; k_dflt (refine' newList_b ?F ?N ?b ?_; (case F => k_asm); (case N => k_asm); (case b => assumption); k_whole); intro D' h' F' N' l1 l2; (try k_sweep)))
theorem s_bad1 (w : World) (K : Nat) (d lc : Addr) (od ol : Obj) (hK : K ≤ 900) (hne : @Ne Nat d lc) (hD : Deck1 K lc od ol) :
    LastF PP w (KF w) VV LL 330 350 199 [.ref d] [(d, od), (lc, ol)] (.bool true) := by
  have XK := excK w
  w_top off
  unfold PP KF VV LL
  unfold KF at XK
  k_fill
  refine' LastF.enterC (binds := [(Str.ofString "deck", .ref d)]) ?k6 ?k7 ?k8 ?k9 ?kB ?kD ?c2 ?c3 ?c4 ?h
  walk_at "MINE openC"
  intro mean mg mb outer base g L s cells E B F N hlo Y XB TB X T
  k_cells Y
  rename_i oc2 oc1 hoc2 hoc1
  replace hoc1 : oc1.data = .cell (some (.ref d)) := hoc1
  (try dsimp only [List.cons_append, List.nil_append] at N)
  (try dsimp only); k_unmd
  k_fold
  have hdL : @LT.lt Nat _ d L := hlo (d, od) (.head _)
  have hlL : @LT.lt Nat _ lc L := hlo (lc, ol) (.tail _ (.head _))
  have hn1 : @Ne Nat (L + 1 + 1) d := by omega
  have hn2 : @Ne Nat (L + 1 + 1) lc := by omega
  have hn3 : @Ne Nat (L + 1) d := by omega
  have hn4 : @Ne Nat (L + 1) lc := by omega
  clear hlo
  have hLs : @LT.lt Nat _ (L + 1 + 1) s.heap.objs.size := ltS (N _ (.tail _ (.tail _ (.head _)))).1
  with_reducible refine cut (h₀ := g) (L := L) (fun m news => ∃ so sv n oc1 oc2 rest, news = (so, W.listOf (List.toArray sv) n) :: (d, od) :: (lc, ol) :: (L + 1 + 1, oc2) :: (L + 1, oc1) :: rest ∧ oc1.data = .cell (some (.ref d)) ∧ oc2.data = .cell (some (.ref so)) ∧ All2 (SomeAt rest) sv some1 ∧
    (∀ p ∈ (so, W.listOf (List.toArray sv) n) :: rest, p.1 ≠ d) ∧ (∀ p ∈ (so, W.listOf (List.toArray sv) n) :: rest, p.1 ≠ lc) ∧ (∀ p ∈ (so, W.listOf (List.toArray sv) n) :: rest, p.1 ≠ L + 1 + 1)) ?ha ?hb
  case ha =>
    k_steps
    unfold Halt
    rename Fr _ _ _ _ => F9
    rename News _ _ _ _ => N9
    obtain ⟨rest, so, sv, n, oc2, hN, hoc2, hs, ql⟩ : ∃ rest so sv n oc2, News g L _ ((so, W.listOf (List.toArray sv) n) :: (rest ++ [(d, od), (lc, ol), (L + 1 + 1, oc2), (L + 1, oc1)])) ∧ oc2.data = .cell (some (.ref so)) ∧ All2 (SomeAt rest) sv some1 ∧
        (∀ p ∈ (so, W.listOf (List.toArray sv) n) :: rest, @LT.lt Nat _ (L + 1 + 1) p.1) := by
      refine ⟨[_, _, _, _, _, _, _, _, _, _, _, _, _, _, _, _, _, _, _], _, _, _, _, N9, by assumption, ?_, ?_⟩
      · walk_at "MINE some"
      · repeat (first | exact List.forall_mem_nil _ | refine List.forall_mem_cons.mpr ⟨by with_reducible assumption, ?_⟩)
    have q1 : ∀ p ∈ (so, W.listOf (List.toArray sv) n) :: rest, p.1 ≠ d := fun p hp => neN (by have := ql p hp; omega)
    have q2 : ∀ p ∈ (so, W.listOf (List.toArray sv) n) :: rest, p.1 ≠ lc := fun p hp => neN (by have := ql p hp; omega)
    have q3 : ∀ p ∈ (so, W.listOf (List.toArray sv) n) :: rest, p.1 ≠ L + 1 + 1 := fun p hp => neN (by have := ql p hp; omega)
    refine CutN.intro F9 hN _ ?sub1 ⟨so, sv, n, oc1, oc2, rest, rfl, hoc1, hoc2, hs, q1, q2, q3⟩
    case sub1 => intro p hp; simp only [List.mem_cons, List.mem_append, List.not_mem_nil, or_false] at hp ⊢; rcases hp with hp | hp | hp | hp | hp | hp <;> simp [hp]
  clear F N hoc2 oc2
  rintro h2 tk2 m2 news2 F N ⟨so, sv, n, oc1, oc2, rest, rfl, hoc1, hoc2, hs, q1, q2, q3⟩
  (try dsimp only)
  have r1 : ∀ p ∈ rest, p.1 ≠ d := fun p hp => q1 p (.tail _ hp)
  have r2 : ∀ p ∈ rest, p.1 ≠ lc := fun p hp => q2 p (.tail _ hp)
  have r3 : ∀ p ∈ rest, p.1 ≠ L + 1 + 1 := fun p hp => q3 p (.tail _ hp)
  replace q1 : @Ne Nat so d := q1 _ (.head _)
  replace q2 : @Ne Nat so lc := q2 _ (.head _)
  replace q3 : @Ne Nat so (L + 1 + 1) := q3 _ (.head _)
  have hsv := hs.length
  have hLs2 : @LT.lt Nat _ (L + 1 + 1) h2.objs.size := ltS (N _ (.tail _ (.tail _ (.tail _ (.head _))))).1
  with_reducible refine cut (h₀ := g) (L := L) (fun m news => ∃ so sv n oc2 rest, news = (so, W.listOf (List.toArray sv) n) :: (d, od) :: (lc, ol) :: (L + 1 + 1, oc2) :: (L + 1, oc1) :: rest ∧ oc2.data = .cell (some (.ref so)) ∧ All2 (SomeAt rest) sv (some1 ++ some2) ∧
    @Ne Nat so d ∧ @Ne Nat so lc ∧ (∀ p ∈ rest, p.1 ≠ d) ∧ (∀ p ∈ rest, p.1 ≠ lc)) ?hc ?hd
  case hc =>
    k_steps
    unfold Halt
    refine' add_O ?mF ?mN ?ma ?mb ?mc ?_
    case mF => assumption
    case mN => assumption
    case ma => k_mem
    case mb => k_mem
    case mc => rw [hsv]; exact Nat.le_of_ble_eq_true rfl
    intro h9 so9 F9 N9 hlt
    have u1 : @LT.lt Nat _ d so9 := hlt (d, od) (by k_mem)
    have u2 : @LT.lt Nat _ lc so9 := hlt (lc, ol) (by k_mem)
    have u3 : @LT.lt Nat _ (L + 1 + 1) so9 := hlt (L + 1 + 1, oc2) (by k_mem)
    clear hlt
    k_steps
    unfold Halt
    rename Fr _ _ _ _ => F9
    rename News _ _ _ _ => N9
    obtain ⟨pre, so8, ws, n8, oc8, hN, hoc8, hs8, ql⟩ : ∃ pre so8 ws n8 oc8, News g L _ ((so9, W.listOf (sv ++ ws).toArray n8) :: so8 :: (pre ++ (so, W.listOf (List.toArray sv) n) :: (d, od) :: (lc, ol) :: (L + 1 + 1, oc8) :: (L + 1, oc1) :: rest)) ∧ oc8.data = .cell (some (.ref so9)) ∧ All2 (SomeAt pre) ws some2 ∧
        (∀ p ∈ pre, @LT.lt Nat _ (L + 1 + 1) p.1) := by
      refine ⟨[_, _, _, _, _, _, _, _, _, _, _, _], _, _, _, _, N9, by assumption, ?_, ?_⟩
      · walk_at "MINE some"
      · repeat (first | exact List.forall_mem_nil _ | refine List.forall_mem_cons.mpr ⟨by with_reducible assumption, ?_⟩)
    have q4 : ∀ p ∈ pre, p.1 ≠ d := fun p hp => neN (by have := ql p hp; omega)
    have q5 : ∀ p ∈ pre, p.1 ≠ lc := fun p hp => neN (by have := ql p hp; omega)
    refine CutN.intro F9 hN ((so9, W.listOf (sv ++ ws).toArray n8) :: (d, od) :: (lc, ol) :: (L + 1 + 1, oc8) :: (L + 1, oc1) :: (pre ++ rest)) ?sub2 ⟨so9, _, _, oc8, pre ++ rest, rfl, hoc8, (hs.mono fun _ _ z => z.more fun p hp => List.mem_append_right _ hp).append (hs8.mono fun _ _ z => z.more fun p hp => List.mem_append_left _ hp), by omega, by omega, ?_, ?_⟩
    case sub2 => intro p hp; simp only [List.mem_cons, List.mem_append] at hp ⊢; rcases hp with hp | hp | hp | hp | hp | hp | hp <;> simp [hp]
    · exact fun p hp => (List.mem_append.mp hp).elim (q4 p) (r1 p)
    · exact fun p hp => (List.mem_append.mp hp).elim (q5 p) (r2 p)
  clear F N hs q1 q2 q3 r1 r2 r3 hsv n oc2 hoc2
  rintro h3 tk3 m3 news3 F N ⟨so, sv, n, oc2, rest, rfl, hoc2, hs, q1, q2, r1, r2⟩
  (try dsimp only)
  have hsv := hs.length
  with_reducible refine cut (h₀ := g) (L := L) (fun m news => ∃ od ol pk ys qs, news = (pk, LCg.lst ys) :: (so, W.listOf (List.toArray sv) n) :: (d, od) :: (lc, ol) :: (L + 1 + 1, oc2) :: (L + 1, oc1) :: rest ∧ m (Str.ofString "picked") = some (.ref pk) ∧ All2 (SomeAt rest) ys qs ∧ (∀ q ∈ qs, q ∈ some1 ++ some2) ∧ qs.length = 3) ?he ?hf
  case he =>
    (try k_unmd); (try k_fold)
    refine LCg.Assign_ListComp_U F (by rfl) (by with_unfolding_all rfl) (by with_unfolding_all rfl) (by decide) (by rfl) (by decide) (by rfl) (by rfl) (by rfl) ?_
    (try k_unmd); (try k_fold)
    k_steps
    unfold Halt
    refine LCg.CompSrc.range (n := 3) rfl (by assumption) (by assumption) (by assumption) (by rfl) (by rfl) (by rw [sizeLine_eq]; omega) (fun g' => rest_inv (fun i ys nw => ∃ od ol qs, nw = (so, W.listOf (List.toArray sv) n) :: (d, od) :: (lc, ol) :: (L + 1 + 1, oc2) :: (L + 1, oc1) :: rest ∧ Deck1 (K + i) lc od ol ∧ All2 (SomeAt rest) ys qs ∧ (∀ q ∈ qs, q ∈ some1 ++ some2) ∧ qs.length = i)
      ⟨_, _, [], rfl, hD, .nil, (fun _ h => nomatch h), rfl⟩ (fun i v ys nw I2 oI2 C2 oC2 D2 m9 h9 tk9 E9 hi hP hJ hC hx F N off ne => ?t3turn) ?t3fin)
    case t3turn =>
      clear hD
      obtain ⟨od, ol, qs, rfl, hD, hys, hqs, hql⟩ := hJ
      have hm := off.mem
      obtain ⟨_, _, _⟩ : @Ne Nat d I2 ∧ @Ne Nat d C2 ∧ @Ne Nat d D2 := hm (d, od) (by simp)
      obtain ⟨_, _, _⟩ : @Ne Nat lc I2 ∧ @Ne Nat lc C2 ∧ @Ne Nat lc D2 := hm (lc, ol) (by simp)
      clear hm
      (try k_unmd); (try k_fold)
      k_steps
      unfold Halt
      rename Int => r9
      refine' item_at ?iN ?im ?i0 ?i1 ?ib ?iv
      case iN => assumption
      case im => k_mem
      case i0 => assumption
      case i1 => rw [hsv]; show r9 < 8; assumption
      case ib => rw [hsv]; exact Nat.le_of_ble_eq_true rfl
      intro v9 hv9
      k_steps
      unfold Halt
      obtain ⟨q9, hq9, hs9⟩ := hs.at_ hv9
      refine ⟨_, _, _, rfl, by assumption, by assumption, ?_, trivial, _, _, qs ++ [q9], rfl, by assumption, hys.append (.cons hs9 .nil), ?_, by simp [hql]⟩
      · exact off
      · intro q hq
        rcases List.mem_append.mp hq with hq | hq
        · exact hqs q hq
        · rw [List.mem_singleton.mp hq]; exact List.mem_of_getElem? hq9
    case t3fin =>
      rintro ys nw ⟨od, ol, qs, rfl, hD, hys, hqs, hql⟩ D9 h9 tk9 F N o1
      exact CutN.intro F N _ (fun p hp => hp) ⟨od, ol, D9, ys, qs, rfl, rfl, hys, hqs, hql⟩
  clear F N hD od ol hs hsv
  rintro h4 tk4 m4 news4 F N ⟨od, ol, pk, ys, qs, rfl, hm1, hys, hqs, hql⟩
  (try dsimp only)
  replace F := frOver F [(Str.ofString "picked", .ref pk)] (allCons hm1 allNil)
  clear hm1
  with_reducible refine cut (h₀ := g) (L := L) (fun m news => ∃ du ws n, news = (du, W.listOf (List.toArray ws) n) :: (pk, LCg.lst ys) :: rest ∧ m (Str.ofString "picked") = some (.ref pk) ∧ m (Str.ofString "due") = some (.ref du) ∧ IntsAre ws ((qs.filterMap dueOf).take 1)) ?hg ?hh
  case hg =>
    (try k_unmd); (try k_fold)
    k_steps
    unfold Halt
    refine ListComp_pt (h₀ := g) (L := L) (m := over [(Str.ofString "picked", .ref pk)] m4) (by with_unfolding_all rfl) (by decide) (by rfl) (by decide) (by rfl) (by rfl) (by decide) ?_
    (try k_unmd); (try k_fold)
    k_steps
    unfold Halt
    have hysl := hys.length
    refine ⟨pk, ys.toArray, ys.length, _, fun i zs nw => nw = (pk, LCg.lst ys) :: (so, W.listOf (List.toArray sv) n) :: (d, od) :: (lc, ol) :: (L + 1 + 1, oc2) :: (L + 1, oc1) :: rest ∧ IntsAre zs ((qs.take i).filterMap dueOf), rfl, rfl, by assumption, by assumption, by rw [List.size_toArray, hysl, hql, sizeLine_eq]; omega, ⟨rfl, .nil⟩, ?h4J, ?h4t, ?h4f⟩
    case h4J =>
      rintro i zs nw ⟨rfl, hI⟩
      refine ⟨.head _, ?_⟩
      rw [hI.length]
      exact Nat.le_trans (List.length_filterMap_le _ _) (by simp; omega)
    case h4t =>
      rintro i v zs nw hv ⟨rfl, hI⟩
      obtain ⟨q, hq, t, l, ws, pv, n1, rfl, ht, hl, hws, hpv⟩ := hys.at_ (show ys[i]? = some v by simpa using hv)
      refine ⟨t, _, _, _, _, rfl, .tail _ (.tail _ (.tail _ (.tail _ (.tail _ (.tail _ ht))))), rfl, rfl, fun I2 oI2 C2 oC2 D2 m9 h9 tk9 E9 hC hx hx2 F N off ne => ?_⟩
      clear hv
      cases hqp : q.2 with
      | none =>
        rw [hqp] at hpv
        replace hpv : pv = .none := hpv
        subst hpv
        (try k_unmd); (try k_fold)
        k_steps
        unfold Halt
        have hd : dueOf q = none := by rw [dueOf, hqp]; rfl
        exact ⟨_, _, _, rfl, by assumption, by assumption, off, trivial, rfl, by rw [take_due hq, hd]; simpa using hI⟩
      | some k =>
        rw [hqp] at hpv
        obtain ⟨tp, rfl⟩ := hpv
        (try k_unmd); (try k_fold)
        k_steps
        unfold Halt
        have hd : dueOf q = some (k : Int) := by rw [dueOf, hqp]; rfl
        exact ⟨_, _, _, rfl, by assumption, by assumption, off, trivial, rfl, by rw [take_due hq, hd]; exact hI.append (.cons _ _ .nil)⟩
    case h4f =>
      rintro zs nw ⟨rfl, hI⟩ D9 h9 tk9 F N o1
      rw [List.size_toArray, hysl, List.take_length] at hI
      (try k_unmd); (try k_fold)
      k_steps
      unfold Halt
      have hdl : (qs.filterMap dueOf).length ≤ 3 := hql ▸ List.length_filterMap_le _ _
      refine kba_turn (value' := PySem.Expr.Name (PySem.Str.ofString "_") ⟨0, 0, 0, 0⟩) (fun _ => rfl) ?_
      refine' slice_t1 ?sF ?sN ?sm ?si ?sb ?_ ?ss ?sg
      case sF => assumption
      case sN => assumption
      case sm => exact .head _
      case si => assumption
      case sb => omega
      case ss => with_unfolding_all rfl
      case sg => intro _; with_unfolding_all rfl
      intro D ws h' F9 N9 hI9
      k_steps
      unfold Halt
      exact CutN.intro (by assumption) (by assumption) ((D, W.listOf ws.toArray 0) :: (pk, LCg.lst ys) :: rest) (by walk_at "MINE sub") ⟨D, ws, 0, rfl, rfl, rfl, hI9⟩
  clear F N
  rintro h5 tk5 m5 news5 F N ⟨du, ws, n5, rfl, hm1, hm2, hdu⟩
  (try dsimp only)
  replace F := frOver F [(Str.ofString "picked", .ref pk), (Str.ofString "due", .ref du)] (allCons hm1 (allCons hm2 allNil))
  clear hm1 hm2
  (try k_unmd); (try k_fold)
  k_steps
  unfold Halt
  have hysl := hys.length
  refine LCp.ListComp_P (m := over [(Str.ofString "picked", .ref pk), (Str.ofString "due", .ref du)] m5) F (by with_unfolding_all rfl) (by decide) (by rfl) (by decide) (by rfl) (by rfl) (by decide) ?_
  (try k_unmd); (try k_fold)
  k_steps
  unfold Halt
  refine LCp.SrcLP.ledger (k := ys.length) rfl (by assumption) (by assumption) (.tail _ (.head _)) (by rw [List.size_toArray, hysl, hql, sizeLine_eq]; omega) (fun g' => rest_invP (fun i zs nw => nw = (du, W.listOf ws.toArray n5) :: (pk, LCg.lst ys) :: rest ∧ All2 (LstAt rest) zs (qs.take i)) ⟨rfl, .nil⟩ ?h5t ?h5f)
  case h5t =>
    rintro i v zs nw hi hv ⟨rfl, hI⟩
    obtain ⟨q, hq, t, l, vs, pv, n1, rfl, ht, hl, hws, hpv⟩ := hys.at_ (show ys[i]? = some v by simpa using hv)
    refine ⟨t, _, _, _, _, rfl, .tail _ (.tail _ ht), rfl, rfl, fun I2 oI2 C2 oC2 D2 m9 h9 tk9 E9 hC hx hx2 F N off ne => ?_⟩
    clear hv
    (try k_unmd); (try k_fold)
    k_steps
    unfold Halt
    refine ⟨_, _, _, rfl, by assumption, by assumption, off, ?_, rfl, ?_⟩
    · exact .inr ⟨_, .tail _ (.head _), rfl, _, rfl⟩
    · rw [List.take_add_one, hq]
      exact hI.append (.cons ⟨l, vs, n1, rfl, hl, hws⟩ .nil)
  case h5f =>
    rintro zs nw ⟨rfl, hI⟩ lo h9 tk9 F N o1
    rw [List.size_toArray, hysl, List.take_length] at hI
    (try k_unmd); (try k_fold)
    k_steps
    unfold Halt
    obtain ⟨p0, p1, p2, rfl⟩ := len3 hql
    obtain ⟨x0, x1, x2, rfl, a0, a1, a2⟩ := all2_3 hI
    obtain ⟨l0, w0, n0, rfl, b0, c0⟩ := a0
    obtain ⟨l1, w1, n1, rfl, b1, c1⟩ := a1
    obtain ⟨l2, w2, n2, rfl, b2, c2⟩ := a2
    have o0 := some_ok _ (hqs p0 (by simp))
    have o1 := some_ok _ (hqs p1 (by simp))
    have o2 := some_ok _ (hqs p2 (by simp))
    have hfst := first_due p0 p1 p2 o0.1 o1.1 o2.1
    refine CatchG.use (s_refused1 w lo l0 l1 l2 w0 w1 w2 p0.1 p1.1 p2.1) B F XB N TB (by rfl) (by rfl) (Nat.le_of_ble_eq_true rfl) (Nat.le_of_ble_eq_true rfl) (by rfl) (by rfl) ?h5p ?h5r
    case h5p =>
      intro hh st hall
      have hr : ∀ p ∈ rest, hh.get? p.1 = some p.2 := fun p hp => hall p (.tail _ (.tail _ (.tail _ hp)))
      exact ⟨isList_lst (hall _ (.head _)), lstAt_ranges b0 c0 o0.2 hr, lstAt_ranges b1 c1 o1.2 hr, lstAt_ranges b2 c2 o2.2 hr⟩
    case h5r =>
      have hst := Below.hid_stays B
      have XG := XB.keeps hst
      have TG := TB.keeps hst
      clear F N X T B XB TB
      intro v9 h9 tk9 F N hr9
      cases hf : firstWrong p0.1 p1.1 p2.1 with
      | none =>
        rw [hf] at hfst hr9
        replace hr9 : v9 = Value.none := hr9
        subst hr9
        dsimp only at hfst
        rw [hfst] at hdu
        cases hdu
        (try k_unmd); (try k_fold)
        k_steps
        unfold Halt
        exact LastEnd.intro hst (by assumption) rfl
      | some k =>
        rw [hf] at hfst hr9
        obtain ⟨t9, rfl⟩ := hr9
        dsimp only at hfst
        rw [hfst] at hdu
        (try k_unmd); (try k_fold)
        k_steps
        all_goals unfold Halt
        · exfalso
          rename decide _ = true => hb
          exact List.cons_ne_nil _ _ (of_decide_eq_true hb)
        · exact LastEnd.intro hst (by assumption) (by simp)
set_option maxHeartbeats 4000000
local macro_rules | `(tactic| walk_at "call ref") => `(tactic| (k_here; (with_reducible show wpAny _ _ (call (Value.ref 149) _) _ _ _); refine Halt.mk ?_))
def AllNe2 (d lc : Addr) : List Addr → Prop
  | [] => True
  | a :: r => (@Ne Nat a d ∧ @Ne Nat a lc) ∧ AllNe2 d lc r
def AllNe3 (a b c : Addr) : List Addr → Prop
  | [] => True
  | x :: r => (@Ne Nat x a ∧ @Ne Nat x b ∧ @Ne Nat x c) ∧ AllNe3 a b c r
local macro_rules | `(tactic| walk_at "setItem ref int") => `(tactic| (k_here; k_dflt (refine' set_DI (by k_asm) (by k_asm) (by k_updF) (by assumption) (by omega) ?_; k_whole); intro h' o' tk' F' N' hd'; (try dsimp only at N')))
local macro_rules | `(tactic| walk_at "pyIter ref") => `(tactic| ((with_reducible show wpAny _ _ (pyIter _) (fun it s₂ => LoopAtV _ _ _ _ _ _ _ _ _ it s₂) _ _); refine Halt.mk ?_))
local macro_rules | `(tactic| walk_at "subscriptTail") => `(tactic| (k_here; walk_at "MINE g28"; (with_unfolding_all refine' item_strL (by k_asm) (by k_mem) (by assumption) (by rfl) ?_; k_whole); intro tk'))
local macro_rules | `(tactic| walk_at "call builtin:len") => `(tactic| (k_here; walk_at "MINE g0"; k_dflt (refine' len_DI (by k_asm) (by k_mem) (by assumption) (by assumption) (by omega) ?_; k_whole); intro t' tk'))
local macro_rules | `(tactic| walk_at "compareOp In int ref") => `(tactic| (k_here; k_dflt (refine' in_DL (by k_asm) (by k_mem) (by assumption) (by assumption) ?_; k_whole); intro tk'))
theorem codes_pos {c : Int} (h : c ∈ lawCodes1) : 0 ≤ c := by
  have key : ∀ c ∈ lawCodes1, 0 ≤ c := by decide
  exact key c h
theorem Deck1.le {K K' : Nat} {lc : Addr} {od ol : Obj} (h : Deck1 K lc od ol) (hk : K ≤ K') : Deck1 K' lc od ol := by
  obtain ⟨vs, cs, k, t, n, n', e1, e2, hI, hl, h0, h1⟩ := h
  exact ⟨vs, cs, k, t, n, n', e1, e2, hI, hl, h0, by omega⟩
theorem GoodK.le {i j : Nat} {ks : List Int} (g : GoodK i ks) (h : i ≤ j) : GoodK j ks := ⟨g.1, Nat.le_trans g.2.1 h, g.2.2⟩
local macro_rules | `(tactic| walk_at "TurnW") => `(tactic| (refine Halt.mk ?_))
local macro_rules | `(tactic| walk_at "pyIter ref") => `(tactic| ((with_reducible show wpAny _ _ (pyIter _) (fun it s₂ => TurnsAt _ _ _ _ _ _ _ _ _ it s₂) _ _); refine Halt.mk ?_))
theorem tup3_get {x y z v : Value} {j : Nat} (h : #[x, y, z][j]? = some v) : (j = 0 ∧ v = x) ∨ (j = 1 ∧ v = y) ∨ (j = 2 ∧ v = z) := by
  match j, h with
  | 0, h => exact .inl ⟨rfl, (Option.some.inj h).symm⟩
  | 1, h => exact .inr (.inl ⟨rfl, (Option.some.inj h).symm⟩)
  | 2, h => exact .inr (.inr ⟨rfl, (Option.some.inj h).symm⟩)
  | n + 3, h => exact absurd (Array.getElem?_eq_some_iff.mp h).1 (by simp)
theorem off_map {I : Addr} {l l' : List (Addr × Obj)} (h : ∀ p ∈ l, p.1 ≠ I) (e : l.map (·.1) = l'.map (·.1)) : ∀ p ∈ l', p.1 ≠ I := fun p hp => by
  have : p.1 ∈ l.map (·.1) := e ▸ List.mem_map_of_mem hp
  obtain ⟨q, hq, e'⟩ := List.mem_map.mp this
  exact e' ▸ h q hq
theorem off_map1 {I : Addr} {oI : Obj} {l l' : List (Addr × Obj)} (h : ∀ p ∈ l, p.1 ≠ I) (e : l.map (·.1) = l'.map (·.1)) : ∀ p ∈ l', p.1 ∉ adrs [(I, oI)] := fun p hp hm => off_map h e p hp (List.mem_singleton.mp hm)
local macro_rules | `(tactic| walk_at "MINE good") => `(tactic| assumption)
local macro_rules | `(tactic| walk_at "call ref") => `(tactic| (k_here; (with_reducible show wpAny _ _ (call (Value.ref 170) _) _ _ _); refine Halt.mk ?_))
local macro_rules | `(tactic| walk_at "call ref") => `(tactic| (k_here; walk_at "MINE g2"; refine Halt.mk ?_))
theorem news_sub {h₀ h : Heap} {L : Addr} {l all : List (Addr × Obj)} (N : News h₀ L h all) (sub : ∀ p ∈ l, p ∈ all) : News h₀ L h l := fun p hp => N p (sub p hp)
theorem news_mid {h₀ h : Heap} {L : Addr} (l : List (Addr × Obj)) {fz fz' : List (Addr × Obj)} (N : News h₀ L h (fz ++ (l ++ fz'))) : News h₀ L h (l ++ (fz ++ fz')) := fun p hp => N p (by
  simp only [List.mem_append] at hp ⊢
  rcases hp with hp | hp | hp <;> simp [hp])
local macro_rules | `(tactic| walk_at "MINE led") => `(tactic| exact RAt.led (by k_asm) (by assumption) (by walk_at "MINE sub"))
local macro_rules | `(tactic| walk_at "MINE tab") => `(tactic| exact tab_led (by k_asm) (by k_mem) (by k_mem) (by walk_at "MINE led") (by walk_at "MINE led") (by walk_at "MINE led"))
local macro_rules | `(tactic| walk_at "MINE wat") => `(tactic| exact wat_ledA)
local macro_rules | `(tactic| walk_at "call ref") => `(tactic| (k_here; walk_at "MINE g13"; k_dflt (refine' PureF.useA (s_lwidth1 _ _ _ _ _ _ _ _ _ ?kv0 ?kv1) ?kp ?_; (case kp => walk_at "MINE wat"); walk_at "MINE a2"; k_whole; walk_at "MINE retI")))
local macro_rules | `(tactic| walk_at "MINE bound") => `(tactic| first | omega | decide)
local macro_rules | `(tactic| walk_at "call builtin:len") => `(tactic| (k_here; walk_at "MINE g0"; k_dflt (refine' seqI_lenH (by exact SeqI.led (by k_asm) (by k_mem) (by assumption) (by walk_at "MINE bound")) ?_; k_whole; intro t' tk')))
local macro_rules | `(tactic| walk_at "call type:enumerate") => `(tactic| (refine Halt.mk ?_))
local macro_rules | `(tactic| walk_at "MINE seq") => `(tactic| first | exact SeqI.led (by k_asm) (by k_mem) (by assumption) (by omega) | exact ⟨_, .inr (News.isTup (by k_asm) (by k_mem)), by assumption, by omega⟩)
local macro_rules | `(tactic| walk_at "call ref") => `(tactic| (k_here; (with_reducible show wpAny _ _ (call (Value.ref 130) _) _ _ _); k_dflt (refine' PureF.useA (s_joins _ _ _ _ _ _ _ _ _ ?kv0 ?kv1 ?kv2) ?kp ?_; (case kp => exact ⟨by walk_at "MINE seq", by walk_at "MINE tab"⟩); walk_at "MINE a3"; k_whole; walk_at "MINE retV")))
local macro_rules | `(tactic| walk_at "call ref") => `(tactic| (k_here; (with_reducible show wpAny _ _ (call (Value.ref 135) _) _ _ _); k_dflt (refine' PureF.useA (s_cluster _ _ _ _ _ _ _ _ ?kv0 ?kv1 ?kv2) ?kp ?_; (case kp => exact ⟨News.isTup (by k_asm) (by k_mem), by assumption, by omega, by walk_at "MINE tab"⟩); walk_at "MINE a3"; k_whole; walk_at "MINE retI")))
local macro_rules | `(tactic| walk_at "MINE list") => `(tactic| first | exact PySem.IsL.isList (News.get (by k_asm) (by k_mem)) | exact isList_lst (News.get (by k_asm) (by k_mem)))
local macro_rules | `(tactic| walk_at "call ref") => `(tactic| (k_here; (with_reducible show wpAny _ _ (call (Value.ref 182) _) _ _ _); k_dflt (refine' PureF.useA (s_ljoins1 _ _ _ _ _ _ _ _ _ _ _ _ _ ?kv0 ?kv1 ?kv2) ?kp ?_; (case kp => exact ⟨by walk_at "MINE wat", by walk_at "MINE list", by assumption, by omega⟩); walk_at "MINE a3"; k_whole; walk_at "MINE retV")))
local macro_rules | `(tactic| walk_at "call ref") => `(tactic| (k_here; (with_reducible show wpAny _ _ (call (Value.ref 187) _) _ _ _); k_dflt (refine' PureF.useA (s_lcolumns1 _ _ _ _ _ _ _ _ _ _ _ ?kv0 ?kv1 ?kv2) ?kp ?_; (case kp => exact ⟨by walk_at "MINE wat", by walk_at "MINE list", by assumption, by omega⟩); walk_at "MINE a3"; k_whole; walk_at "MINE retI")))
theorem tup2_get {x y v : Value} {j : Nat} (h : #[x, y][j]? = some v) : (j = 0 ∧ v = x) ∨ (j = 1 ∧ v = y) := by
  match j, h with
  | 0, h => exact .inl ⟨rfl, (Option.some.inj h).symm⟩
  | 1, h => exact .inr ⟨rfl, (Option.some.inj h).symm⟩
  | n + 2, h => exact absurd (Array.getElem?_eq_some_iff.mp h).1 (by simp)
theorem off_two {e it x : Addr} {oe oi o o' : Obj} {c : Addr} {l : List (Addr × Obj)} (h1 : ∀ p ∈ (c, o') :: l, p.1 ≠ e) (h2 : ∀ p ∈ (c, o') :: l, p.1 ≠ it) (x1 : @Ne Nat x e) (x2 : @Ne Nat x it) : ∀ p ∈ (x, o) :: l, p.1 ∉ adrs [(e, oe), (it, oi)] := by
  intro p hp hm
  have q : p.1 = e ∨ p.1 = it := by simpa [adrs] using hm
  rcases List.mem_cons.mp hp with rfl | hp
  · exact q.elim x1 x2
  · exact q.elim (h1 p (.tail _ hp)) (h2 p (.tail _ hp))
local macro_rules | `(tactic| walk_at "MINE sub2") => `(tactic| (dsimp only [List.cons_append, List.nil_append]; walk_at "MINE sub"))
local macro_rules | `(tactic| walk_at "call ref") => `(tactic| (k_here; (with_reducible show wpAny _ _ (call (Value.ref 199) _) _ _ _); refine Halt.mk ?_))
theorem goodW_boolS {c : ClaimW} {cl : Str → Option Addr} {mean : ExcName → Option Value} {args : List WData} {s₁ s' : Shared} {b : Bool} (hs : s₁.heap.StaysIn s'.heap) (hg : s'.gens = #[]) (hn : ∀ cls, c.raises args cls = false) (hp : c.post args (.bool b) args = true) (hos : s'.os = s₁.os := by rfl) :
    GoodW c cl mean args s₁ (.ok (.ret (.bool b))) s' := ⟨.inl ⟨_, _, _, rfl, hn, .bool b, hp, unshared_nil⟩, fun b o e => hs b o e, hos, hg⟩
theorem post1 (ns : List Int) : PySem.Challenge.rw_og0230_01.row.claim.post [ofPy (PyData.list (ns.map PyData.int))] (.bool true) [ofPy (PyData.list (ns.map PyData.int))] = true := by
  wrow_post
set_option maxHeartbeats 8000000 in
theorem law1 : PySem.Challenge.rw_og0230_01.Holds := by
  w_top on
  refine hd ?_
  k_go0
  rename Shared => s₁
  rename World => w
  rename Fr _ _ _ _ => F
  rename IntsAre _ _ => hI
  rename Heap.IsList _ _ _ => hL
  rename Top _ _ _ _ _ _ => T
  rename Frag.In _ _ => X
  rename Below _ _ _ _ => B
  rename CellsAre _ _ _ => Y
  rename News _ _ _ _ => N
  rename _ = Data.cell _ => hc
  rename ¬ (_ < _) => hcond
  rename Dflts .. => z1
  rename Heap.CodeRec .. => z2
  rename TopW .. => z3
  rename TopE .. => z4
  rename Tables .. => z5
  rename BMod .. => z6
  rename LooseAre .. => z8
  rename ReadsAllW .. => z9
  rename Reads .. => z10
  rename ReadsAll .. => z11
  rename Well .. => z12
  clear z1 z2 z3 z4 z5 z6 z8 z9 z10 z11 z12
  dsimp only at F ⊢
  change Below callerA s₁.heap [] s₁.heap at B
  k_unmd
  clear Y
  generalize hLL : s₁.heap.objs.size = L at F N ⊢
  k_fold
  have hln := hI.length
  with_reducible refine cut (h₀ := s₁.heap) (L := L) (fun m news => ∃ d lc ca od ol oc1 oc2 cvs cn, news = [(d, od), (lc, ol), (L + 1 + 1, oc2), (L + 1, oc1), (ca, W.listOf (List.toArray cvs) cn)] ∧ oc1.data = .cell (some (.ref d)) ∧ oc2.data = .cell (some (.ref ca)) ∧ Deck1 0 lc od ol ∧ IntsAre cvs lawCodes1 ∧ @Ne Nat d lc ∧ AllNe2 d lc [L + 1 + 1, L + 1, ca]) ?ha ?hb
  case ha =>
    (try k_unmd); (try k_fold)
    k_steps
    unfold Halt
    rename IntsAre _ _ => hdI
    refine' ListFn.use (s_codes1 _) ?k1 ?k2 ?k3 ?k4 ?k5 ?kA ?kh ?kd ?ku ?kf ?kk ?kp ?_; walk_at "MINE use"; (case kp => exact trivial)
    intro ca cvs cn h1 tk1 G1 F N hcI hoff
    have hne1 := neN (hoff (L + 1 + 1, _) (by k_mem))
    have hne2 := neN (hoff (L + 1, _) (by k_mem))
    k_steps
    unfold Halt
    have hdl := hdI.length
    rw [List.length_take] at hdl
    rename News _ _ _ _ => N9
    obtain ⟨tx, tobj, d, lc, dx, ws, t0, n0, c0, ox, oc2, oc1, hN9, e1, e2, hwI, hwl, f1, f2, f3, hoff⟩ : ∃ tx tobj d lc dx ws t0 n0 c0 ox oc2 oc1, News s₁.heap L _ [(tx, tobj), (ca, W.listOf cvs.toArray cn), (d, W.listOf #[.ref lc, .int 0 t0] n0), (lc, W.listOf (List.toArray ws) c0), (dx, ox), (L + 1 + 1, oc2), (L + 1, oc1)] ∧
        oc1.data = .cell (some (.ref d)) ∧ oc2.data = .cell (some (.ref ca)) ∧ IntsAre ws _ ∧ ws.length = _ ∧ @LT.lt Nat _ lc d ∧ @LT.lt Nat _ (L + 1 + 1) lc ∧ @LT.lt Nat _ (L + 1) lc ∧ (@Ne Nat d ca ∧ @Ne Nat lc ca) :=
      ⟨_, _, _, _, _, _, _, _, _, _, _, _, N9, by assumption, by assumption, hdI, hdl, by omega, by omega, by omega, hoff _ (.head _), hoff _ (.tail _ (.head _))⟩
    exact CutN.intro (by assumption) hN9 [(d, _), (lc, _), (L + 1 + 1, _), (L + 1, _), (ca, _)] (by walk_at "MINE sub") ⟨_, _, ca, _, _, _, _, cvs, cn, rfl, e1, e2, ⟨_, _, _, _, _, _, rfl, rfl, hwI, by omega, by omega, by omega⟩, hcI, by omega, ⟨by omega, by omega⟩, ⟨by omega, by omega⟩, ⟨Ne.symm hoff.1, Ne.symm hoff.2⟩, trivial⟩
  clear F N hc hLL
  rename _ = Data.cell _ => hc
  clear hc
  rintro h2 tk2 m2 news2 F N ⟨d, lc, ca, od, ol, oc1, oc2, cvs, cn, rfl, hoc1, hoc2, hD, hcI, hn1, hne⟩
  (try dsimp only)
  dsimp only [AllNe2] at hne
  rcases hne with ⟨⟨_, _⟩, ⟨_, _⟩, ⟨_, _⟩, -⟩
  with_reducible refine cut (h₀ := s₁.heap) (L := L) (fun m news => ∃ wd a b c ow oa ob oc, news = [(wd, ow), (a, oa), (b, ob), (c, oc), (d, od), (lc, ol), (L + 1 + 1, oc2), (L + 1, oc1), (ca, W.listOf (List.toArray cvs) cn)] ∧ m (Str.ofString "w") = some (.ref wd) ∧
    ow.IsDictOf (strKind PP w) (kvs3 a b c) ∧ DObj PP w oa [] ∧ DObj PP w ob [] ∧ DObj PP w oc [] ∧ (a == sysModules) = false ∧ (b == sysModules) = false ∧ (c == sysModules) = false ∧ AllNe2 d lc [wd, a, b, c] ∧ (@Ne Nat a b ∧ @Ne Nat a c ∧ @Ne Nat b c) ∧ AllNe3 a b c [wd, L + 1 + 1, L + 1, ca]) ?hc ?hd
  case hc =>
    (try k_unmd); (try k_fold)
    k_steps
    unfold Halt
    rename News _ _ _ _ => N9
    obtain ⟨wd, a, b, c, ow, oa, ob, oc, hN9, hw, ⟨i1, i2, i3⟩, ⟨y1, y2, y3⟩, ⟨l1, l2, l3⟩, l4, l5, mm, F9, hmm⟩ : ∃ wd a b c ow oa ob oc, News s₁.heap L _ [(c, oc), (b, ob), (a, oa), (wd, ow), (d, od), (lc, ol), (L + 1 + 1, oc2), (L + 1, oc1), (ca, W.listOf cvs.toArray cn)] ∧
        ow.IsDictOf (strKind PP w) (kvs3 a b c) ∧ (oa.IsDictOf (intKind PP w) [] ∧ ob.IsDictOf (intKind PP w) [] ∧ oc.IsDictOf (intKind PP w) []) ∧ ((a == sysModules) = false ∧ (b == sysModules) = false ∧ (c == sysModules) = false) ∧
        (@LT.lt Nat _ wd a ∧ @LT.lt Nat _ a b ∧ @LT.lt Nat _ b c) ∧ (@LT.lt Nat _ d wd ∧ @LT.lt Nat _ lc wd) ∧ (@LT.lt Nat _ (L + 1 + 1) wd ∧ @LT.lt Nat _ (L + 1) wd ∧ @LT.lt Nat _ ca wd) ∧ ∃ mm, Fr s₁.heap L _ mm ∧ mm (Str.ofString "w") = some (.ref wd) :=
      ⟨_, _, _, _, _, _, _, _, N9, by assumption, ⟨by assumption, by assumption, by assumption⟩, ⟨by assumption, by assumption, by assumption⟩, ⟨by omega, by omega, by omega⟩, ⟨by omega, by omega⟩, ⟨by omega, by omega, by omega⟩, _, by assumption, rfl⟩
    refine CutN.intro F9 hN9 [(wd, ow), (a, oa), (b, ob), (c, oc), (d, od), (lc, ol), (L + 1 + 1, oc2), (L + 1, oc1), (ca, W.listOf cvs.toArray cn)] (by walk_at "MINE sub") ⟨wd, a, b, c, _, _, _, _, rfl, hmm, hw, ⟨[], i1, .nil⟩, ⟨[], i2, .nil⟩, ⟨[], i3, .nil⟩, y1, y2, y3, ⟨⟨by omega, by omega⟩, ⟨by omega, by omega⟩, ⟨by omega, by omega⟩, ⟨by omega, by omega⟩, trivial⟩, ⟨by omega, by omega, by omega⟩, ⟨⟨by omega, by omega, by omega⟩, ⟨by omega, by omega, by omega⟩, ⟨by omega, by omega, by omega⟩, ⟨by omega, by omega, by omega⟩, trivial⟩⟩
  clear F N
  rintro h3 tk3 m3 news3 F N ⟨wd, a, b, c, ow, oa, ob, oc, rfl, hm1, hw, hA0, hB0, hC0, ly1, ly2, ly3, hne, hn2, hne3⟩
  (try dsimp only)
  dsimp only [AllNe2, AllNe3] at hne hne3
  rcases hne with ⟨⟨_, _⟩, ⟨_, _⟩, ⟨_, _⟩, ⟨_, _⟩, -⟩
  rcases hn2 with ⟨_, _, _⟩
  rcases hne3 with ⟨⟨_, _, _⟩, ⟨_, _, _⟩, ⟨_, _, _⟩, ⟨_, _, _⟩, -⟩
  replace F := frOver F [(Str.ofString "w", .ref wd)] (allCons hm1 allNil)
  clear hm1
  have hcl := hcI.length
  with_reducible refine cut (h₀ := s₁.heap) (L := L) (fun m news => ∃ od ol oa ob oc W M J, news = [(wd, ow), (a, oa), (b, ob), (c, oc), (d, od), (lc, ol), (L + 1 + 1, oc2), (L + 1, oc1), (ca, PySem.W.listOf (List.toArray cvs) cn)] ∧ m (Str.ofString "w") = some (.ref wd) ∧
    Deck1 40 lc od ol ∧ DObj PP w oa W ∧ DObj PP w ob M ∧ DObj PP w oc J ∧ GoodK 40 W ∧ GoodK 40 M ∧ GoodK 40 J) ?he ?hf
  case he =>
    (try k_unmd); (try k_fold)
    refine For_invVF F (by rfl) (by rfl) ?_
    (try k_unmd); (try k_fold)
    k_steps
    unfold Halt
    refine for_listN (fun i m news => ∃ od ol oa ob oc W M J, news = [(wd, ow), (a, oa), (b, ob), (c, oc), (d, od), (lc, ol), (L + 1 + 1, oc2), (L + 1, oc1), (ca, PySem.W.listOf (List.toArray cvs) cn)] ∧ m (Str.ofString "w") = some (.ref wd) ∧
      Deck1 i lc od ol ∧ DObj PP w oa W ∧ DObj PP w ob M ∧ DObj PP w oc J ∧ GoodK i W ∧ GoodK i M ∧ GoodK i J) (ax := ca) (ox := PySem.W.listOf (List.toArray cvs) cn) (by rfl) (by rfl) (by rfl) (by k_mem) (by rintro i m nw ⟨od, ol, oa, ob, oc, W, M, J, rfl, -⟩; k_mem) (by assumption) (by assumption)
      ⟨od, ol, oa, ob, oc, [], [], [], rfl, rfl, hD, hA0, hB0, hC0, GoodK.nil _, GoodK.nil _, GoodK.nil _⟩ ?t3 ?d3
    case d3 =>
      rintro m news h tk ⟨od, ol, oa, ob, oc, W, M, J, rfl, e1, hD, hA, hB, hC, g1, g2, g3⟩ F N
      rw [List.size_toArray, hcl] at hD g1 g2 g3
      exact CutN.intro F N _ (fun p hp => hp) ⟨od, ol, oa, ob, oc, W, M, J, rfl, e1, hD.le (by decide), hA, hB, hC, g1.le (by decide), g2.le (by decide), g3.le (by decide)⟩
    case t3 =>
      clear hD hA0 hB0 hC0 F N
      rintro i v m1 news1 h6 tk6 I oI hv ⟨od, ol, oa, ob, oc, W, M, J, rfl, e1, hD, hA, hB, hC, g1, g2, g3⟩ hoff F N
      have hi : i < 40 := by
        have := (Array.getElem?_eq_some_iff.mp hv).1
        rw [List.size_toArray, hcl] at this
        exact Nat.lt_of_lt_of_le this (by decide)
      obtain ⟨cc, tc, rfl, hcc⟩ := ints_item hcI hv
      have hc0 : 0 ≤ cc := codes_pos (List.mem_of_getElem? hcc)
      change Fr s₁.heap L _ _ at F
      change News s₁.heap L _ _ at N
      have n1 : @Ne Nat d I := hoff (d, od) (by k_mem)
      have n2 : @Ne Nat lc I := hoff (lc, ol) (by k_mem)
      have n3 : @Ne Nat a I := hoff (a, oa) (by k_mem)
      have n4 : @Ne Nat b I := hoff (b, ob) (by k_mem)
      have n5 : @Ne Nat c I := hoff (c, oc) (by k_mem)
      replace F := frOver F [(Str.ofString "code", .int cc tc), (Str.ofString "w", .ref wd)] (allCons rfl (allCons e1 allNil))
      (try k_unmd); (try k_fold)
      k_steps
      unfold Halt
      clear hD
      rename_i r9 tb _ _ od9 ol9 hD9 hr0 hr1 _ T0 _ l0 T1 _ l1 T2 _ l2 TT _ F9 N9 l3
      obtain ⟨t0, u0, t1, u1, t2, u2, N8⟩ : ∃ t0 u0 t1 u1 t2 u2, News s₁.heap L _ [(TT, { cls := .type "tuple", data := .seq #[.ref T0, .ref T1, .ref T2] }), (T2, { cls := .type "tuple", data := .seq #[.int 4 t2, .str (Str.ofString "pictures") u2] }), (T1, { cls := .type "tuple", data := .seq #[.int 2 t1, .str (Str.ofString "marks") u1] }), (T0, { cls := .type "tuple", data := .seq #[.int 1 t0, .str (Str.ofString "wide") u0] }), (I, oI), (wd, ow), (a, oa), (b, ob), (c, oc), (d, od9), (lc, ol9), (L + 1 + 1, oc2), (L + 1, oc1), (ca, PySem.W.listOf (List.toArray cvs) cn)] := ⟨_, _, _, _, _, _, N9⟩
      have hne9 : AllNe3 a b c [TT, T2, T1, T0] := ⟨⟨by omega, by omega, by omega⟩, ⟨by omega, by omega, by omega⟩, ⟨by omega, by omega, by omega⟩, ⟨by omega, by omega, by omega⟩, trivial⟩
      dsimp only [AllNe3] at hne9
      rcases hne9 with ⟨⟨_, _, _⟩, ⟨_, _, _⟩, ⟨_, _, _⟩, ⟨_, _, _⟩, -⟩
      clear l0 l1 l2 l3
      obtain ⟨RR, hRR⟩ : ∃ RR : List (Addr × Obj), RR = [(TT, { cls := .type "tuple", data := .seq #[.ref T0, .ref T1, .ref T2] }), (I, oI), (d, od9), (lc, ol9), (L + 1 + 1, oc2), (L + 1, oc1), (ca, PySem.W.listOf (List.toArray cvs) cn)] := ⟨_, rfl⟩
      have N7 : News s₁.heap L _ ((T2, { cls := .type "tuple", data := .seq #[.int 4 t2, .str (Str.ofString "pictures") u2] }) :: (T1, { cls := .type "tuple", data := .seq #[.int 2 t1, .str (Str.ofString "marks") u1] }) :: (T0, { cls := .type "tuple", data := .seq #[.int 1 t0, .str (Str.ofString "wide") u0] }) :: (a, oa) :: (b, ob) :: (c, oc) :: (wd, ow) :: RR) := news_sub N8 (by rw [hRR]; walk_at "MINE sub")
      have qa : ∀ p ∈ RR, p.1 ≠ a := by rw [hRR]; walk_at "MINE all"
      have qb : ∀ p ∈ RR, p.1 ≠ b := by rw [hRR]; walk_at "MINE all"
      have qc : ∀ p ∈ RR, p.1 ≠ c := by rw [hRR]; walk_at "MINE all"
      have mTT : (TT, { cls := .type "tuple", data := .seq #[.ref T0, .ref T1, .ref T2] }) ∈ RR := by rw [hRR]; k_mem
      refine for_tupT (fun j m nw => ∃ oa ob oc W M J, nw = (T2, { cls := .type "tuple", data := .seq #[.int 4 t2, .str (Str.ofString "pictures") u2] }) :: (T1, { cls := .type "tuple", data := .seq #[.int 2 t1, .str (Str.ofString "marks") u1] }) :: (T0, { cls := .type "tuple", data := .seq #[.int 1 t0, .str (Str.ofString "wide") u0] }) :: (a, oa) :: (b, ob) :: (c, oc) :: (wd, ow) :: RR ∧
        m (Str.ofString "w") = some (.ref wd) ∧ m (Str.ofString "code") = some (.int cc tc) ∧ m (Str.ofString "bits") = some (.int r9 tb) ∧ DObj PP w oa W ∧ DObj PP w ob M ∧ DObj PP w oc J ∧ GoodK (i + min 1 j) W ∧ GoodK (i + min 1 (j - 1)) M ∧ GoodK (i + min 1 (j - 2)) J)
        (by rfl) (by rfl) (by rfl) (List.Mem.tail _ (List.Mem.tail _ (List.Mem.tail _ (List.Mem.tail _ (List.Mem.tail _ (List.Mem.tail _ (List.Mem.tail _ mTT))))))) (by rintro j m nw ⟨oa, ob, oc, W, M, J, rfl, -⟩; exact .tail _ (.tail _ (.tail _ (.tail _ (.tail _ (.tail _ (.tail _ mTT))))))) F9 N7 ⟨oa, ob, oc, W, M, J, rfl, rfl, rfl, rfl, hA, hB, hC, g1, g2, g3⟩ ?t3i ?d3i
      case d3i =>
        rintro m nw h tk ⟨oa, ob, oc, W, M, J, rfl, e1, -, -, hA, hB, hC, g1, g2, g3⟩ F N
        rw [hRR] at N
        k_steps
        unfold Halt
        refine TurnV.intro F N [(wd, ow), (a, oa), (b, ob), (c, oc), (d, od9), (lc, ol9), (L + 1 + 1, oc2), (L + 1, oc1), (ca, PySem.W.listOf (List.toArray cvs) cn)] (by walk_at "MINE sub") (off_map hoff rfl) ⟨od9, ol9, oa, ob, oc, W, M, J, rfl, e1, hD9, hA, hB, hC, g1, g2, g3⟩
      case t3i =>
        clear F9 N7 hA hB hC g1 g2 g3 hRR
        rintro j v m2 nw2 h7 tk7 I2 oI2 hv ⟨oa, ob, oc, W, M, J, rfl, e1, e2, e3, hA, hB, hC, g1, g2, g3⟩ hoff2 F N
        have gg1 := g1.next
        have gg2 := g2.next
        have gg3 := g3.next
        have ga1 := g1.add hc0
        have ga2 := g2.add hc0
        have ga3 := g3.add hc0
        change Fr s₁.heap L _ _ at F
        change News s₁.heap L _ _ at N
        have n6 : @Ne Nat a I2 := hoff2 (a, oa) (by k_mem)
        have n7 : @Ne Nat b I2 := hoff2 (b, ob) (by k_mem)
        have n8 : @Ne Nat c I2 := hoff2 (c, oc) (by k_mem)
        replace F := frOver F [(Str.ofString "code", .int cc tc), (Str.ofString "w", .ref wd), (Str.ofString "bits", .int r9 tb)] (allCons e2 (allCons e1 (allCons e3 allNil)))
        have y1 : W.length ≤ 1000 := by have := g1.2.1; omega
        have y2 : M.length ≤ 1000 := by have := g2.2.1; omega
        have y3 : J.length ≤ 1000 := by have := g3.2.1; omega
        rcases tup3_get hv with ⟨rfl, rfl⟩ | ⟨rfl, rfl⟩ | ⟨rfl, rfl⟩
        all_goals (try k_unmd); (try k_fold)
        all_goals repeat' ((fail_if_success (with_reducible show Halt _)); first | (k_unfold; (try dsimp only)) | (k_end; wrow_close) | walk1 | (dsimp only; walk1) | (leave1; walk_say "STEP leave1"; try dsimp only) | fail "no step")
        all_goals unfold Halt
        all_goals rename News _ _ _ _ => N9
        all_goals exact TurnW.intro (by assumption) N9 _ (fun p hp => hp) (off_map1 hoff2 rfl) ⟨_, _, _, _, _, _, rfl, rfl, rfl, rfl, by assumption, by assumption, by assumption, by walk_at "MINE good", by walk_at "MINE good", by walk_at "MINE good"⟩
  clear F N hD hA0 hB0 hC0 od ol oa ob oc
  rintro h4 tk4 m4 news4 F N ⟨od, ol, oa, ob, oc, W', M', J', rfl, hm1, hD, hA, hB, hC, g1, g2, g3⟩
  (try dsimp only)
  replace F := frOver F [(Str.ofString "w", .ref wd)] (allCons hm1 allNil)
  clear hm1
  with_reducible refine cut (h₀ := s₁.heap) (L := L) (fun m news => ∃ st ts, news = [(wd, ow), (a, oa), (b, ob), (c, oc), (d, od), (lc, ol), (L + 1 + 1, oc2), (L + 1, oc1), (ca, PySem.W.listOf (List.toArray cvs) cn)] ∧ m (Str.ofString "w") = some (.ref wd) ∧ m (Str.ofString "step") = some (.int st ts)) ?hg ?hh
  case hg =>
    have y1 : W'.length ≤ 1000 := by have := g1.2.1; omega
    have y2 : M'.length ≤ 1000 := by have := g2.2.1; omega
    (try k_unmd); (try k_fold)
    k_steps
    unfold Halt
    exact CutN.intro (by assumption) (by assumption) _ (fun p hp => hp) ⟨_, _, rfl, rfl, rfl⟩
  clear F N
  rintro h5 tk5 m5 news5 F N ⟨st, ts, rfl, hm1, hm2⟩
  (try dsimp only)
  replace F := frOver F [(Str.ofString "w", .ref wd), (Str.ofString "step", .int st ts)] (allCons hm1 (allCons hm2 allNil))
  clear hm1 hm2
  with_reducible refine cut (h₀ := s₁.heap) (L := L) (fun m news => ∃ t dx i1 i2 i3 k1 k2 k3 l0 l1 l2 v0 v1 v2 W M J fz, news = (t, instObj 100 dx) :: (dx, tabDict i1 i2 i3 k1 k2 k3 l0 l1 l2) :: (wd, ow) :: (a, oa) :: (b, ob) :: (c, oc) :: (d, od) :: (lc, ol) :: (L + 1 + 1, oc2) :: (L + 1, oc1) :: (ca, PySem.W.listOf (List.toArray cvs) cn) :: fz ∧ m (Str.ofString "w") = some (.ref wd) ∧ m (Str.ofString "table") = some (.ref t) ∧
    (RAt fz l0 v0 W ∧ RAt fz l1 v1 M ∧ RAt fz l2 v2 J) ∧ (ValidR W ∧ ValidR M ∧ ValidR J) ∧ (Agr W W' ∧ Agr M M' ∧ Agr J J') ∧ (∀ p ∈ fz, p.1 ≠ d) ∧ (∀ p ∈ fz, p.1 ≠ lc) ∧ AllNe2 d lc [t, dx]) ?hi ?hj
  case hi =>
    (try k_unmd); (try k_fold)
    k_steps
    unfold Halt
    refine' ranges_use _ ?km ?kl ?kD ?kg ?k1 ?k2 ?k3 ?k4 ?k5 ?kA ?kh ?kd ?ku ?kf ?kk ?_; walk_at "MINE use"
    case km => k_mem
    case kl => assumption
    case kD => assumption
    case kg => assumption
    intro l0 v0 W z0 h0 tk0 F N r0 V0 A0 q0
    replace N : News s₁.heap L h0 ((wd, ow) :: (a, oa) :: (b, ob) :: (c, oc) :: (d, od) :: (lc, ol) :: (L + 1 + 1, oc2) :: (L + 1, oc1) :: (ca, PySem.W.listOf (List.toArray cvs) cn) :: (z0 ++ [])) := news_mid [(wd, ow), (a, oa), (b, ob), (c, oc), (d, od), (lc, ol), (L + 1 + 1, oc2), (L + 1, oc1), (ca, PySem.W.listOf (List.toArray cvs) cn)] (fz' := []) N
    rw [List.append_nil] at N
    k_steps
    unfold Halt
    refine' ranges_use _ ?km ?kl ?kD ?kg ?k1 ?k2 ?k3 ?k4 ?k5 ?kA ?kh ?kd ?ku ?kf ?kk ?_; walk_at "MINE use"
    case km => k_mem
    case kl => assumption
    case kD => assumption
    case kg => assumption
    intro l1 v1 M z1 h1 tk1 F N r1 V1 A1 q1
    replace N : News s₁.heap L h1 ((wd, ow) :: (a, oa) :: (b, ob) :: (c, oc) :: (d, od) :: (lc, ol) :: (L + 1 + 1, oc2) :: (L + 1, oc1) :: (ca, PySem.W.listOf (List.toArray cvs) cn) :: (z1 ++ z0)) := news_mid [(wd, ow), (a, oa), (b, ob), (c, oc), (d, od), (lc, ol), (L + 1 + 1, oc2), (L + 1, oc1), (ca, PySem.W.listOf (List.toArray cvs) cn)] (fz' := z0) N
    k_steps
    unfold Halt
    refine' ranges_use _ ?km ?kl ?kD ?kg ?k1 ?k2 ?k3 ?k4 ?k5 ?kA ?kh ?kd ?ku ?kf ?kk ?_; walk_at "MINE use"
    case km => k_mem
    case kl => assumption
    case kD => assumption
    case kg => assumption
    intro l2 v2 J z2 h2 tk2 F N r2 V2 A2 q2
    replace N : News s₁.heap L h2 ((wd, ow) :: (a, oa) :: (b, ob) :: (c, oc) :: (d, od) :: (lc, ol) :: (L + 1 + 1, oc2) :: (L + 1, oc1) :: (ca, PySem.W.listOf (List.toArray cvs) cn) :: (z2 ++ (z1 ++ z0))) := news_mid [(wd, ow), (a, oa), (b, ob), (c, oc), (d, od), (lc, ol), (L + 1 + 1, oc2), (L + 1, oc1), (ca, PySem.W.listOf (List.toArray cvs) cn)] (fz' := z1 ++ z0) N
    replace r0 : RAt (z2 ++ (z1 ++ z0)) l0 v0 W := r0.more fun p hp => List.mem_append_right _ (List.mem_append_right _ hp)
    replace r1 : RAt (z2 ++ (z1 ++ z0)) l1 v1 M := r1.more fun p hp => List.mem_append_right _ (List.mem_append_left _ hp)
    replace r2 : RAt (z2 ++ (z1 ++ z0)) l2 v2 J := r2.more fun p hp => List.mem_append_left _ hp
    have hzd : ∀ p ∈ z2 ++ (z1 ++ z0), p.1 ≠ d := fun p hp => (List.mem_append.mp hp).elim (fun hp => q2 p hp (d, od) (by k_mem)) fun hp => (List.mem_append.mp hp).elim (fun hp => q1 p hp (d, od) (by k_mem)) fun hp => q0 p hp (d, od) (by k_mem)
    have hzl : ∀ p ∈ z2 ++ (z1 ++ z0), p.1 ≠ lc := fun p hp => (List.mem_append.mp hp).elim (fun hp => q2 p hp (lc, ol) (by k_mem)) fun hp => (List.mem_append.mp hp).elim (fun hp => q1 p hp (lc, ol) (by k_mem)) fun hp => q0 p hp (lc, ol) (by k_mem)
    clear q0 q1 q2
    generalize z2 ++ (z1 ++ z0) = fz at *
    k_steps
    unfold Halt
    refine' table_use _ V0 V1 V2 ?k1 ?k2 ?k3 ?k4 ?k5 ?kA ?kh ?kd ?ku ?kf ?kk ?kr0 ?kr1 ?kr2 ?_; walk_at "MINE use"
    case kr0 => exact r0.led N (by walk_at "MINE sub")
    case kr1 => exact r1.led N (by walk_at "MINE sub")
    case kr2 => exact r2.led N (by walk_at "MINE sub")
    intro t dx i1 i2 i3 k1 k2 k3 h3 tk3 F N hoff
    have e1 := hoff (d, od) (by k_mem)
    have e2 := hoff (lc, ol) (by k_mem)
    clear hoff
    k_steps
    unfold Halt
    exact CutN.intro (by assumption) (by assumption) _ (fun p hp => hp) ⟨t, dx, _, _, _, _, _, _, l0, l1, l2, v0, v1, v2, W, M, J, fz, rfl, rfl, rfl, ⟨r0, r1, r2⟩, ⟨V0, V1, V2⟩, ⟨A0, A1, A2⟩, hzd, hzl, ⟨Ne.symm e1.1, Ne.symm e2.1⟩, ⟨Ne.symm e1.2, Ne.symm e2.2⟩, trivial⟩
  clear F N
  rintro h6 tk6 m6 news6 F N ⟨t, dx, i1, i2, i3, k1, k2, k3, l0, l1, l2, v0, v1, v2, W, M, J, fz, rfl, hm1, hm2, ⟨r0, r1, r2⟩, ⟨V0, V1, V2⟩, ⟨A0, A1, A2⟩, hzd, hzl, hne⟩
  (try dsimp only)
  dsimp only [AllNe2] at hne
  rcases hne with ⟨⟨_, _⟩, ⟨_, _⟩, -⟩
  replace F := frOver F [(Str.ofString "w", .ref wd), (Str.ofString "table", .ref t)] (allCons hm1 (allCons hm2 allNil))
  clear hm1 hm2
  with_reducible refine cut (h₀ := s₁.heap) (L := L) (fun m news => news = (t, instObj 100 dx) :: (dx, tabDict i1 i2 i3 k1 k2 k3 l0 l1 l2) :: (wd, ow) :: (a, oa) :: (b, ob) :: (c, oc) :: (d, od) :: (lc, ol) :: (L + 1 + 1, oc2) :: (L + 1, oc1) :: (ca, PySem.W.listOf (List.toArray cvs) cn) :: fz ∧ m (Str.ofString "w") = some (.ref wd) ∧ m (Str.ofString "table") = some (.ref t)) ?hk ?hl
  case hk =>
    (try k_unmd); (try k_fold)
    refine For_invVF F (by rfl) (by rfl) ?_
    (try k_unmd); (try k_fold)
    k_steps
    unfold Halt
    refine' add_O (l := ca) (vs := cvs) (n := cn) ?mF ?mN ?ma ?mb ?mc ?_
    case mF => assumption
    case mN => assumption
    case ma => k_mem
    case mb => k_mem
    case mc => rw [hcl]; exact Nat.le_of_ble_eq_true rfl
    intro h9 x9 F9 N9 hlt
    clear hlt
    (try k_unmd); (try k_fold)
    k_steps
    unfold Halt
    obtain ⟨us, N8, hus⟩ : ∃ us, News s₁.heap L h9 ((x9, PySem.W.listOf (List.toArray us) 0) :: _ :: (t, instObj 100 dx) :: (dx, tabDict i1 i2 i3 k1 k2 k3 l0 l1 l2) :: (wd, ow) :: (a, oa) :: (b, ob) :: (c, oc) :: (d, od) :: (lc, ol) :: (L + 1 + 1, oc2) :: (L + 1, oc1) :: (ca, PySem.W.listOf (List.toArray cvs) cn) :: fz) ∧ IntsAre us (lawCodes1 ++ [99, 112, 0, 1114111]) := ⟨_, N9, hcI.append (.cons _ _ (.cons _ _ (.cons _ _ (.cons _ _ .nil))))⟩
    refine for_listN (fun i m news => news = (x9, PySem.W.listOf (List.toArray us) 0) :: (t, instObj 100 dx) :: (dx, tabDict i1 i2 i3 k1 k2 k3 l0 l1 l2) :: (wd, ow) :: (a, oa) :: (b, ob) :: (c, oc) :: (d, od) :: (lc, ol) :: (L + 1 + 1, oc2) :: (L + 1, oc1) :: (ca, PySem.W.listOf (List.toArray cvs) cn) :: fz ∧ m (Str.ofString "w") = some (.ref wd) ∧ m (Str.ofString "table") = some (.ref t)) (by rfl) (by rfl) (by rfl) (List.Mem.head _) (by rintro i m nw ⟨rfl, -⟩; exact .head _) F9 (fun p hp => N8 p (by
        rcases List.mem_cons.mp hp with rfl | hp
        · exact .head _
        · exact .tail _ (.tail _ hp))) ⟨rfl, rfl, rfl⟩ ?t6 ?d6
    case d6 =>
      rintro m news h tk ⟨rfl, e1, e2⟩ F N
      exact CutN.intro F N _ (fun p hp => .tail _ hp) ⟨rfl, e1, e2⟩
    case t6 =>
      clear F9 N9 N8
      rintro j v m8 news8 h8 tk8 I8 oI8 hv ⟨rfl, e1, e2⟩ hoff8 F N
      obtain ⟨cc, tc, rfl, hcc⟩ := ints_item hus hv
      change Fr s₁.heap L _ _ at F
      change News s₁.heap L _ _ at N
      replace F := frOver F [(Str.ofString "code", .int cc tc), (Str.ofString "w", .ref wd), (Str.ofString "table", .ref t)] (allCons rfl (allCons e1 (allCons e2 allNil)))
      (try k_unmd); (try k_fold)
      k_steps
      all_goals unfold Halt
      · exact absurd rfl (by assumption)
      · exfalso
        rename (_ != _) = true => hb
        rw [A2 cc] at hb
        simp at hb
      · exfalso
        rename (_ != _) = true => hb
        simp at hb
      · exfalso
        rename (_ != _) = true => hb
        simp at hb
      · exact TurnV.intro (by assumption) (by assumption) _ (fun p hp => hp) hoff8 ⟨rfl, rfl, rfl⟩
  clear F N
  rintro h7 tk7 m7 news7 F N ⟨rfl, hm1, hm2⟩
  (try dsimp only)
  replace F := frOver F [(Str.ofString "w", .ref wd), (Str.ofString "table", .ref t)] (allCons hm1 (allCons hm2 allNil))
  clear hm1 hm2
  with_reducible refine cut (h₀ := s₁.heap) (L := L) (fun m news => ∃ od ol ce rw ys ns, news = (rw, LCg.lst ys) :: (ce, PySem.W.listOf #[] 0) :: (t, instObj 100 dx) :: (dx, tabDict i1 i2 i3 k1 k2 k3 l0 l1 l2) :: (wd, ow) :: (a, oa) :: (b, ob) :: (c, oc) :: (d, od) :: (lc, ol) :: (L + 1 + 1, oc2) :: (L + 1, oc1) :: (ca, PySem.W.listOf (List.toArray cvs) cn) :: fz ∧ m (Str.ofString "w") = some (.ref wd) ∧ m (Str.ofString "table") = some (.ref t) ∧ m (Str.ofString "cell") = some (.ref ce) ∧ m (Str.ofString "row") = some (.ref rw) ∧
    Deck1 60 lc od ol ∧ IntsAre ys ns ∧ ns.length ≤ 7) ?hm ?hn
  case hm =>
    (try k_unmd); (try k_fold)
    k_steps
    unfold Halt
    rename_i ce _ F8 _ lce
    have hce1 : @Ne Nat ce d := by omega
    have hce2 : @Ne Nat ce lc := by omega
    clear lce
    refine LCg.ListComp_U F8 (by with_unfolding_all rfl) (by decide) (by rfl) (by decide) (by rfl) ?_
    (try k_unmd); (try k_fold)
    k_steps
    unfold Halt
    clear hD
    rename Deck1 _ _ _ _ => hD
    rename Int => r9
    have hq0 : 0 ≤ r9 := by assumption
    have hq1 : r9 < 8 := by assumption
    refine LCg.CompSrc.range (n := r9.toNat) rfl (by assumption) (by assumption) (by assumption) (small_one (by omega) (by omega) (by omega) (by omega)) (by rw [rangeSize_nat, Int.sub_zero]) (by rw [sizeLine_eq]; omega) (fun g' => rest_inv (fun i ys nw => ∃ od ol ns, nw = (ce, PySem.W.listOf #[] 0) :: (t, instObj 100 dx) :: (dx, tabDict i1 i2 i3 k1 k2 k3 l0 l1 l2) :: (wd, ow) :: (a, oa) :: (b, ob) :: (c, oc) :: (d, od) :: (lc, ol) :: (L + 1 + 1, oc2) :: (L + 1, oc1) :: (ca, PySem.W.listOf (List.toArray cvs) cn) :: fz ∧ Deck1 (41 + i) lc od ol ∧ IntsAre ys ns ∧ ns.length = i)
      ⟨_, _, [], rfl, hD, .nil, rfl⟩ (fun i v ys nw I2 oI2 C2 oC2 D2 m9 h9 tk9 E9 hi hP hJ hC hx F N off ne => ?t7turn) ?t7fin)
    case t7turn =>
      clear hD
      obtain ⟨od, ol, ns, rfl, hD, hys, hnl⟩ := hJ
      have h41 : 41 + i ≤ 1000 := by clear ne; omega
      have hm := off.mem
      obtain ⟨_, _, _⟩ : @Ne Nat d I2 ∧ @Ne Nat d C2 ∧ @Ne Nat d D2 := hm (d, od) (by k_mem)
      obtain ⟨_, _, _⟩ : @Ne Nat lc I2 ∧ @Ne Nat lc C2 ∧ @Ne Nat lc D2 := hm (lc, ol) (by k_mem)
      clear hm
      (try k_unmd); (try k_fold)
      k_steps
      unfold Halt
      rename Int => r8
      refine' item_at (l := ca) (vs := cvs) (n := cn) ?iN ?im ?i0 ?i1 ?ib ?iv
      case iN => assumption
      case im => k_mem
      case i0 => assumption
      case i1 => rw [hcl]; assumption
      case ib => rw [hcl]; exact Nat.le_of_ble_eq_true rfl
      intro v9 hv9
      obtain ⟨c9, t9, rfl, -⟩ := ints_item hcI (show cvs.toArray[r8.toNat]? = some v9 by simpa using hv9)
      k_steps
      unfold Halt
      refine ⟨_, _, _, rfl, by assumption, by assumption, ?_, trivial, _, _, ns ++ [c9], rfl, by assumption, hys.append (.cons _ _ .nil), by simp [hnl]⟩
      exact off
    case t7fin =>
      rintro ys nw ⟨od, ol, ns, rfl, hD, hIs, hnl⟩ rw9 h9 tk9 F N o1
      (try k_unmd); (try k_fold)
      k_steps
      unfold Halt
      exact CutN.intro (by assumption) (by assumption) ((rw9, LCg.lst ys) :: (ce, PySem.W.listOf #[] 0) :: (t, instObj 100 dx) :: (dx, tabDict i1 i2 i3 k1 k2 k3 l0 l1 l2) :: (wd, ow) :: (a, oa) :: (b, ob) :: (c, oc) :: (d, od) :: (lc, ol) :: (L + 1 + 1, oc2) :: (L + 1, oc1) :: (ca, PySem.W.listOf (List.toArray cvs) cn) :: fz) (by walk_at "MINE sub") ⟨od, ol, ce, rw9, ys, ns, rfl, rfl, rfl, rfl, rfl, hD.le (by omega), hIs, by omega⟩
  clear F N hD od ol
  rintro h8 tk8 m8 news8 F N ⟨od, ol, ce, rw, ys, rs, rfl, hm1, hm2, hm3, hm4, hD, hys, hrl⟩
  (try dsimp only)
  replace F := frOver F [(Str.ofString "w", .ref wd), (Str.ofString "table", .ref t), (Str.ofString "cell", .ref ce), (Str.ofString "row", .ref rw)] (allCons hm1 (allCons hm2 (allCons hm3 (allCons hm4 allNil))))
  clear hm1 hm2 hm3 hm4
  have hyl := hys.length
  with_reducible refine cut (h₀ := s₁.heap) (L := L) (fun m news => news = (rw, LCg.lst ys) :: (t, instObj 100 dx) :: (dx, tabDict i1 i2 i3 k1 k2 k3 l0 l1 l2) :: (wd, ow) :: (a, oa) :: (b, ob) :: (c, oc) :: (d, od) :: (lc, ol) :: (L + 1 + 1, oc2) :: (L + 1, oc1) :: (ca, PySem.W.listOf (List.toArray cvs) cn) :: fz ∧ m (Str.ofString "w") = some (.ref wd) ∧ m (Str.ofString "table") = some (.ref t) ∧ m (Str.ofString "row") = some (.ref rw)) ?ho ?hp
  case ho =>
    (try k_unmd); (try k_fold)
    refine For_turns F ?_
    (try k_unmd); (try k_fold)
    k_steps
    unfold Halt
    rename Fr _ _ _ _ => F9
    rename News _ _ _ _ => N9
    refine for_enumN (fun i m news => ∃ ce vs n ns, news = (ce, PySem.W.listOf (List.toArray vs) n) :: (rw, LCg.lst ys) :: (t, instObj 100 dx) :: (dx, tabDict i1 i2 i3 k1 k2 k3 l0 l1 l2) :: (wd, ow) :: (a, oa) :: (b, ob) :: (c, oc) :: (d, od) :: (lc, ol) :: (L + 1 + 1, oc2) :: (L + 1, oc1) :: (ca, PySem.W.listOf (List.toArray cvs) cn) :: fz ∧ m (Str.ofString "w") = some (.ref wd) ∧ m (Str.ofString "table") = some (.ref t) ∧ m (Str.ofString "cell") = some (.ref ce) ∧ m (Str.ofString "row") = some (.ref rw) ∧
      IntsAre vs ns ∧ ns.length ≤ i) (its := ys.toArray) (k := ys.length) (by rfl) (by rfl) (by rfl) (List.Mem.tail _ (List.Mem.head _)) (by rintro i m nw ⟨ce, vs, n, ns, rfl, -⟩; exact .tail _ (.head _)) F9 ?nn ⟨ce, [], 0, [], rfl, rfl, rfl, rfl, rfl, .nil, Nat.le_refl _⟩ ?t8 ?d8
    case nn =>
      intro p hp
      refine N9 p ?_
      rcases List.mem_cons.mp hp with rfl | hp
      · exact .tail _ (.head _)
      · rcases List.mem_cons.mp hp with rfl | hp
        · exact .head _
        · exact .tail _ (.tail _ hp)
    case d8 =>
      rintro m news h tk ⟨ce, vs, n, ns, rfl, e1, e2, e3, e4, hI8, hl8⟩ F N
      k_steps
      unfold Halt
      exact CutN.intro F N _ (fun p hp => .tail _ hp) ⟨rfl, e1, e2, e4⟩
    case t8 =>
      clear F9 N9
      rintro i v m9 news9 h9 tk9 T t9 eI oe itI oi hv ⟨ce, vs, n, ns, rfl, e1, e2, e3, e4, hI8, hl8⟩ hoffe hoffi hT F N
      change Fr s₁.heap L _ _ at F
      change News s₁.heap L _ _ at N
      obtain ⟨cc, tc, rfl, hcc⟩ := ints_item hys hv
      have hi7 : i < 7 := by
        have := (List.getElem?_eq_some_iff.mp hcc).1
        omega
      replace F := frOver F [(Str.ofString "w", .ref wd), (Str.ofString "table", .ref t), (Str.ofString "cell", .ref ce), (Str.ofString "row", .ref rw)] (allCons e1 (allCons e2 (allCons e3 (allCons e4 allNil))))
      clear e1 e2 e3 e4
      (try k_unmd); (try k_fold)
      iterate 8 walk1
      rename Fr _ _ _ _ => F9
      rename News _ _ _ _ => N9
      with_reducible refine cut (h₀ := s₁.heap) (L := L) (fun m news => news = (eI, oe) :: (itI, oi) :: (ce, PySem.W.listOf (List.toArray vs) n) :: (rw, LCg.lst ys) :: (t, instObj 100 dx) :: (dx, tabDict i1 i2 i3 k1 k2 k3 l0 l1 l2) :: (wd, ow) :: (a, oa) :: (b, ob) :: (c, oc) :: (d, od) :: (lc, ol) :: (L + 1 + 1, oc2) :: (L + 1, oc1) :: (ca, PySem.W.listOf (List.toArray cvs) cn) :: fz ∧ m (Str.ofString "w") = some (.ref wd) ∧ m (Str.ofString "table") = some (.ref t) ∧ m (Str.ofString "cell") = some (.ref ce) ∧ m (Str.ofString "row") = some (.ref rw) ∧ m (Str.ofString "code") = some (.int cc tc)) ?t8a ?t8b
      case t8a =>
        (try k_unmd); (try k_fold)
        refine For_invVF F9 (by rfl) (by rfl) ?_
        (try k_unmd); (try k_fold)
        k_steps
        unfold Halt
        rename_i sl sws _ hslI _ hsll _ D9 _ F8 N8 _
        refine for_tupN (fun j m news => news = (D9, { cls := .type "tuple", data := .seq #[.ref sl, .ref ce] }) :: (sl, PySem.W.listOf (List.toArray sws) 0) :: (eI, oe) :: (itI, oi) :: (ce, PySem.W.listOf (List.toArray vs) n) :: (rw, LCg.lst ys) :: (t, instObj 100 dx) :: (dx, tabDict i1 i2 i3 k1 k2 k3 l0 l1 l2) :: (wd, ow) :: (a, oa) :: (b, ob) :: (c, oc) :: (d, od) :: (lc, ol) :: (L + 1 + 1, oc2) :: (L + 1, oc1) :: (ca, PySem.W.listOf (List.toArray cvs) cn) :: fz ∧ m (Str.ofString "w") = some (.ref wd) ∧ m (Str.ofString "table") = some (.ref t) ∧ m (Str.ofString "cell") = some (.ref ce) ∧ m (Str.ofString "row") = some (.ref rw) ∧ m (Str.ofString "code") = some (.int cc tc)) (by rfl) (by rfl) (by rfl) (List.Mem.head _) (by rintro j m nw ⟨rfl, -⟩; exact .head _) F8 N8 ⟨rfl, rfl, rfl, rfl, rfl, rfl⟩ ?t8l ?t8d
        case t8d =>
          rintro m news h tk ⟨rfl, e1, e2, e3, e4, e5⟩ F N
          exact CutN.intro F N _ (fun p hp => .tail _ (.tail _ hp)) ⟨rfl, e1, e2, e3, e4, e5⟩
        case t8l =>
          clear F8 N8
          rintro j v m10 news10 h10 tk10 I8 oI8 hv8 ⟨rfl, e1, e2, e3, e4, e5⟩ hoff8 F N
          change Fr s₁.heap L _ _ at F
          change News s₁.heap L _ _ at N
          obtain ⟨la, lvs, ln, lns, rfl, hlm, hlI, hll⟩ : ∃ la lvs ln lns, v = .ref la ∧ (la, PySem.W.listOf (List.toArray lvs) ln) ∈ ((D9, { cls := .type "tuple", data := .seq #[.ref sl, .ref ce] }) :: (sl, PySem.W.listOf (List.toArray sws) 0) :: (eI, oe) :: (itI, oi) :: (ce, PySem.W.listOf (List.toArray vs) n) :: (rw, LCg.lst ys) :: (t, instObj 100 dx) :: (dx, tabDict i1 i2 i3 k1 k2 k3 l0 l1 l2) :: (wd, ow) :: (a, oa) :: (b, ob) :: (c, oc) :: (d, od) :: (lc, ol) :: (L + 1 + 1, oc2) :: (L + 1, oc1) :: (ca, PySem.W.listOf (List.toArray cvs) cn) :: fz) ∧ IntsAre lvs lns ∧ lns.length ≤ 7 := by
            rcases tup2_get hv8 with ⟨rfl, rfl⟩ | ⟨rfl, rfl⟩
            · exact ⟨sl, sws, 0, _, rfl, .tail _ (.head _), hslI, by omega⟩
            · exact ⟨ce, vs, n, ns, rfl, .tail _ (.tail _ (.tail _ (.tail _ (.head _)))), hI8, by omega⟩
          have N7 : News s₁.heap L h10 ((la, PySem.W.listOf (List.toArray lvs) ln) :: (I8, oI8) :: (D9, { cls := .type "tuple", data := .seq #[.ref sl, .ref ce] }) :: (sl, PySem.W.listOf (List.toArray sws) 0) :: (eI, oe) :: (itI, oi) :: (ce, PySem.W.listOf (List.toArray vs) n) :: (rw, LCg.lst ys) :: (t, instObj 100 dx) :: (dx, tabDict i1 i2 i3 k1 k2 k3 l0 l1 l2) :: (wd, ow) :: (a, oa) :: (b, ob) :: (c, oc) :: (d, od) :: (lc, ol) :: (L + 1 + 1, oc2) :: (L + 1, oc1) :: (ca, PySem.W.listOf (List.toArray cvs) cn) :: fz) := fun p hp => by
            rcases List.mem_cons.mp hp with rfl | hp
            · exact N _ (.tail _ hlm)
            · exact N p hp
          clear N hlm
          replace F := frOver F [(Str.ofString "some", .ref la), (Str.ofString "w", .ref wd), (Str.ofString "table", .ref t), (Str.ofString "code", .int cc tc), (Str.ofString "cell", .ref ce), (Str.ofString "row", .ref rw)] (allCons rfl (allCons e1 (allCons e2 (allCons e5 (allCons e3 (allCons e4 allNil))))))
          (try k_unmd); (try k_fold)
          k_steps
          all_goals unfold Halt
          · exfalso
            rename _ = true => hb
            simp at hb
          · exfalso
            exact absurd rfl (by assumption)
          · exact TurnV.intro (by assumption) (by assumption) ((D9, { cls := .type "tuple", data := .seq #[.ref sl, .ref ce] }) :: (sl, PySem.W.listOf (List.toArray sws) 0) :: (eI, oe) :: (itI, oi) :: (ce, PySem.W.listOf (List.toArray vs) n) :: (rw, LCg.lst ys) :: (t, instObj 100 dx) :: (dx, tabDict i1 i2 i3 k1 k2 k3 l0 l1 l2) :: (wd, ow) :: (a, oa) :: (b, ob) :: (c, oc) :: (d, od) :: (lc, ol) :: (L + 1 + 1, oc2) :: (L + 1, oc1) :: (ca, PySem.W.listOf (List.toArray cvs) cn) :: fz) (by walk_at "MINE sub") hoff8 ⟨rfl, rfl, rfl, rfl, rfl, rfl⟩
      case t8b =>
        clear F9 N9
        rintro h10 tk10 m10 news10 F N ⟨rfl, e1, e2, e3, e4, e5⟩
        (try dsimp only)
        replace F := frOver F [(Str.ofString "w", .ref wd), (Str.ofString "table", .ref t), (Str.ofString "cell", .ref ce), (Str.ofString "row", .ref rw), (Str.ofString "code", .int cc tc)] (allCons e1 (allCons e2 (allCons e3 (allCons e4 (allCons e5 allNil)))))
        clear e1 e2 e3 e4 e5
        (try k_unmd); (try k_fold)
        k_steps
        all_goals unfold Halt
        · have hvl := hI8.length
          refine' add_O (l := ce) (vs := vs) (n := n) ?mF ?mN ?ma ?mb ?mc ?_
          case mF => assumption
          case mN => assumption
          case ma => k_mem
          case mb => k_mem
          case mc => rw [hvl]; show ns.length + 1 ≤ 1000; omega
          intro h11 x11 F11 N11 hlt
          have z1 : @LT.lt Nat _ eI x11 := hlt (eI, oe) (by k_mem)
          have z2 : @LT.lt Nat _ itI x11 := hlt (itI, oi) (by k_mem)
          clear hlt
          k_steps
          unfold Halt
          rename News _ _ _ _ => N12
          exact TurnW.intro (by assumption) N12 ((x11, PySem.W.listOf (List.toArray (vs ++ [Value.int cc tc])) 0) :: (rw, LCg.lst ys) :: (t, instObj 100 dx) :: (dx, tabDict i1 i2 i3 k1 k2 k3 l0 l1 l2) :: (wd, ow) :: (a, oa) :: (b, ob) :: (c, oc) :: (d, od) :: (lc, ol) :: (L + 1 + 1, oc2) :: (L + 1, oc1) :: (ca, PySem.W.listOf (List.toArray cvs) cn) :: fz) (by walk_at "MINE sub2") (off_two hoffe hoffi (by omega) (by omega)) ⟨x11, _, _, ns ++ [cc], rfl, rfl, rfl, rfl, rfl, hI8.append (.cons _ _ .nil), by simp; omega⟩
        · rename News _ _ _ _ => N12
          obtain ⟨x11, N13, z1, z2, mm, F13, e1, e2, e3, e4⟩ : ∃ x11, News s₁.heap L _ ((x11, PySem.W.listOf (List.toArray [Value.int cc tc]) 0) :: _) ∧ @LT.lt Nat _ eI x11 ∧ @LT.lt Nat _ itI x11 ∧ ∃ mm, Fr s₁.heap L _ mm ∧ mm (Str.ofString "w") = some (.ref wd) ∧ mm (Str.ofString "table") = some (.ref t) ∧ mm (Str.ofString "cell") = some (.ref x11) ∧ mm (Str.ofString "row") = some (.ref rw) := ⟨_, N12, by omega, by omega, _, by assumption, rfl, rfl, rfl, rfl⟩
          exact TurnW.intro F13 N13 ((x11, PySem.W.listOf (List.toArray [Value.int cc tc]) 0) :: (rw, LCg.lst ys) :: (t, instObj 100 dx) :: (dx, tabDict i1 i2 i3 k1 k2 k3 l0 l1 l2) :: (wd, ow) :: (a, oa) :: (b, ob) :: (c, oc) :: (d, od) :: (lc, ol) :: (L + 1 + 1, oc2) :: (L + 1, oc1) :: (ca, PySem.W.listOf (List.toArray cvs) cn) :: fz) (by walk_at "MINE sub2") (off_two hoffe hoffi (by omega) (by omega)) ⟨x11, _, _, [cc], rfl, e1, e2, e3, e4, .cons _ _ .nil, by simp⟩
  clear F N
  rintro h9 tk9 m9 news9 F N ⟨rfl, hm1, hm2, hm3⟩
  (try dsimp only)
  replace F := frOver F [(Str.ofString "w", .ref wd), (Str.ofString "table", .ref t), (Str.ofString "row", .ref rw)] (allCons hm1 (allCons hm2 (allCons hm3 allNil)))
  clear hm1 hm2 hm3
  (try k_unmd); (try k_fold)
  k_steps
  unfold Halt
  refine' LastF.use (s_bad1 w 60 d lc od ol (by decide) hn1 hD) ?k1 ?k2 ?k3 ?k4 ?k5 ?kA ?kh ?kd ?ku ?kf ?kk ?ma ?mb ?_; walk_at "MINE use"
  case ma => k_mem
  case mb => k_mem
  intro h10 tk10 hst
  k_steps
  refine goodW_boolS hst (by assumption) (raisesW_false ?_) ?_
  · wrow_none_raised
  · exact post1 _
end
end
end
end Mine

theorem PySem.Challenge.cw_og0230_01_holds : PySem.Challenge.rw_og0230_01.Holds := by
  exact Mine.law1
