import PyProof.Rows.All
import Wide.All
import OpenK.AllK
import Wide.FinOn
import Lean
import PySem.Challenge.RW_oj0016_01
set_option Elab.async false
set_option maxRecDepth 100000
set_option rowWalk.seconds 100000

section
open PySem PySem.W PyProof.Rows
set_option maxHeartbeats 8000000
namespace Mine
open_top hd for PySem.Challenge.rw_oj0016_01
theorem top_off : True := by
  w_top off
  trivial
end Mine
end

section
open PySem PySem.W PySem.Calls PyProof.Rows
namespace Mine

theorem left_lt {n i : Nat} (h : i < n) : n + 1 - (i + 1) < n + 1 - i := Nat.sub_lt_sub_left (Nat.lt_succ_of_lt h) (Nat.lt_succ_self i)
theorem at_end {n i : Nat} (h : i ≤ n) (h' : ¬ i < n) : i = n := Nat.le_antisymm h (Nat.le_of_not_lt h')
theorem m_lt {n k w p : Nat} (h : k + 1 ≤ n) (hp : p ≤ 3) : 4 * (n - (k + 1)) + (w + p) < 4 * (n - k) + (w + 1) := by lia
noncomputable abbrev Au (dp un : Nat) (fr : Option (List Env)) (gd : Option (List Code)) : Around := { handled := none, depth := dp, frames := fr, guards := gd, units := un }

section
variable {prog : Program} {w : World} {dp un : Nat} {fr : Option (List Env)} {gd : Option (List Code)} {E Q : Value → Shared → Prop} {s : Shared} {K : Frag} {B : Heap} {p : Program} {loose : List Str} {mean : ExcName → Option Value} {mg mb : Str → Option Value}
  {name qual : Str} {params : Arguments} {body : List Stmt} {scope : Scope} {dV kV doc pm cdv ct oc : Value} {an od : Option Addr} {osl : Array (Option Value)} {f : Addr} {args : List Value} {binds : List (Str × Value)}

theorem enterG (X : K.In B) (T : Top p loose mean mg mb B) (st : B.StaysIn s.heap) (mods : List (Addr × Obj)) (hm : ∀ q ∈ mods, s.heap.get? q.1 = some q.2 ∧ B.get? q.1 = none)
    (hroom : dp < recursionLimit)
    (ho : K.lookup f = some ⟨oc, od, .func (fnOf name qual params body scope dV kV doc pm an cdv ct), osl⟩) (hcd : codeIn K cdv qual = true)
    (hbind : BindsTo s (fnOf name qual params body scope dV kV doc pm an cdv ct) ⟨args, []⟩ binds) (hloc : ∀ y ∈ binds, scope.names.lookup y.1 = some .local)
    (h : ∀ g L' h₁ tk, Fr g L' h₁ (fun y => binds.reverse.lookup y) → News g L' h₁ mods → K.In g → Top p loose mean mg mb g → B.StaysIn g → GSub s.heap g (mods.map (·.1)) → (∀ q ∈ mods, q.1 < L') → s.heap.StaysIn h₁ →
      wpAny (model prog w) ((Au dp un fr gd).deeper (envOf qual scope L' f cdv)) (execs body (envOf qual scope L' f cdv))
        (fun fl s' => Q (match fl with | .ret v => v | _ => .none) s') (fun _ _ => False) { s with heap := h₁, toks := tk })
    (hco : scope.isCoroutine = false) (hgen : scope.isGenerator = false) (hk : scope.kind = .function)
    (hcell : ∀ x ∈ scope.names, x.2 ≠ .cell) : wpAny (model prog w) (Au dp un fr gd) (call (.ref f) args) Q E s := by
  have st' : B.StaysIn (hideAll s.heap (mods.map (·.1))) := fun b o e => hideAll_get _ (st b o e) (fun q => by
    obtain ⟨p, hp, rfl⟩ := List.mem_map.mp q
    rw [(hm p hp).2] at e; cases e)
  refine wpAny_call (codeAny_call_def (fd := fnX name qual params body scope [] dV kV doc pm an cdv ct) (body := body) (binds := binds) hroom ((X.keeps st) _ _ ho) rfl (T.nolimit.keeps st) (codeRec_of (X.keeps st) hcd) rfl hbind hcell hloc (fun h₁ hns hk₁ => ?_) hco hgen hk)
  have X2 := X.keeps st'
  have T2 := T.keeps st'
  refine wpAny_mono (h (hideAll s.heap (mods.map (·.1))) s.heap.objs.size h₁ _ ⟨hns, fun b o e => hk₁ b o (of_hideAll _ e), Nat.le_of_eq (hideAll_size _ _)⟩
    (fun p hp => ⟨hk₁ _ _ (hm p hp).1, Nat.ne_of_lt (Heap.lt_size (hm p hp).1), hideAll_none _ (List.mem_map_of_mem hp)⟩) X2 T2 st' (fun b o e n => hideAll_get _ e n) (fun q hq => Heap.lt_size (hm q hq).1) hk₁) (fun fl s' hl => ?_) fun _ _ y => y.elim
  exact hl
end

/-! loops -/
section
variable {prog : Program} {w : World} {A : Around} {E : Value → Shared → Prop} {s : Shared} {env : Env} {h₀ : Heap} {x : Str} {body : List Stmt} {Q : Flow → Shared → Prop}

def TEnd (h₀ : Heap) (L I : Addr) (oI : Obj) (J : (Str → Option Value) → List (Addr × Obj) → Prop) (s₁ : Shared) (Q : Flow → Shared → Prop) (f : Flow) (s₂ : Shared) : Prop :=
  match f with
  | .ret v => Q (.ret v) s₂
  | .brk => Q .next s₂
  | _ => ∃ h' tk m' news', s₂ = { s₁ with heap := h', toks := tk } ∧ Fr h₀ L h' m' ∧ News h₀ L h' ((I, oI) :: news') ∧ (∀ q ∈ news', q.1 ≠ I) ∧ J m' news'

theorem tend_next {h₀ h' : Heap} {L I : Addr} {oI : Obj} {J : (Str → Option Value) → List (Addr × Obj) → Prop} {s₁ : Shared} {tk : Nat} {m' : Str → Option Value} {news' : List (Addr × Obj)}
    (F : Fr h₀ L h' m') (N : News h₀ L h' ((I, oI) :: news')) (hn : ∀ q ∈ news', q.1 ≠ I) (hj : J m' news') : TEnd h₀ L I oI J s₁ Q .next { s₁ with heap := h', toks := tk } :=
  ⟨h', tk, m', news', rfl, F, N, hn, hj⟩

/-- the walk of one iterator with address I, kept apart from the ledger -/
theorem iter_gen {I : Addr} {fp : List Addr} {n : Nat} {P : Nat → Value → Prop} {St : Nat → Heap → Prop} {m₀ : Str → Option Value} {news : List (Addr × Obj)}
    (J : Nat → (Str → Option Value) → List (Addr × Obj) → Prop)
    (W : Walks prog w A I fp [I] n P St) (hfp : ∀ b ∈ fp, b = I ∨ ∃ o, h₀.get? b = some o) (hL : env.locals ≠ I) (hI : h₀.get? I = none) (hlive : ∀ i h, St i h → ∃ o, h.get? I = some o)
    (hst : St 0 s.heap) (F : Fr h₀ env.locals s.heap m₀) (N : News h₀ env.locals s.heap news) (hnI : ∀ q ∈ news, q.1 ≠ I) (hj : J 0 m₀ news)
    (turn : ∀ i v m₁ news₁ h tk oI, i < n → P i v → J i m₁ news₁ → Fr h₀ env.locals h (fun y => if y = x then some v else m₁ y) → News h₀ env.locals h ((I, oI) :: news₁) → (∀ q ∈ news₁, q.1 ≠ I) →
      wpAny (model prog w) A (execs body env) (TEnd h₀ env.locals I oI (J (i + 1)) { s with heap := h, toks := tk } Q) E { s with heap := h, toks := tk })
    (done : ∀ m₁ news₁ h tk, J n m₁ news₁ → Fr h₀ env.locals h m₁ → News h₀ env.locals h news₁ → Q .next { s with heap := h, toks := tk }) :
    LoopAtV prog w A h₀ env x body Q E (.ref I) s := by
  have hLfp : env.locals ∉ fp := fun hm => by
    rcases hfp _ hm with e | ⟨o, e⟩
    · exact hL e
    · exact absurd (Nat.lt_of_lt_of_le (Heap.lt_size e) F.above) (Nat.lt_irrefl _)
  refine ⟨I, fp, [I], n, P, St, m₀, news, J, rfl, W, hLfp, fun b hb => by rw [List.mem_singleton.mp hb]; exact hI, fun q hq hm => hnI q hq (List.mem_singleton.mp hm), hst, F, N, hj, ?_, fun h' tk m' news' F' N' _ hJ => done m' news' h' tk hJ F' N'⟩
  rintro i v m₁ news₁ s₁ own ⟨hh', tk', rfl⟩ hin hP hJ hoff hown hget hall hst₁ F₁ N₁
  have hfpI : I ∈ fp := W.sub I (List.mem_singleton.mpr rfl)
  obtain ⟨oI, hoI⟩ := hlive _ _ hst₁
  have hmem : (I, oI) ∈ own := hall I hfpI hI oI hoI
  have honly : ∀ q ∈ own, q = (I, oI) := fun q hq => by
    have h1 : q.1 = I := by
      rcases hfp _ (hown q hq) with e | ⟨o, e⟩
      · exact e
      · have := (N₁ q (List.mem_append_left _ hq)).2.2; rw [e] at this; cases this
    have h2 : q.2 = oI := by
      have := hget q hq; rw [h1, hoI] at this; exact (Option.some.inj this).symm
    exact Prod.ext h1 h2
  have N₂ : News h₀ env.locals hh' ((I, oI) :: news₁) := fun q hq => N₁ q (by
    rcases List.mem_cons.mp hq with rfl | hq
    · exact List.mem_append_left _ hmem
    · exact List.mem_append_right _ hq)
  have hne : ∀ q ∈ news₁, q.1 ≠ I := fun q hq e => hoff q hq (List.mem_singleton.mpr e)
  refine wpAny_mono (turn i v m₁ news₁ hh' tk' oI hin hP hJ F₁ N₂ hne) (fun f s₂ p => ?_) fun _ _ e => e
  have fin : (∃ h' tk m' news', s₂ = { s with heap := h', toks := tk } ∧ Fr h₀ env.locals h' m' ∧ News h₀ env.locals h' ((I, oI) :: news') ∧ (∀ q ∈ news', q.1 ≠ I) ∧ J (i + 1) m' news') → LoopStepU h₀ env.locals [I] own (J (i + 1)) { s with heap := hh', toks := tk' } .next s₂ := by
    rintro ⟨h', tk, m', news', e, F', N', hn, hm⟩
    refine ⟨rfl, h', tk, m', news', e, F', fun q hq => ?_, fun q hq hm => hn q hq (List.mem_singleton.mp hm), hm⟩
    rcases List.mem_append.mp hq with hq | hq
    · rw [honly q hq]; exact N' _ (.head _)
    · exact N' q (.tail _ hq)
  cases f with
  | ret v => exact .ret p
  | brk => exact .brk p
  | next => exact .next (fin p)
  | cont => exact .cont (fin p)

theorem iter_range {r : Addr} {n : Int} {t u v : Tok} {L : Addr} {m₀ : Str → Option Value} {news : List (Addr × Obj)} (J : Nat → (Str → Option Value) → List (Addr × Obj) → Prop)
    (hh : A.handled = none) (hr : IsRange s.heap r 0 n 1 t u v) (hlo : -(2 ^ 62) ≤ n) (hhi : n < 2 ^ 62) (F : Fr h₀ L s.heap m₀) (N : News h₀ L s.heap news) (hj : J 0 m₀ news)
    (turn : ∀ (i : Nat) tv m₁ news₁ h tk I oI, (i : Int) < n → J i m₁ news₁ → Fr h₀ L h (fun y => if y = x then some (.int (i : Int) tv) else m₁ y) → News h₀ L h ((I, oI) :: news₁) → (∀ q ∈ news₁, q.1 ≠ I) →
      wpAny (model prog w) A (execs body env) (TEnd h₀ L I oI (J (i + 1)) { s with heap := h, toks := tk } Q) E { s with heap := h, toks := tk })
    (done : ∀ m₁ news₁ h tk, J n.toNat m₁ news₁ → Fr h₀ L h m₁ → News h₀ L h news₁ → Q .next { s with heap := h, toks := tk }) 
    (hL : env.locals = L) :
    wpAny (model prog w) A (pyIter (.ref r)) (fun it s₂ => LoopAtV prog w A h₀ env x body Q E it s₂) E s := by
  subst hL
  refine wpAny_pyIter_range hr (small_one (by decide) (by decide) hlo hhi) ?_
  have hsz : Builtin.Range.rangeSize 0 n 1 = (n.toNat : Int) := by rw [rangeSize_one]; split <;> lia
  have hI : h₀.get? s.heap.objs.size = none := by
    cases e : h₀.get? s.heap.objs.size with
    | none => rfl
    | some o => exact absurd (Nat.lt_of_lt_of_le (Heap.lt_size e) (Nat.le_trans F.above (Nat.le_of_lt F.ns.lt))) (Nat.lt_irrefl _)
  refine iter_gen (I := s.heap.objs.size) (fp := [s.heap.objs.size]) (n := n.toNat) (P := fun i v => ∃ t, v = .int (0 + (i : Nat) * 1) t) (St := fun i h => IsRangeIter h s.heap.objs.size (0 + (i : Nat) * 1) ((n.toNat : Int) - (i : Nat)) 1) J
    (Walks.range hh _ 0 1 n.toNat) (fun b hb => .inl (List.mem_singleton.mp hb)) (Nat.ne_of_lt F.ns.lt) hI (fun i h e => ⟨_, e⟩) ?_ (F.push _) (fun q hq => ⟨Heap.get?_push_of_some _ (N q hq).1, (N q hq).2⟩) (fun q hq => Nat.ne_of_lt (Heap.lt_size (N q hq).1)) hj ?_ ?_
  · have e1 : (0 + ((0 : Nat) : Int) * 1) = 0 := by simp
    have e2 : ((n.toNat : Int) - ((0 : Nat) : Int)) = Builtin.Range.rangeSize 0 n 1 := by rw [hsz]; simp
    rw [e1, e2]
    exact Heap.get?_push_size _ rfl
  · rintro i v m₁ news₁ h tk oI hin ⟨tv, rfl⟩ hJ F₁ N₁ hne
    have e : (0 + (i : Int) * 1) = (i : Int) := by lia
    rw [e] at F₁
    exact turn i tv m₁ news₁ h tk _ oI (by lia) hJ F₁ N₁ hne
  · intro m₁ news₁ h tk hJ F₁ N₁
    exact done m₁ news₁ h tk hJ F₁ N₁

theorem iter_list {l : Addr} {vs : List Value} {L : Addr} {m₀ : Str → Option Value} {news : List (Addr × Obj)} (J : Nat → (Str → Option Value) → List (Addr × Obj) → Prop)
    (hh : A.handled = none) (hl : h₀.IsList l vs.toArray) (F : Fr h₀ L s.heap m₀) (N : News h₀ L s.heap news) (hj : J 0 m₀ news)
    (turn : ∀ (i : Nat) v m₁ news₁ h tk I oI, vs[i]? = some v → J i m₁ news₁ → Fr h₀ L h (fun y => if y = x then some v else m₁ y) → News h₀ L h ((I, oI) :: news₁) → (∀ q ∈ news₁, q.1 ≠ I) →
      wpAny (model prog w) A (execs body env) (TEnd h₀ L I oI (J (i + 1)) { s with heap := h, toks := tk } Q) E { s with heap := h, toks := tk })
    (done : ∀ m₁ news₁ h tk, J vs.length m₁ news₁ → Fr h₀ L h m₁ → News h₀ L h news₁ → Q .next { s with heap := h, toks := tk }) 
    (hL : env.locals = L) :
    wpAny (model prog w) A (pyIter (.ref l)) (fun it s₂ => LoopAtV prog w A h₀ env x body Q E it s₂) E s := by
  subst hL
  have hls : s.heap.IsList l vs.toArray := hl.at fun o e => F.keep l o e
  obtain ⟨ol, hol, _⟩ := id hl
  have hlt : l < h₀.objs.size := Heap.lt_size hol
  have hne : l ≠ s.heap.objs.size := Nat.ne_of_lt (Nat.lt_trans (Nat.lt_of_lt_of_le hlt F.above) F.ns.lt)
  have hI : h₀.get? s.heap.objs.size = none := by
    cases e : h₀.get? s.heap.objs.size with
    | none => rfl
    | some o => exact absurd (Nat.lt_of_lt_of_le (Heap.lt_size e) (Nat.le_trans F.above (Nat.le_of_lt F.ns.lt))) (Nat.lt_irrefl _)
  refine wpAny_pyIter_list hls ?_
  have W := Walks.list (prog := prog) (w := w) hh s.heap.objs.size l hne vs.toArray
  have hlen : vs.toArray.size = vs.length := by simp
  rw [hlen] at W
  refine iter_gen (I := s.heap.objs.size) J W ?_ (Nat.ne_of_lt F.ns.lt) hI (fun i h e => let ⟨o, e, _⟩ := e.1; ⟨o, e⟩) ⟨⟨_, Heap.get?_push_size _ rfl, rfl, rfl⟩, hls.at fun o e => Heap.get?_push_of_some _ e⟩ (F.push _) (fun q hq => ⟨Heap.get?_push_of_some _ (N q hq).1, (N q hq).2⟩) (fun q hq => Nat.ne_of_lt (Heap.lt_size (N q hq).1)) hj ?_ ?_
  · intro b hb
    rcases List.mem_cons.mp hb with e | hb
    · exact .inl e
    · exact .inr ⟨ol, (List.mem_singleton.mp hb) ▸ hol⟩
  · intro i v m₁ news₁ h tk oI hin hP hJ F₁ N₁ hne'
    exact turn i v m₁ news₁ h tk _ oI (by simpa using hP) hJ F₁ N₁ hne'
  · intro m₁ news₁ h tk hJ F₁ N₁
    exact done m₁ news₁ h tk hJ F₁ N₁
end
end Mine
end

section
open PySem PySem.W PySem.Calls PyProof.Rows
set_option maxHeartbeats 4000000
namespace Mine

noncomputable def place (as : List Addr) (d : Value) : Int := match d with
  | .ref a => if a ∈ as then (as.idxOf a : Int) else -1
  | _ => -1

/-- a thing that 'is' can look at: an int, or an object that is no tuple -/
def Itm (h : Heap) (v : Value) : Prop := (∃ i t, v = .int i t) ∨ ∃ a o, v = .ref a ∧ h.get? a = some o ∧ o.cls ≠ .type "tuple"
theorem Itm.keeps {h h' : Heap} {v : Value} (x : Itm h v) (k : ∀ b o, h.get? b = some o → h'.get? b = some o) : Itm h' v := by
  rcases x with x | ⟨a, o, e, g, n⟩
  · exact .inl x
  · exact .inr ⟨a, o, e, k _ _ g, n⟩

theorem is_itm {M : Model} {A : Around} {E : Value → Shared → Prop} {s : Shared} {a : Addr} {d : Value} {Q : Value → Shared → Prop} (ha : Itm s.heap (.ref a)) (hd : Itm s.heap d) (hq : Q (.bool (decide (d = .ref a))) s) :
    wpAny M A (compareOp .Is (.ref a) d) Q E s := by
  by_cases e : d = .ref a
  · subst e; rw [decide_eq_true rfl] at hq; exact wpAny_is_ref_self hq
  · rw [decide_eq_false e] at hq
    rcases hd with ⟨i, t, rfl⟩ | ⟨b, ob, rfl, gb, nb⟩
    · exact wpAny_is_other rfl (fun x => e x.symm) hq
    · rcases ha with ⟨_, _, x⟩ | ⟨a', oa, x, ga, na⟩
      · cases x
      · cases x
        exact wpAny_is_ref_other (fun x => e (by rw [x])) ga gb na hq
theorem item_at {prog : Program} {w : World} {A : Around} {E : Value → Shared → Prop} {s : Shared} {value slice : PySem.Expr} {l : Addr} {vs : List Value} {k : Int} {u : Tok} {v : Value} {Q : Value → Shared → Prop}
    (hl : s.heap.IsList l vs.toArray) (h0 : 0 ≤ k) (hhi : k < 2 ^ 63) (hx : vs[k.toNat]? = some v) (h : Q v s)
    (hs : subscripted slice false (.ref l) (.int k u) = operate [.ref l, .int k u] (getItem (.ref l) (.int k u))) :
    wpAny (model prog w) A (subscriptTail value slice (.ref l) (.int k u)) Q E s :=
  tail_any hl.typeIs slot_list_getitem.lookup (wpAny_getItem_list hl h0 hhi (by simpa using hx) h) hs
theorem place_hit {as : List Addr} {d : Value} {i : Nat} {a : Addr} (h : as[i]? = some a) (e : d = .ref a) (no : ∀ j : Nat, j < i → ∀ b, as[j]? = some b → d ≠ .ref b) : place as d = (i : Int) := by
  subst e
  have hm : a ∈ as := List.mem_of_getElem? h
  have hlt : i < as.length := by rw [List.getElem?_eq_some_iff] at h; exact h.1
  have ha : as[i] = a := by rw [List.getElem?_eq_some_iff] at h; obtain ⟨_, h⟩ := h; exact h
  simp only [place, if_pos hm]
  congr 1
  have h1 : as.idxOf a < as.length := List.idxOf_lt_length_iff.mpr hm
  have h2 : as[as.idxOf a] = a := List.getElem_idxOf h1
  rcases Nat.lt_trichotomy (as.idxOf a) i with q | q | q
  · exact absurd (by rw [h2]) (no _ q (as[as.idxOf a]) (List.getElem?_eq_getElem h1))
  · exact q
  · exfalso
    have h3 := List.not_of_lt_findIdx (p := (· == a)) (xs := as) q
    simp [ha] at h3
theorem place_miss {as : List Addr} {d : Value} (no : ∀ j : Nat, j < as.length → ∀ b, as[j]? = some b → d ≠ .ref b) : place as d = -1 := by
  cases d <;> simp only [place]
  rename_i a
  by_cases hm : a ∈ as
  · obtain ⟨i, hi, e⟩ := List.getElem_of_mem hm
    exact absurd rfl (no i hi a (by rw [List.getElem?_eq_getElem hi, e]))
  · rw [if_neg hm]
theorem map_self (x : Str) (m : Str → Option Value) : m = fun y => if y = x then m x else m y := by
  funext y; by_cases e : y = x
  · rw [if_pos e, e]
  · rw [if_neg e]
theorem map_over (x : Str) (a b : Option Value) (m : Str → Option Value) : (fun y => if y = x then a else if y = x then b else m y) = fun y => if y = x then a else m y := by
  funext y; by_cases e : y = x
  · rw [if_pos e, if_pos e]
  · rw [if_neg e, if_neg e, if_neg e]
-- the walk that stops at a loop's head
theorem c_stands_in {w : World} {B : Heap} {mean : ExcName → Option Value} {mg mb : Str → Option Value} (X : (hd.heap_39 w.params).In B) (T : Top hd.view_39 (looseW hd.view_39 [Str.ofString "NIL"]) mean mg mb B)
    {dp un : Nat} {fr : Option (List Env)} {gd : Option (List Code)} {s : Shared} {E Q : Value → Shared → Prop} (st : B.StaysIn s.heap) (hd : dp + 1 < recursionLimit) (hu : un + 8 < cLine)
    {d : Value} {l : Addr} {as : List Addr} (hl : s.heap.IsList l (as.map Value.ref).toArray) (hlen : as.length < 2 ^ 20) (hd1 : Itm s.heap d) (hds : ∀ a ∈ as, Itm s.heap (.ref a))
    (h : ∀ h' tk t, s.heap.StaysIn h' → Q (.int (place as d) t) { s with heap := h', toks := tk }) :
    wpAny (model PySem.Challenge.rw_oj0016_01.row.prog w) (Au dp un fr gd) (call (.ref 144) [d, .ref l]) Q E s := by
  revert X; k_fill; intro X
  refine' enterG (binds := [("datum", d), ("things", .ref l)]) X T st [] ?hm ?hroom ?ho ?hcd ?hbind ?hloc ?_ ?c1 ?c2 ?c3 ?c4
  case hm => exact fun q hq => nomatch hq
  case hroom => lia
  case ho => k_is
  case hcd => k_is
  case hbind => exact BindsTo.of_eq rfl
  case hloc => exact locs rfl
  case c1 => exact rfl
  case c2 => exact rfl
  case c3 => exact rfl
  case c4 => decide
  intro g L' h₁ tk F N X' T' st' gs lt kp
  have sg : s.heap.StaysIn g := fun b o e => gs b o e (fun q => nomatch q)
  have hlg : g.IsList l (as.map Value.ref).toArray := stays_list sg hl
  have hlen2 : (as.map Value.ref).length < 2 ^ 20 := by simpa using hlen
  clear X T
  (repeat' (first | (((fail_if_success (with_reducible show wpAny _ _ (pyIter (Value.ref _)) _ _ _))); walk1) | (((fail_if_success (with_reducible show wpAny _ _ (pyIter (Value.ref _)) _ _ _))); dsimp only; ((fail_if_success (with_reducible show wpAny _ _ (pyIter (Value.ref _)) _ _ _))); walk1)))
  rename Fr _ _ _ _ => F
  refine len_list (stays_list F.keep hlg) (by simp; lia) ?_
  (repeat' (first | (((fail_if_success (with_reducible show wpAny _ _ (pyIter (Value.ref _)) _ _ _))); walk1) | (((fail_if_success (with_reducible show wpAny _ _ (pyIter (Value.ref _)) _ _ _))); dsimp only; ((fail_if_success (with_reducible show wpAny _ _ (pyIter (Value.ref _)) _ _ _))); walk1)))
  rename Fr _ _ _ _ => F
  rename News _ _ _ _ => N
  rename IsRange _ _ _ _ _ _ _ _ => R
  refine iter_range (fun i m news => news = [] ∧ (∃ u, m = fun y => if y = Str.ofString "place" then u else List.lookup y [(Str.ofString "things", Value.ref l), (Str.ofString "datum", d)]) ∧ ∀ j : Nat, j < i → ∀ b, as[j]? = some b → d ≠ .ref b) rfl R (by simp; try lia) (by simp; lia) F N ⟨rfl, ⟨_, map_self _ _⟩, fun j hj => absurd hj (Nat.not_lt_zero _)⟩ ?_ ?_ rfl
  · rintro i tv m₁ news₁ h2 tk2 I oI hi ⟨rfl, ⟨u, rfl⟩, hno⟩ F N hne
    (repeat' (first | (((fail_if_success (with_reducible show wpAny _ _ (pyIter (Value.ref _)) _ _ _))); walk1) | (((fail_if_success (with_reducible show wpAny _ _ (pyIter (Value.ref _)) _ _ _))); dsimp only; ((fail_if_success (with_reducible show wpAny _ _ (pyIter (Value.ref _)) _ _ _))); walk1)))
    have hi' : i < as.length := by simpa using hi
    refine item_at (k := (i : Int)) (stays_list F.keep hlg) (by lia) (by lia) (v := .ref as[i]) (by simp [hi']) ?_ (by with_unfolding_all rfl)
    (repeat' (first | (((fail_if_success (with_reducible show wpAny _ _ (pyIter (Value.ref _)) _ _ _))); walk1) | (((fail_if_success (with_reducible show wpAny _ _ (pyIter (Value.ref _)) _ _ _))); dsimp only; ((fail_if_success (with_reducible show wpAny _ _ (pyIter (Value.ref _)) _ _ _))); walk1)))
    refine is_itm ((hds _ (List.getElem_mem hi')).keeps fun b o e => F.keep b o (sg b o e)) (hd1.keeps fun b o e => F.keep b o (sg b o e)) ?_
    (repeat' (first | (((fail_if_success (with_reducible show wpAny _ _ (pyIter (Value.ref _)) _ _ _))); walk1) | (((fail_if_success (with_reducible show wpAny _ _ (pyIter (Value.ref _)) _ _ _))); dsimp only; ((fail_if_success (with_reducible show wpAny _ _ (pyIter (Value.ref _)) _ _ _))); walk1)))
    · rename (d = _) => e
      have hp := place_hit (List.getElem?_eq_getElem hi') e hno
      rw [← hp]
      exact h _ _ _ (fun b o e => F.keep b o (sg b o e))
    · rename (¬ (d = _)) => e
      refine tend_next F N hne ⟨rfl, ⟨_, map_over _ _ _ _⟩, fun j hj b hb => ?_⟩
      rcases Nat.lt_succ_iff_lt_or_eq.mp hj with q | rfl
      · exact hno j q b hb
      · rw [List.getElem?_eq_getElem hi'] at hb; cases hb; exact e
  · rintro m₁ news₁ h2 tk2 ⟨rfl, ⟨u, rfl⟩, hno⟩ F N
    dsimp only
    (repeat' (first | (((fail_if_success (with_reducible show wpAny _ _ (pyIter (Value.ref _)) _ _ _))); walk1) | (((fail_if_success (with_reducible show wpAny _ _ (pyIter (Value.ref _)) _ _ _))); dsimp only; ((fail_if_success (with_reducible show wpAny _ _ (pyIter (Value.ref _)) _ _ _))); walk1)))
    have hp : place as d = -1 := place_miss fun j hj => hno j (by simpa using hj)
    rw [← hp]
    exact h _ _ _ (fun b o e => F.keep b o (sg b o e))
end Mine
end

section
open PySem PySem.W PySem.Calls PyProof.Rows Mine
namespace Mine
theorem inst_base {g h : Heap} {L x C dx : Addr} {m : Str → Option Value} {od : Obj} {sl : Array (Option Value)} (zF : Fr g L h m) (z1 : g.get? x = some (⟨.ref C, some dx, .plain, sl⟩ : Obj)) (z2 : g.get? dx = some od) :
    InstAt h x ⟨.ref C, some dx, .plain, sl⟩ C (some od) := ⟨zF.keep _ _ z1, rfl, rfl, zF.keep _ _ z2⟩
end Mine
local macro_rules | `(tactic| k_inst) => `(tactic| (apply inst_base <;> k_asm))
local macro_rules | `(tactic| k_handed) => `(tactic| assumption)

section
open PySem PySem.W PySem.Calls PyProof.Rows
set_option maxHeartbeats 4000000
namespace Mine

theorem of_no {h g : Heap} {l : Addr} (k : h.StaysIn g) (n : g.get? l = none) : h.get? l = none := by
  cases e : h.get? l with
  | none => rfl
  | some o => rw [k _ _ e] at n; cases n
/-- a node of the graph: a cons, a vector or a text; its parts -/
inductive NodeAt (h : Heap) (a : Addr) : List Value → Prop
  | cons {dx : Addr} {H1 H2 : Int} {k1 k2 : Tok} {n : Nat} {p0 p1 : Value} : h.get? a = some (instObj 55 dx) → h.get? dx = some (dictOf [⟨H1, .str (Str.ofString "car") k1, p0⟩, ⟨H2, .str (Str.ofString "cdr") k2, p1⟩] n) → handedIn p0 = true → handedIn p1 = true → NodeAt h a [p0, p1]
  | vec {dx l : Addr} {H : Int} {k : Tok} {n : Nat} {ps : List Value} : h.get? a = some (instObj 98 dx) → h.get? dx = some (dictOf [⟨H, .str (Str.ofString "things") k, .ref l⟩] n) → h.IsList l ps.toArray → NodeAt h a ps
  | text {dx : Addr} {es : List DictEntry} {n : Nat} : h.get? a = some (instObj 77 dx) → h.get? dx = some (dictOf es n) → NodeAt h a []
theorem NodeAt.keeps {h h' : Heap} {a : Addr} {ps : List Value} (x : NodeAt h a ps) (k : h.StaysIn h') : NodeAt h' a ps := by
  cases x with
  | cons h1 h2 h3 h4 => exact .cons (k _ _ h1) (k _ _ h2) h3 h4
  | vec h1 h2 h3 => exact .vec (k _ _ h1) (k _ _ h2) (stays_list k h3)
  | text h1 h2 => exact .text (k _ _ h1) (k _ _ h2)
/-- a symbol with its dict -/
def SymAt (h : Heap) (a : Addr) : Prop := ∃ dx es n, h.get? a = some (instObj 31 dx) ∧ h.get? dx = some (dictOf es n)
/-- a leaf: an int or a symbol -/
def LeafAt (h : Heap) (v : Value) : Prop := (∃ i t, v = .int i t) ∨ ∃ a, v = .ref a ∧ SymAt h a
theorem LeafAt.keeps {h h' : Heap} {v : Value} (x : LeafAt h v) (k : h.StaysIn h') : LeafAt h' v := by
  rcases x with x | ⟨a, e, dx, es, n, h1, h2⟩
  · exact .inl x
  · exact .inr ⟨a, e, dx, es, n, k _ _ h1, k _ _ h2⟩
theorem LeafAt.itm {h : Heap} {v : Value} (x : LeafAt h v) : Itm h v := by
  rcases x with x | ⟨a, e, dx, es, n, h1, h2⟩
  · exact .inl x
  · exact .inr ⟨a, _, e, h1, by intro z; cases z⟩
theorem NodeAt.itm {h : Heap} {a : Addr} {ps : List Value} (x : NodeAt h a ps) : Itm h (.ref a) := by
  cases x with
  | cons h1 h2 _ _ => exact .inr ⟨a, _, rfl, h1, by intro z; cases z⟩
  | vec h1 h2 h3 => exact .inr ⟨a, _, rfl, h1, by intro z; cases z⟩
  | text h1 h2 => exact .inr ⟨a, _, rfl, h1, by intro z; cases z⟩
theorem c_is_shared {w : World} {B : Heap} {mean : ExcName → Option Value} {mg mb : Str → Option Value} (X : (hd.heap_39 w.params).In B) (T : Top hd.view_39 (looseW hd.view_39 [Str.ofString "NIL"]) mean mg mb B)
    {dp un : Nat} {fr : Option (List Env)} {gd : Option (List Code)} {s : Shared} {E Q : Value → Shared → Prop} (st : B.StaysIn s.heap) (hd : dp + 2 < recursionLimit) (hu : un + 20 < cLine)
    {a : Addr} {ps : List Value} (ha : NodeAt s.heap a ps)
    (h : ∀ h' tk, s.heap.StaysIn h' → Q (.bool true) { s with heap := h', toks := tk }) :
    wpAny (model PySem.Challenge.rw_oj0016_01.row.prog w) (Au dp un fr gd) (call (.ref 130) [.ref a]) Q E s := by
  revert X; k_fill; intro X
  refine' enterG (binds := [("datum", .ref a)]) X T st [] ?hm ?hroom ?ho ?hcd ?hbind ?hloc ?_ ?c1 ?c2 ?c3 ?c4
  case hm => exact fun q hq => nomatch hq
  (((case hroom => lia); (case ho => k_is); (case hcd => k_is); (case hbind => exact BindsTo.of_eq rfl); (case hloc => exact locs rfl); (case c1 => exact rfl); (case c2 => exact rfl); (case c3 => exact rfl); (case c4 => decide)))
  intro g L' h₁ tk F N X' T' st' gs lt kp
  have sg : s.heap.StaysIn g := fun b o e => gs b o e (fun q => nomatch q)
  have hag := ha.keeps sg
  clear X T ha
  cases hag
  all_goals ((repeat' (first | (((fail_if_success (with_reducible show wpAny _ _ (pyIter (Value.ref _)) _ _ _))); walk1) | (((fail_if_success (with_reducible show wpAny _ _ (pyIter (Value.ref _)) _ _ _))); dsimp only; ((fail_if_success (with_reducible show wpAny _ _ (pyIter (Value.ref _)) _ _ _))); walk1))); rename Fr _ _ _ _ => F; exact h _ _ (fun b o e => F.keep b o (sg b o e)))

theorem c_not_shared {w : World} {B : Heap} {mean : ExcName → Option Value} {mg mb : Str → Option Value} (X : (hd.heap_39 w.params).In B) (T : Top hd.view_39 (looseW hd.view_39 [Str.ofString "NIL"]) mean mg mb B)
    {dp un : Nat} {fr : Option (List Env)} {gd : Option (List Code)} {s : Shared} {E Q : Value → Shared → Prop} (st : B.StaysIn s.heap) (hd : dp + 2 < recursionLimit) (hu : un + 20 < cLine)
    {v : Value} (ha : LeafAt s.heap v)
    (h : ∀ h' tk, s.heap.StaysIn h' → Q (.bool false) { s with heap := h', toks := tk }) :
    wpAny (model PySem.Challenge.rw_oj0016_01.row.prog w) (Au dp un fr gd) (call (.ref 130) [v]) Q E s := by
  revert X; k_fill; intro X
  refine' enterG (binds := [("datum", v)]) X T st [] ?hm ?hroom ?ho ?hcd ?hbind ?hloc ?_ ?c1 ?c2 ?c3 ?c4
  case hm => exact fun q hq => nomatch hq
  (((case hroom => lia); (case ho => k_is); (case hcd => k_is); (case hbind => exact BindsTo.of_eq rfl); (case hloc => exact locs rfl); (case c1 => exact rfl); (case c2 => exact rfl); (case c3 => exact rfl); (case c4 => decide)))
  intro g L' h₁ tk F N X' T' st' gs lt kp
  have sg : s.heap.StaysIn g := fun b o e => gs b o e (fun q => nomatch q)
  have hag := ha.keeps sg
  clear X T ha
  rcases hag with ⟨i, t, rfl⟩ | ⟨a, rfl, dx, es, n, h1, h2⟩
  all_goals ((repeat' (first | (((fail_if_success (with_reducible show wpAny _ _ (pyIter (Value.ref _)) _ _ _))); walk1) | (((fail_if_success (with_reducible show wpAny _ _ (pyIter (Value.ref _)) _ _ _))); dsimp only; ((fail_if_success (with_reducible show wpAny _ _ (pyIter (Value.ref _)) _ _ _))); walk1))); rename Fr _ _ _ _ => F; exact h _ _ (fun b o e => F.keep b o (sg b o e)))

theorem c_parts_of {w : World} {B : Heap} {mean : ExcName → Option Value} {mg mb : Str → Option Value} (X : (hd.heap_39 w.params).In B) (T : Top hd.view_39 (looseW hd.view_39 [Str.ofString "NIL"]) mean mg mb B)
    {dp un : Nat} {fr : Option (List Env)} {gd : Option (List Code)} {s : Shared} {E Q : Value → Shared → Prop} (st : B.StaysIn s.heap) (hd : dp + 2 < recursionLimit) (hu : un + 20 < cLine)
    {a : Addr} {ps : List Value} (ha : NodeAt s.heap a ps) (hps : ps.length ≤ 100)
    (h : ∀ h' tk l, s.heap.StaysIn h' → s.heap.get? l = none → h'.IsList l ps.toArray → Q (.ref l) { s with heap := h', toks := tk }) :
    wpAny (model PySem.Challenge.rw_oj0016_01.row.prog w) (Au dp un fr gd) (call (.ref 137) [.ref a]) Q E s := by
  revert X; k_fill; intro X
  refine' enterG (binds := [("datum", .ref a)]) X T st [] ?hm ?hroom ?ho ?hcd ?hbind ?hloc ?_ ?c1 ?c2 ?c3 ?c4
  case hm => exact fun q hq => nomatch hq
  (((case hroom => lia); (case ho => k_is); (case hcd => k_is); (case hbind => exact BindsTo.of_eq rfl); (case hloc => exact locs rfl); (case c1 => exact rfl); (case c2 => exact rfl); (case c3 => exact rfl); (case c4 => decide)))
  intro g L' h₁ tk F N X' T' st' gs lt kp
  have sg : s.heap.StaysIn g := fun b o e => gs b o e (fun q => nomatch q)
  have hag := ha.keeps sg
  clear X T ha
  cases hag
  all_goals ((repeat' (first | (((fail_if_success (with_reducible show wpAny _ _ (pyIter (Value.ref _)) _ _ _))); walk1) | (((fail_if_success (with_reducible show wpAny _ _ (pyIter (Value.ref _)) _ _ _))); dsimp only; ((fail_if_success (with_reducible show wpAny _ _ (pyIter (Value.ref _)) _ _ _))); walk1))))
  all_goals (rename Fr _ _ _ _ => F; rename News _ _ _ _ => N)
  all_goals exact h _ _ _ (fun b o e => F.keep b o (sg b o e)) (of_no sg (N _ (by k_mem)).2.2) (News.isList N (by k_mem))

end Mine
end

section
open PySem PySem.W PySem.Calls PyProof.Rows Mine
namespace Mine
theorem inst_mix {g h : Heap} {L x C dx : Addr} {m : Str → Option Value} {od : Obj} {sl : Array (Option Value)} {news : List (Addr × Obj)} (zF : Fr g L h m) (zN : News g L h news) (z1 : g.get? x = some (⟨.ref C, some dx, .plain, sl⟩ : Obj)) (z2 : (dx, od) ∈ news) :
    InstAt h x ⟨.ref C, some dx, .plain, sl⟩ C (some od) := ⟨zF.keep _ _ z1, rfl, rfl, (zN _ z2).1⟩
end Mine
local macro_rules | `(tactic| k_inst) => `(tactic| (apply inst_mix <;> first | k_asm | k_mem))

section
open PySem PySem.W PySem.Calls PyProof.Rows
set_option maxHeartbeats 4000000
namespace Mine


theorem place_lt (as : List Addr) (d : Value) : place as d < (as.length : Int) := by
  unfold place
  split
  · split
    · rename_i a hm; have := List.idxOf_lt_length_iff.mpr hm; lia
    · lia
  · lia
theorem place_ge (as : List Addr) (d : Value) : -1 ≤ place as d := by
  unfold place
  split
  · split <;> lia
  · lia
/-- what met answers, the numbers behind it, the last number -/
noncomputable def metR (as : List Addr) (nums : List Int) (c : Int) (d : Value) : (Int × Bool) × List Int × Int :=
  if place as d < 0 then ((0, false), nums, c) else if 0 < nums.getD (place as d).toNat 0 then ((nums.getD (place as d).toNat 0, true), nums, c) else ((c + 1, false), nums.set (place as d).toNat (c + 1), c + 1)
noncomputable abbrev labD (H1 H2 H3 : Int) (k1 k2 k3 : Tok) (lsh lnu : Addr) (c : Int) (t : Tok) : List DictEntry :=
  [⟨H1, .str (Str.ofString "shared") k1, .ref lsh⟩, ⟨H2, .str (Str.ofString "numbers") k2, .ref lnu⟩, ⟨H3, .str (Str.ofString "last") k3, .int c t⟩]
theorem c_has {w : World} {B : Heap} {mean : ExcName → Option Value} {mg mb : Str → Option Value} (X : (hd.heap_39 w.params).In B) (T : Top hd.view_39 (looseW hd.view_39 [Str.ofString "NIL"]) mean mg mb B)
    {dp un : Nat} {fr : Option (List Env)} {gd : Option (List Code)} {s : Shared} {E Q : Value → Shared → Prop} (st : B.StaysIn s.heap) (hd : dp + 4 < recursionLimit) (hu : un + 40 < cLine)
    {lb dxl lsh lnu : Addr} {H1 H2 H3 : Int} {k1 k2 k3 t : Tok} {c : Int} {as : List Addr} {d : Value}
    (hlb : s.heap.get? lb = some (instObj 175 dxl)) (hdx : s.heap.get? dxl = some (dictOf (labD H1 H2 H3 k1 k2 k3 lsh lnu c t) 3)) (hl : s.heap.IsList lsh (as.map Value.ref).toArray)
    (hlen : as.length < 2 ^ 20) (hd1 : Itm s.heap d) (hds : ∀ a ∈ as, Itm s.heap (.ref a))
    (h : ∀ h' tk, s.heap.StaysIn h' → Q (.bool (decide (0 ≤ place as d))) { s with heap := h', toks := tk }) :
    wpAny (model PySem.Challenge.rw_oj0016_01.row.prog w) (Au dp un fr gd) (call (.ref 165) [.ref lb, d]) Q E s := by
  revert X; k_fill; intro X
  refine' enterG (binds := [("self", .ref lb), ("datum", d)]) X T st [] ?hm ?hroom ?ho ?hcd ?hbind ?hloc ?_ ?c1 ?c2 ?c3 ?c4
  case hm => exact fun q hq => nomatch hq
  (((case hroom => lia); (case ho => k_is); (case hcd => k_is); (case hbind => exact BindsTo.of_eq rfl); (case hloc => exact locs rfl); (case c1 => exact rfl); (case c2 => exact rfl); (case c3 => exact rfl); (case c4 => decide)))
  intro g L' h₁ tk F N X' T' st' gs lt kp
  have sg : s.heap.StaysIn g := fun b o e => gs b o e (fun q => nomatch q)
  have hlb' := sg _ _ hlb
  have hdx' := sg _ _ hdx
  clear X T
  (repeat' (first | ((((fail_if_success (with_reducible show wpAny _ _ (pyIter (Value.ref _)) _ _ _)); (fail_if_success (with_reducible show wpAny _ _ (call (Value.ref _) _) _ _ _)))); walk1) | ((((fail_if_success (with_reducible show wpAny _ _ (pyIter (Value.ref _)) _ _ _)); (fail_if_success (with_reducible show wpAny _ _ (call (Value.ref _) _) _ _ _)))); dsimp only; (((fail_if_success (with_reducible show wpAny _ _ (pyIter (Value.ref _)) _ _ _)); (fail_if_success (with_reducible show wpAny _ _ (call (Value.ref _) _) _ _ _)))); walk1)))
  refine c_stands_in (dp := dp + 1) X' T' (by exact F.keep) (by lia) (by show un + 3 + 8 < cLine; lia) (by exact stays_list (fun b o e => F.keep b o (sg b o e)) hl) hlen (by exact hd1.keeps fun b o e => F.keep b o (sg b o e)) (by exact fun a ha => (hds a ha).keeps fun b o e => F.keep b o (sg b o e)) ?_
  intro h2 tk2 t2 kp2
  have F2 := F.keeps kp2
  have N2 := N.keeps kp2
  (repeat' (first | ((((fail_if_success (with_reducible show wpAny _ _ (pyIter (Value.ref _)) _ _ _)); (fail_if_success (with_reducible show wpAny _ _ (call (Value.ref _) _) _ _ _)))); walk1) | ((((fail_if_success (with_reducible show wpAny _ _ (pyIter (Value.ref _)) _ _ _)); (fail_if_success (with_reducible show wpAny _ _ (call (Value.ref _) _) _ _ _)))); dsimp only; (((fail_if_success (with_reducible show wpAny _ _ (pyIter (Value.ref _)) _ _ _)); (fail_if_success (with_reducible show wpAny _ _ (call (Value.ref _) _) _ _ _)))); walk1)))
  exact h _ _ (fun b o e => F2.keep b o (sg b o e))

theorem c_met {w : World} {B : Heap} {mean : ExcName → Option Value} {mg mb : Str → Option Value} (X : (hd.heap_39 w.params).In B) (T : Top hd.view_39 (looseW hd.view_39 [Str.ofString "NIL"]) mean mg mb B)
    {dp un : Nat} {fr : Option (List Env)} {gd : Option (List Code)} {s : Shared} {E Q : Value → Shared → Prop} (st : B.StaysIn s.heap) (hd : dp + 4 < recursionLimit) (hu : un + 40 < cLine)
    {lb dxl lsh lnu : Addr} {H1 H2 H3 : Int} {k1 k2 k3 t : Tok} {c0 : Nat} {c : Int} {as : List Addr} {d : Value} {vnu : List Value} {nums : List Int}
    (hlb : s.heap.get? lb = some (instObj 175 dxl)) (hdx : s.heap.get? dxl = some (dictOf (labD H1 H2 H3 k1 k2 k3 lsh lnu c t) 3)) (hl : s.heap.IsList lsh (as.map Value.ref).toArray)
    (hnu : s.heap.get? lnu = some (listOf vnu.toArray c0)) (hints : IntsAre vnu nums) (hnl : nums.length = as.length) (hne : lsh ≠ lnu) (hB1 : B.get? dxl = none) (hB2 : B.get? lnu = none) (hpos : 0 ≤ c)
    (hlen : as.length < 2 ^ 20) (hd1 : Itm s.heap d) (hds : ∀ a ∈ as, Itm s.heap (.ref a))
    (h : ∀ h' tk tp t2 tt vnu' c', (∀ b o, b ≠ dxl → b ≠ lnu → s.heap.get? b = some o → h'.get? b = some o) → s.heap.get? tp = none → h'.get? dxl = some (dictOf (labD H1 H2 H3 k1 k2 k3 lsh lnu (metR as nums c d).2.2 t2) 3) →
      h'.get? lnu = some (listOf vnu'.toArray c') → IntsAre vnu' (metR as nums c d).2.1 → h'.get? tp = some { cls := .type "tuple", data := .seq #[.int (metR as nums c d).1.1 tt, .bool (metR as nums c d).1.2] } → Q (.ref tp) { s with heap := h', toks := tk }) :
    wpAny (model PySem.Challenge.rw_oj0016_01.row.prog w) (Au dp un fr gd) (call (.ref 172) [.ref lb, d]) Q E s := by
  revert X; k_fill; intro X
  refine' enterG (binds := [("self", .ref lb), ("datum", d)]) X T st [(dxl, dictOf (labD H1 H2 H3 k1 k2 k3 lsh lnu c t) 3), (lnu, listOf vnu.toArray c0)] ?hm ?hroom ?ho ?hcd ?hbind ?hloc ?_ ?c1 ?c2 ?c3 ?c4
  case hm => exact List.forall_mem_cons.mpr ⟨⟨hdx, hB1⟩, List.forall_mem_cons.mpr ⟨⟨hnu, hB2⟩, fun _ h => nomatch h⟩⟩
  (((case hroom => lia); (case ho => k_is); (case hcd => k_is); (case hbind => exact BindsTo.of_eq rfl); (case hloc => exact locs rfl); (case c1 => exact rfl); (case c2 => exact rfl); (case c3 => exact rfl); (case c4 => decide)))
  intro g L' h₁ tk F N X' T' st' gs lt kp
  have hneq : lb ≠ dxl := by rintro rfl; rw [hlb] at hdx; cases hdx
  have hneq2 : lb ≠ lnu := by rintro rfl; rw [hlb] at hnu; cases hnu
  have hneq3 : lsh ≠ dxl := by
    rintro rfl; obtain ⟨o, ho, hc, _⟩ := hl; rw [hdx] at ho; cases ho; exact absurd (Value.type.inj hc) (by decide)
  have hneq4 : dxl ≠ lnu := by
    rintro rfl; rw [hdx] at hnu; have := congrArg (fun o => o.map Obj.cls) hnu; exact absurd (Value.type.inj (Option.some.inj this)) (by decide)
  have hlb' := gs _ _ hlb (by simp [hneq, hneq2])
  have hneq5 := neN hneq4
  have hl' : g.IsList lsh (as.map Value.ref).toArray := by
    obtain ⟨o, ho, r⟩ := hl
    exact ⟨o, gs _ _ ho (by simp [hneq3, hne]), r⟩
  clear X T
  have hpl := place_lt as d
  have hpm := place_ge as d
  rw [← hnl] at hpl
  have hnl2 : (nums.length : Int) < 2 ^ 20 := by lia
  simp only [metR] at h
  generalize hpp : place as d = pp at hpl hpm h ⊢
  (repeat' (first | ((((fail_if_success (with_reducible show wpAny _ _ (pyIter (Value.ref _)) _ _ _)); (fail_if_success (with_reducible show wpAny _ _ (call (Value.ref _) _) _ _ _)))); walk1) | ((((fail_if_success (with_reducible show wpAny _ _ (pyIter (Value.ref _)) _ _ _)); (fail_if_success (with_reducible show wpAny _ _ (call (Value.ref _) _) _ _ _)))); dsimp only; (((fail_if_success (with_reducible show wpAny _ _ (pyIter (Value.ref _)) _ _ _)); (fail_if_success (with_reducible show wpAny _ _ (call (Value.ref _) _) _ _ _)))); walk1)))
  refine c_stands_in (dp := dp + 1) (as := as) X' T' (by exact F.keep) (by lia) (by show un + 3 + 8 < cLine; lia) (by exact stays_list F.keep hl') hlen (by exact hd1.keeps kp) (by exact fun a ha => (hds a ha).keeps kp) ?_
  intro h2 tk2 t2 kp2
  have F2 := F.keeps kp2
  have N2 := N.keeps kp2
  rw [hpp]
  (repeat' (first | ((((fail_if_success (with_reducible show wpAny _ _ (pyIter (Value.ref _)) _ _ _)); (fail_if_success (with_reducible show wpAny _ _ (call (Value.ref _) _) _ _ _)))); walk1) | ((((fail_if_success (with_reducible show wpAny _ _ (pyIter (Value.ref _)) _ _ _)); (fail_if_success (with_reducible show wpAny _ _ (call (Value.ref _) _) _ _ _)))); dsimp only; (((fail_if_success (with_reducible show wpAny _ _ (pyIter (Value.ref _)) _ _ _)); (fail_if_success (with_reducible show wpAny _ _ (call (Value.ref _) _) _ _ _)))); walk1)))
  all_goals (rename Fr _ _ _ _ => F; rename News _ _ _ _ => N; rename (_ ∧ _) => l1)
  all_goals (have hT : ∀ D, dxl < D → lnu < D → g.get? D = none → s.heap.get? D = none := fun D h1 h2 h3 => (by
    cases e : s.heap.get? D with
    | none => rfl
    | some o => rw [gs D o e (by simp; exact ⟨Nat.ne_of_gt h1, Nat.ne_of_gt h2⟩)] at h3; cases h3))
  all_goals (have kk : ∀ b o, b ≠ dxl → b ≠ lnu → s.heap.get? b = some o → g.get? b = some o := fun b o h1 h2 e => gs b o e (by simp; exact ⟨h1, h2⟩))
  · rename (pp < 0) => a
    simp only [if_pos a] at h
    exact h _ _ _ _ _ _ _ (fun b o h1 h2 e => F.keep _ _ (kk b o h1 h2 e)) (hT _ l1.1 l1.2 (N _ (.head _)).2.2) (N.get (a := dxl) (by k_mem)) (N.get (a := lnu) (by k_mem)) hints (N.get (by exact .head _))
  · rename (0 < _) => b
    rename (¬ pp < 0) => a
    simp only [if_neg a, if_pos b] at h
    exact h _ _ _ _ _ _ _ (fun b o h1 h2 e => F.keep _ _ (kk b o h1 h2 e)) (hT _ l1.1 l1.2 (N _ (.head _)).2.2) (N.get (a := dxl) (by k_mem)) (N.get (a := lnu) (by k_mem)) hints (N.get (by exact .head _))
  · rename (¬ 0 < _) => b
    rename (¬ pp < 0) => a
    rename (IntsAre (vnu.set _ _) _) => hi
    simp only [if_neg a, if_neg b] at h
    exact h _ _ _ _ _ _ _ (fun b o h1 h2 e => F.keep _ _ (kk b o h1 h2 e)) (hT _ l1.1 l1.2 (N _ (.head _)).2.2) (N.get (a := dxl) (by k_mem)) (N.get (a := lnu) (by k_mem)) hi (N.get (by exact .head _))

end Mine
end

section
open PySem PySem.W PySem.Calls PyProof.Rows
namespace Mine
section
variable {prog : Program} {w : World} {dp un : Nat} {fr : Option (List Env)} {gd : Option (List Code)} {R : Result → Shared → Prop} {s : Shared} {K : Frag} {B : Heap} {p : Program} {loose : List Str} {mean : ExcName → Option Value} {mg mb : Str → Option Value}
  {name qual : Str} {params : Arguments} {body : List Stmt} {scope : Scope} {dV kV doc pm cdv ct oc : Value} {an od : Option Addr} {osl : Array (Option Value)} {f : Addr} {args : List Value} {binds : List (Str × Value)}

theorem enterC (X : K.In B) (T : Top p loose mean mg mb B) (st : B.StaysIn s.heap) (mods : List (Addr × Obj)) (hm : ∀ q ∈ mods, s.heap.get? q.1 = some q.2 ∧ B.get? q.1 = none)
    (hroom : dp < recursionLimit)
    (ho : K.lookup f = some ⟨oc, od, .func (fnOf name qual params body scope dV kV doc pm an cdv ct), osl⟩) (hcd : codeIn K cdv qual = true)
    (hbind : BindsTo s (fnOf name qual params body scope dV kV doc pm an cdv ct) ⟨args, []⟩ binds) (hloc : ∀ y ∈ binds, scope.names.lookup y.1 = some .local)
    (h : ∀ g L' h₁ tk, Fr g L' h₁ (fun y => binds.reverse.lookup y) → News g L' h₁ mods → K.In g → Top p loose mean mg mb g → B.StaysIn g → GSub s.heap g (mods.map (·.1)) → (∀ q ∈ mods, q.1 < L') → s.heap.StaysIn h₁ →
      wpAny (model prog w) ((Au dp un fr gd).deeper (envOf qual scope L' f cdv)) (execs body (envOf qual scope L' f cdv))
        (fun fl s' => R (.ok (.ret (match fl with | .ret v => v | _ => .none))) s') (fun _ _ => False) { s with heap := h₁, toks := tk })
    (hco : scope.isCoroutine = false) (hgen : scope.isGenerator = false) (hk : scope.kind = .function)
    (hcell : ∀ x ∈ scope.names, x.2 ≠ .cell) : codeAny (model prog w) (Au dp un fr gd) (.call (.ref f) ⟨args, []⟩) R s := by
  have st' : B.StaysIn (hideAll s.heap (mods.map (·.1))) := fun b o e => hideAll_get _ (st b o e) (fun q => by
    obtain ⟨p, hp, rfl⟩ := List.mem_map.mp q
    rw [(hm p hp).2] at e; cases e)
  refine codeAny_call_def (fd := fnX name qual params body scope [] dV kV doc pm an cdv ct) (body := body) (binds := binds) hroom ((X.keeps st) _ _ ho) rfl (T.nolimit.keeps st) (codeRec_of (X.keeps st) hcd) rfl hbind hcell hloc (fun h₁ hns hk₁ => ?_) hco hgen hk
  have X2 := X.keeps st'
  have T2 := T.keeps st'
  refine wpAny_mono (h (hideAll s.heap (mods.map (·.1))) s.heap.objs.size h₁ _ ⟨hns, fun b o e => hk₁ b o (of_hideAll _ e), Nat.le_of_eq (hideAll_size _ _)⟩
    (fun p hp => ⟨hk₁ _ _ (hm p hp).1, Nat.ne_of_lt (Heap.lt_size (hm p hp).1), hideAll_none _ (List.mem_map_of_mem hp)⟩) X2 T2 st' (fun b o e n => hideAll_get _ e n) (fun q hq => Heap.lt_size (hm q hq).1) hk₁) (fun fl s' hl => ?_) fun _ _ y => y.elim
  exact hl
end

theorem au_of {A : Around} (h : A.handled = none) : A = Au A.depth A.units A.frames A.guards := by
  cases A; simp_all

section
variable {prog : Program} {w : World} {A : Around} {s : Shared} {env : Env} {h₀ : Heap} {Q : Flow → Shared → Prop}
def WEnd (h₀ : Heap) (L : Addr) (J : Nat → (Str → Option Value) → List (Addr × Obj) → Prop) (k : Nat) (s₁ : Shared) (Q : Flow → Shared → Prop) (f : Flow) (s₂ : Shared) : Prop :=
  match f with
  | .ret v => Q (.ret v) s₂
  | .brk => Q .next s₂
  | _ => ∃ k' h' tk m' news', k' < k ∧ s₂ = { s₁ with heap := h', toks := tk } ∧ Fr h₀ L h' m' ∧ News h₀ L h' news' ∧ J k' m' news'
theorem wend_next {h₀ h' : Heap} {L : Addr} {J : Nat → (Str → Option Value) → List (Addr × Obj) → Prop} {k k' : Nat} {s₁ : Shared} {tk : Nat} {m' : Str → Option Value} {news' : List (Addr × Obj)}
    (hk : k' < k) (F : Fr h₀ L h' m') (N : News h₀ L h' news') (hj : J k' m' news') : WEnd h₀ L J k s₁ Q .next { s₁ with heap := h', toks := tk } := ⟨k', h', tk, m', news', hk, rfl, F, N, hj⟩
theorem wend_cont {h₀ h' : Heap} {L : Addr} {J : Nat → (Str → Option Value) → List (Addr × Obj) → Prop} {k k' : Nat} {s₁ : Shared} {tk : Nat} {m' : Str → Option Value} {news' : List (Addr × Obj)}
    (hk : k' < k) (F : Fr h₀ L h' m') (N : News h₀ L h' news') (hj : J k' m' news') : WEnd h₀ L J k s₁ Q .cont { s₁ with heap := h', toks := tk } := ⟨k', h', tk, m', news', hk, rfl, F, N, hj⟩

theorem while_N {E : Value → Shared → Prop} {test : PySem.Expr} {body : List Stmt} {pos : Pos} {L : Addr} {m : Str → Option Value} {news : List (Addr × Obj)} (J : Nat → (Str → Option Value) → List (Addr × Obj) → Prop) {k₀ : Nat}
    (F : Fr h₀ L s.heap m) (N : News h₀ L s.heap news) (hj : J k₀ m news)
    (turn : ∀ k m₁ news₁ h tk, J k m₁ news₁ → Fr h₀ L h m₁ → News h₀ L h news₁ →
      wpAny (model prog w) A (isTrue test env (eval test env)) (fun b s₂ => if b then wpAny (model prog w) A (execs body env) (WEnd h₀ L J k { s with heap := h, toks := tk } Q) (fun _ _ => False) s₂ else Q .next s₂) (fun _ _ => False) { s with heap := h, toks := tk }) 
    (hL : env.locals = L) :
    wpAny (model prog w) A (exec (.While test body [] pos) env) Q E s := by
  subst hL
  refine wpAny_While (codeAny_whileLoop (fun k s' => ∃ h tk m' news', s' = { s with heap := h, toks := tk } ∧ Fr h₀ env.locals h m' ∧ News h₀ env.locals h news' ∧ J k m' news') ?_ k₀ ⟨s.heap, s.toks, m, news, rfl, F, N, hj⟩)
  rintro k s' ⟨h, tk, m', news', rfl, F', N', hJ⟩
  refine wpAny_mono (turn k m' news' h tk hJ F' N') (fun b s₂ hb => ?_) fun _ _ e => e.elim
  cases b with
  | false =>
    simp only [Bool.false_eq_true, if_false] at hb ⊢
    exact wpAny_execs_nil hb
  | true =>
    simp only [if_true] at hb ⊢
    refine wpAny_mono hb (fun f s₃ h₃ => ?_) fun _ _ e => e.elim
    cases f with
    | ret v => exact h₃
    | brk => exact h₃
    | next =>
      obtain ⟨k', h', tk', m'', news'', hlt, rfl, F'', N'', hJ'⟩ := h₃
      exact ⟨k', hlt, h', tk', m'', news'', rfl, F'', N'', hJ'⟩
    | cont =>
      obtain ⟨k', h', tk', m'', news'', hlt, rfl, F'', N'', hJ'⟩ := h₃
      exact ⟨k', hlt, h', tk', m'', news'', rfl, F'', N'', hJ'⟩
end
end Mine
end

section
namespace Mine
/-! the plain part: a depth-first walk's counts -/
inductive Reach (kids : Nat → List Nat) (f : Nat) : Nat → Prop
  | base : Reach kids f f
  | step {a b : Nat} : Reach kids f a → b ∈ kids a → Reach kids f b
noncomputable def Tot (kids : Nat → List Nat) (f : Nat) (C : List Nat) (a : Nat) : Nat := (f :: C.flatMap kids).count a
structure Cover (kids : Nat → List Nat) (f : Nat) (C : List Nat) : Prop where
  nd : C.Nodup
  mem : ∀ a, a ∈ C ↔ Reach kids f a
theorem tot_perm {kids : Nat → List Nat} {f : Nat} {C C' : List Nat} (p : C.Perm C') (a : Nat) : Tot kids f C a = Tot kids f C' a :=
  ((p.flatMap_right kids).cons f).count_eq a
theorem cover_tot {kids : Nat → List Nat} {f : Nat} {C C' : List Nat} (h : Cover kids f C) (h' : Cover kids f C') (a : Nat) : Tot kids f C a = Tot kids f C' a :=
  tot_perm ((List.perm_ext_iff_of_nodup h.nd h'.nd).mpr fun x => (h.mem x).trans (h'.mem x).symm) a
theorem tot_snoc (kids : Nat → List Nat) (f : Nat) (C : List Nat) (x a : Nat) : Tot kids f (C ++ [x]) a = Tot kids f C a + (kids x).count a := by
  simp [Tot, List.flatMap_append, List.count_cons, List.count_append]; lia

structure LInv (kids : Nat → List Nat) (f : Nat) (seen shared W : List Nat) : Prop where
  nd : seen.Nodup
  sn : shared.Nodup
  rs : ∀ a ∈ seen, Reach kids f a
  rw : ∀ a ∈ W, Reach kids f a
  un : ∀ a, a ∉ seen → Tot kids f seen a = W.count a
  one : ∀ a, a ∈ seen → a ∉ shared → Tot kids f seen a = W.count a + 1
  two : ∀ a, a ∈ shared → a ∈ seen ∧ W.count a + 2 ≤ Tot kids f seen a
theorem LInv.start (kids : Nat → List Nat) (f : Nat) : LInv kids f [] [] [f] where
  nd := List.nodup_nil
  sn := List.nodup_nil
  rs := fun a h => nomatch h
  rw := fun a h => by rw [List.mem_singleton.mp h]; exact .base
  un := fun a _ => by simp [Tot]
  one := fun a h => nomatch h
  two := fun a h => nomatch h
theorem LInv.perm {kids : Nat → List Nat} {f : Nat} {seen shared W W' : List Nat} (h : LInv kids f seen shared W) (p : W.Perm W') : LInv kids f seen shared W' where
  nd := h.nd
  sn := h.sn
  rs := h.rs
  rw := fun a ha => h.rw a (p.mem_iff.mpr ha)
  un := fun a ha => (h.un a ha).trans (p.count_eq a)
  one := fun a ha hb => by rw [h.one a ha hb, p.count_eq a]
  two := fun a ha => by rw [← p.count_eq a]; exact h.two a ha
theorem LInv.fresh {kids : Nat → List Nat} {f : Nat} {seen shared W : List Nat} {a : Nat} (h : LInv kids f seen shared (a :: W)) (hs : a ∉ seen) : LInv kids f (seen ++ [a]) shared (kids a ++ W) where
  nd := List.nodup_append.mpr ⟨h.nd, List.pairwise_singleton _ _, fun x hx y hy e => hs (by rw [List.mem_singleton.mp hy] at e; exact e ▸ hx)⟩
  sn := h.sn
  rs := fun x hx => by
    rcases List.mem_append.mp hx with hx | hx
    · exact h.rs x hx
    · rw [List.mem_singleton.mp hx]; exact h.rw a (.head _)
  rw := fun x hx => by
    rcases List.mem_append.mp hx with hx | hx
    · exact .step (h.rw a (.head _)) hx
    · exact h.rw x (.tail _ hx)
  un := fun x hx => by
    have h1 : x ∉ seen := fun q => hx (List.mem_append_left _ q)
    have h2 : x ≠ a := fun q => hx (List.mem_append_right _ (List.mem_singleton.mpr q))
    have := h.un x h1
    rw [tot_snoc, this, List.count_append, List.count_cons_of_ne (Ne.symm h2)]
    lia
  one := fun x hx hn => by
    rw [tot_snoc, List.count_append]
    rcases List.mem_append.mp hx with hx | hx
    · have h2 : x ≠ a := fun q => hs (q ▸ hx)
      have := h.one x hx hn
      rw [List.count_cons_of_ne (Ne.symm h2)] at this
      lia
    · rw [List.mem_singleton.mp hx]
      have := h.un a hs
      rw [List.count_cons_self] at this
      lia
  two := fun x hx => by
    obtain ⟨h1, h2⟩ := h.two x hx
    have h3 : x ≠ a := fun q => hs (q ▸ h1)
    rw [List.count_cons_of_ne (Ne.symm h3)] at h2
    refine ⟨List.mem_append_left _ h1, ?_⟩
    rw [tot_snoc, List.count_append]
    lia
theorem LInv.second {kids : Nat → List Nat} {f : Nat} {seen shared W : List Nat} {a : Nat} (h : LInv kids f seen shared (a :: W)) (hs : a ∈ seen) (hn : a ∉ shared) : LInv kids f seen (shared ++ [a]) W where
  nd := h.nd
  sn := List.nodup_append.mpr ⟨h.sn, List.pairwise_singleton _ _, fun x hx y hy e => hn (by rw [List.mem_singleton.mp hy] at e; exact e ▸ hx)⟩
  rs := h.rs
  rw := fun x hx => h.rw x (.tail _ hx)
  un := fun x hx => by
    have h2 : x ≠ a := fun q => hx (q ▸ hs)
    have := h.un x hx
    rwa [List.count_cons_of_ne (Ne.symm h2)] at this
  one := fun x hx hq => by
    have h2 : x ≠ a := fun q => hq (List.mem_append_right _ (List.mem_singleton.mpr q))
    have := h.one x hx (fun q => hq (List.mem_append_left _ q))
    rwa [List.count_cons_of_ne (Ne.symm h2)] at this
  two := fun x hx => by
    rcases List.mem_append.mp hx with hx | hx
    · obtain ⟨h1, h2⟩ := h.two x hx
      refine ⟨h1, Nat.le_trans (Nat.add_le_add_right ?_ 2) h2⟩
      exact List.Sublist.count_le x (List.sublist_cons_self a W)
    · rw [List.mem_singleton.mp hx]
      have := h.one a hs hn
      rw [List.count_cons_self] at this
      exact ⟨hs, by lia⟩
theorem LInv.more {kids : Nat → List Nat} {f : Nat} {seen shared W : List Nat} {a : Nat} (h : LInv kids f seen shared (a :: W)) (hn : a ∈ shared) : LInv kids f seen shared W where
  nd := h.nd
  sn := h.sn
  rs := h.rs
  rw := fun x hx => h.rw x (.tail _ hx)
  un := fun x hx => by
    have h2 : x ≠ a := fun q => hx (q ▸ (h.two a hn).1)
    have := h.un x hx
    rwa [List.count_cons_of_ne (Ne.symm h2)] at this
  one := fun x hx hq => by
    have h2 : x ≠ a := fun q => hq (q ▸ hn)
    have := h.one x hx hq
    rwa [List.count_cons_of_ne (Ne.symm h2)] at this
  two := fun x hx => by
    obtain ⟨h1, h2⟩ := h.two x hx
    exact ⟨h1, Nat.le_trans (Nat.add_le_add_right (List.Sublist.count_le x (List.sublist_cons_self a W)) 2) h2⟩
theorem closed_reach {kids : Nat → List Nat} {f : Nat} {C : List Nat} (hf : f ∈ C) (hc : ∀ a ∈ C, ∀ b ∈ kids a, b ∈ C) {a : Nat} (h : Reach kids f a) : a ∈ C := by
  induction h with
  | base => exact hf
  | step _ hb ih => exact hc _ ih _ hb
theorem LInv.done {kids : Nat → List Nat} {f : Nat} {seen shared : List Nat} (h : LInv kids f seen shared []) : Cover kids f seen ∧ ∀ a, a ∈ shared ↔ 2 ≤ Tot kids f seen a := by
  have pos : ∀ a, 0 < Tot kids f seen a → a ∈ seen := fun a ha => by
    by_cases e : a ∈ seen
    · exact e
    · have := h.un a e; simp at this; lia
  have hf : f ∈ seen := pos f (by simp [Tot])
  have hc : ∀ a ∈ seen, ∀ b ∈ kids a, b ∈ seen := fun a ha b hb => pos b (by
    have : b ∈ f :: seen.flatMap kids := List.mem_cons_of_mem _ (List.mem_flatMap.mpr ⟨a, ha, hb⟩)
    exact List.count_pos_iff.mpr this)
  refine ⟨⟨h.nd, fun a => ⟨h.rs a, closed_reach hf hc⟩⟩, fun a => ⟨fun ha => ?_, fun ha => ?_⟩⟩
  · have := (h.two a ha).2; simp at this; exact this
  · by_cases e : a ∈ shared
    · exact e
    · have := h.one a (pos a (by lia)) e
      simp at this; lia
end Mine
end

section
open PySem PySem.W PySem.Calls PyProof.Rows Mine
local macro_rules | `(tactic| k_ne) => `(tactic| (refine neN ?_; (try dsimp only); lia))

section
open PySem PySem.W PySem.Calls PyProof.Rows
set_option maxHeartbeats 4000000
namespace Mine

theorem nodup_le {l l' : List Addr} (h : l.Nodup) (hs : ∀ a ∈ l, a ∈ l') : l.length ≤ l'.length := by
  exact List.Nodup.length_le_of_subset h hs
noncomputable def refIn (nodes : List Addr) (v : Value) : Option Addr := match v with
  | .ref b => if b ∈ nodes then some b else none
  | _ => none
noncomputable abbrev kidsOf (nodes : List Addr) (parts : Addr → List Value) (a : Addr) : List Addr := (parts a).filterMap (refIn nodes)
theorem slice_rev {prog : Program} {w : World} {A : Around} {E : Value → Shared → Prop} {s : Shared} {h₀ : Heap} {L l : Addr} {m : Str → Option Value} {news : List (Addr × Obj)} {value slice : PySem.Expr} {vs : List Value} {i : Value} {Q : Value → Shared → Prop}
    (F : Fr h₀ L s.heap m) (N : News h₀ L s.heap news) (hl : s.heap.IsList l vs.toArray) (pk : IsPart i (some (-1)))
    (h : ∀ D h', Fr h₀ L h' m → News h₀ L h' ((D, listOf vs.reverse.toArray 0) :: news) → (∀ p ∈ news, p.1 < D) → s.heap.StaysIn h' → Q (.ref D) { s with heap := h' })
    (hs : subscripted slice false (.ref l) (.ref s.heap.objs.size) = operate [.ref l, .ref s.heap.objs.size] (getItem (.ref l) (.ref s.heap.objs.size))) (hz : vs.length ≤ sizeLine) :
    wpAny (model prog w) A (subscriptTail value slice (.ref l) (.ref s.heap.objs.size)) Q E { s with heap := s.heap.push { cls := .type "slice", data := .fields #[.none, .none, i] } } := by
  refine tail_any (Heap.IsList.typeIs (s := { s with heap := s.heap.push { cls := .type "slice", data := .fields #[.none, .none, i] } }) (hl.push _)) list_getitem_lookup
    (wpAny_getItem_list_slice (hl.push _) (Heap.IsSliceOf.new ..) .none .none pk (by decide) ?_ (by simpa using hz)) hs
  have N1 := News.push (F.push { cls := .type "slice", data := .fields #[.none, .none, i] }) (N.grown fun _ _ e => Heap.get?_push_of_some _ e) { cls := .type "list", data := .seq (slicePick vs.toArray none none (some (-1))) }
  rw [krv_pick] at N1 ⊢
  exact h _ _ ((F.push _).push _) N1 (fun p hp => by rw [Heap.size_push]; exact Nat.lt_succ_of_lt (Heap.lt_size (N p hp).1)) (fun b o e => Heap.get?_push_of_some _ (Heap.get?_push_of_some _ e))
theorem place_neg {as : List Addr} {b : Addr} (h : place as (.ref b) < 0) : b ∉ as := fun q => by
  simp only [place, if_pos q] at h; lia
theorem place_pos {as : List Addr} {b : Addr} (h : ¬ place as (.ref b) < 0) : b ∈ as := Decidable.byContradiction fun q => by
  simp only [place, if_neg q] at h; lia
theorem refIn_none {nodes : List Addr} {v : Value} (h : ∀ b ∈ nodes, v ≠ .ref b) : refIn nodes v = none := by
  unfold refIn
  split
  · rename_i b; exact if_neg fun q => h b q rfl
  · rfl
def WaitOk (h : Heap) (nodes : List Addr) (v : Value) : Prop := (∃ b ∈ nodes, v = .ref b) ∨ (LeafAt h v ∧ ∀ b ∈ nodes, v ≠ .ref b)
theorem WaitOk.keeps {h h' : Heap} {nodes : List Addr} {v : Value} (x : WaitOk h nodes v) (k : h.StaysIn h') : WaitOk h' nodes v := x.elim .inl fun y => .inr ⟨y.1.keeps k, y.2⟩
def JI4 (w : World) (g : Heap) (nodes : List Addr) (parts : Addr → List Value) (a0 x dx lwa lse lnu lsh : Addr) (k1 k2 k3 t : Tok) (k : Nat) (m : Str → Option Value) (news : List (Addr × Obj)) : Prop :=
  ∃ (u : Option Value) (seen shared : List Addr) (waiting vnu : List Value) (c1 c2 c3 c4 : Nat),
    m = (fun y => if y = Str.ofString "at" then u else if y = Str.ofString "waiting" then some (Value.ref lwa) else if y = Str.ofString "seen" then some (Value.ref lse) else List.lookup y [(Str.ofString "self", Value.ref x), (Str.ofString "datum", Value.ref a0)].reverse) ∧
    news = [(lwa, listOf waiting.toArray c4), (lse, listOf (seen.map Value.ref).toArray c3), (lnu, listOf vnu.toArray c2), (lsh, listOf (shared.map Value.ref).toArray c1), (dx, dictOf (labD (PyData.keyHash w.params "shared") (PyData.keyHash w.params "numbers") (PyData.keyHash w.params "last") k1 k2 k3 lsh lnu 0 t) 3)] ∧
    LInv (kidsOf nodes parts) a0 seen shared (waiting.filterMap (refIn nodes)) ∧ IntsAre vnu (List.replicate shared.length 0) ∧ (∀ v ∈ waiting, WaitOk g nodes v) ∧ (∀ a ∈ seen, a ∈ nodes) ∧ (∀ a ∈ shared, a ∈ nodes) ∧
    waiting.length ≤ 1 + 3 * seen.length ∧ k = 4 * (nodes.length - seen.length) + waiting.length
theorem c_init {w : World} {B : Heap} {mean : ExcName → Option Value} {mg mb : Str → Option Value} (X : (hd.heap_39 w.params).In B) (T : Top hd.view_39 (looseW hd.view_39 [Str.ofString "NIL"]) mean mg mb B)
    {dp un : Nat} {fr : Option (List Env)} {gd : Option (List Code)} {s : Shared} {R : Result → Shared → Prop} (st : B.StaysIn s.heap) (hd : dp + 5 < recursionLimit) (hu : un + 60 < cLine)
    {x dx a0 : Addr} {nodes : List Addr} {parts : Addr → List Value} (hx : s.heap.get? x = some (instObj 175 dx)) (hdx : s.heap.get? dx = some (dictOf [] 0)) (hB : B.get? dx = none)
    {gn : Heap} (hgn : gn.StaysIn s.heap) (hgd : gn.get? dx = none) (hnode : ∀ a ∈ nodes, NodeAt gn a (parts a)) (hkid : ∀ a ∈ nodes, ∀ v ∈ parts a, WaitOk gn nodes v) (hpl : ∀ a ∈ nodes, (parts a).length ≤ 3) (hn7 : nodes.length ≤ 7) (ha0 : a0 ∈ nodes)
    (h : ∀ h' tk lsh lnu H1 H2 H3 k1 k2 k3 t vnu c1 c2 (shared C : List Addr), (∀ b o, b ≠ dx → s.heap.get? b = some o → h'.get? b = some o) → h'.get? dx = some (dictOf (labD H1 H2 H3 k1 k2 k3 lsh lnu 0 t) 3) →
      h'.get? lsh = some (listOf (shared.map Value.ref).toArray c1) → h'.get? lnu = some (listOf vnu.toArray c2) → IntsAre vnu (List.replicate shared.length 0) → s.heap.get? lsh = none → s.heap.get? lnu = none → lsh ≠ lnu →
      shared.Nodup → (∀ a ∈ shared, a ∈ nodes) → Cover (kidsOf nodes parts) a0 C → (∀ a, a ∈ shared ↔ 2 ≤ Tot (kidsOf nodes parts) a0 C a) → R (.ok (.ret .none)) { s with heap := h', toks := tk }) :
    codeAny (model PySem.Challenge.rw_oj0016_01.row.prog w) (Au dp un fr gd) (.call (.ref 158) ⟨[.ref x, .ref a0], []⟩) R s := by
  revert X; k_fill; intro X
  have hdA : dp + 1 + 1 < recursionLimit := by lia
  have hdB : dp + 1 + 2 < recursionLimit := by lia
  have huA : un + 3 + 8 < cLine := by lia
  have huB : un + 3 + 20 < cLine := by lia
  refine' enterC (binds := [("self", .ref x), ("datum", .ref a0)]) X T st [(dx, dictOf [] 0)] ?hm ?hroom ?ho ?hcd ?hbind ?hloc ?_ ?c1 ?c2 ?c3 ?c4
  case hm => exact List.forall_mem_cons.mpr ⟨⟨hdx, hB⟩, fun _ h => nomatch h⟩
  (((case hroom => lia); (case ho => k_is); (case hcd => k_is); (case hbind => exact BindsTo.of_eq rfl); (case hloc => exact locs rfl); (case c1 => exact rfl); (case c2 => exact rfl); (case c3 => exact rfl); (case c4 => decide)))
  intro g L' h₁ tk F N X' T' st' gs lt kp
  have hxd : x ≠ dx := by rintro rfl; rw [hx] at hdx; cases hdx
  have hx' := gs _ _ hx (by simp [hxd])
  have gk : gn.StaysIn g := fun b o e => gs b o (hgn b o e) (by simp; rintro rfl; rw [hgd] at e; cases e)
  clear X T
  (repeat' (first | ((((fail_if_success (with_reducible show wpAny _ _ (pyIter (Value.ref _)) _ _ _)); (fail_if_success (with_reducible show wpAny _ _ (call (Value.ref _) _) _ _ _)); (fail_if_success (with_reducible show wpAny _ _ (exec (Stmt.While _ _ _ _) _) _ _ _)); (fail_if_success (with_reducible show wpAny _ _ (subscriptTail _ (PySem.Expr.Slice _ _ _ _) _ _) _ _ _)); (fail_if_success (with_reducible show wpAny _ _ (call (Value.builtin "list.pop") _) _ _ _)); (fail_if_success (with_reducible show wpAny _ _ (call (Value.builtin "list.extend") _) _ _ _)); (fail_if_success (with_reducible show wpAny _ _ (call (Value.builtin "len") _) _ _ _)))); walk1) | ((((fail_if_success (with_reducible show wpAny _ _ (pyIter (Value.ref _)) _ _ _)); (fail_if_success (with_reducible show wpAny _ _ (call (Value.ref _) _) _ _ _)); (fail_if_success (with_reducible show wpAny _ _ (exec (Stmt.While _ _ _ _) _) _ _ _)); (fail_if_success (with_reducible show wpAny _ _ (subscriptTail _ (PySem.Expr.Slice _ _ _ _) _ _) _ _ _)); (fail_if_success (with_reducible show wpAny _ _ (call (Value.builtin "list.pop") _) _ _ _)); (fail_if_success (with_reducible show wpAny _ _ (call (Value.builtin "list.extend") _) _ _ _)); (fail_if_success (with_reducible show wpAny _ _ (call (Value.builtin "len") _) _ _ _)))); dsimp only; (((fail_if_success (with_reducible show wpAny _ _ (pyIter (Value.ref _)) _ _ _)); (fail_if_success (with_reducible show wpAny _ _ (call (Value.ref _) _) _ _ _)); (fail_if_success (with_reducible show wpAny _ _ (exec (Stmt.While _ _ _ _) _) _ _ _)); (fail_if_success (with_reducible show wpAny _ _ (subscriptTail _ (PySem.Expr.Slice _ _ _ _) _ _) _ _ _)); (fail_if_success (with_reducible show wpAny _ _ (call (Value.builtin "list.pop") _) _ _ _)); (fail_if_success (with_reducible show wpAny _ _ (call (Value.builtin "list.extend") _) _ _ _)); (fail_if_success (with_reducible show wpAny _ _ (call (Value.builtin "len") _) _ _ _)))); walk1)))
  rename_i lsh h8 l3 h7 tk2 lnu h6 l2 h5 tk1 h4 lse h3 l1 h2 tk0 lwa h1 l0 h0 F N
  obtain ⟨k1, k2, k3, t, N⟩ : ∃ k1 k2 k3 t, News g L' h0 [(lwa, listOf [Value.ref a0].toArray 0), (lse, listOf (([] : List Addr).map Value.ref).toArray 0), (lnu, listOf ([] : List Value).toArray 0), (lsh, listOf (([] : List Addr).map Value.ref).toArray 0), (dx, dictOf (labD (PyData.keyHash w.params "shared") (PyData.keyHash w.params "numbers") (PyData.keyHash w.params "last") k1 k2 k3 lsh lnu 0 t) 3)] := ⟨_, _, _, _, N⟩
  refine while_N (k₀ := 4 * (nodes.length - 0) + 1) (JI4 w g nodes parts a0 x dx lwa lse lnu lsh k1 k2 k3 t) F N ?_ ?_ rfl
  · refine ⟨_, [], [], [.ref a0], [], 0, 0, 0, 0, map_self _ _, rfl, ?_, .nil, ?_, (by intro a h; cases h), (by intro a h; cases h), Nat.le_refl _, rfl⟩
    · have : [Value.ref a0].filterMap (refIn nodes) = [a0] := by simp [refIn, ha0]
      rw [this]
      exact LInv.start _ _
    · intro v hv
      rw [List.mem_singleton.mp hv]
      exact .inl ⟨a0, ha0, rfl⟩
  · rintro k m₁ news₁ hh tk ⟨u, seen, shared, waiting, vnu, c1, c2, c3, c4, rfl, rfl, inv, hnu, hwait, hseen, hshared, hwl, rfl⟩ F N
    have hsl : seen.length ≤ nodes.length := nodup_le inv.nd hseen
    have hssl : shared.length ≤ nodes.length := nodup_le inv.sn hshared
    have hvl : vnu.length = shared.length := by rw [hnu.length, List.length_replicate]
    have hwl2 : waiting.length ≤ 22 := by lia
    (repeat' (first | ((((fail_if_success (with_reducible show wpAny _ _ (pyIter (Value.ref _)) _ _ _)); (fail_if_success (with_reducible show wpAny _ _ (call (Value.ref _) _) _ _ _)); (fail_if_success (with_reducible show wpAny _ _ (exec (Stmt.While _ _ _ _) _) _ _ _)); (fail_if_success (with_reducible show wpAny _ _ (subscriptTail _ (PySem.Expr.Slice _ _ _ _) _ _) _ _ _)); (fail_if_success (with_reducible show wpAny _ _ (call (Value.builtin "list.pop") _) _ _ _)); (fail_if_success (with_reducible show wpAny _ _ (call (Value.builtin "list.extend") _) _ _ _)); (fail_if_success (with_reducible show wpAny _ _ (call (Value.builtin "len") _) _ _ _)))); walk1) | ((((fail_if_success (with_reducible show wpAny _ _ (pyIter (Value.ref _)) _ _ _)); (fail_if_success (with_reducible show wpAny _ _ (call (Value.ref _) _) _ _ _)); (fail_if_success (with_reducible show wpAny _ _ (exec (Stmt.While _ _ _ _) _) _ _ _)); (fail_if_success (with_reducible show wpAny _ _ (subscriptTail _ (PySem.Expr.Slice _ _ _ _) _ _) _ _ _)); (fail_if_success (with_reducible show wpAny _ _ (call (Value.builtin "list.pop") _) _ _ _)); (fail_if_success (with_reducible show wpAny _ _ (call (Value.builtin "list.extend") _) _ _ _)); (fail_if_success (with_reducible show wpAny _ _ (call (Value.builtin "len") _) _ _ _)))); dsimp only; (((fail_if_success (with_reducible show wpAny _ _ (pyIter (Value.ref _)) _ _ _)); (fail_if_success (with_reducible show wpAny _ _ (call (Value.ref _) _) _ _ _)); (fail_if_success (with_reducible show wpAny _ _ (exec (Stmt.While _ _ _ _) _) _ _ _)); (fail_if_success (with_reducible show wpAny _ _ (subscriptTail _ (PySem.Expr.Slice _ _ _ _) _ _) _ _ _)); (fail_if_success (with_reducible show wpAny _ _ (call (Value.builtin "list.pop") _) _ _ _)); (fail_if_success (with_reducible show wpAny _ _ (call (Value.builtin "list.extend") _) _ _ _)); (fail_if_success (with_reducible show wpAny _ _ (call (Value.builtin "len") _) _ _ _)))); walk1)))
    refine len_list (N.isList (.head _)) (by simp; lia) ?_
    (repeat' (first | ((((fail_if_success (with_reducible show wpAny _ _ (pyIter (Value.ref _)) _ _ _)); (fail_if_success (with_reducible show wpAny _ _ (call (Value.ref _) _) _ _ _)); (fail_if_success (with_reducible show wpAny _ _ (exec (Stmt.While _ _ _ _) _) _ _ _)); (fail_if_success (with_reducible show wpAny _ _ (subscriptTail _ (PySem.Expr.Slice _ _ _ _) _ _) _ _ _)); (fail_if_success (with_reducible show wpAny _ _ (call (Value.builtin "list.pop") _) _ _ _)); (fail_if_success (with_reducible show wpAny _ _ (call (Value.builtin "list.extend") _) _ _ _)); (fail_if_success (with_reducible show wpAny _ _ (call (Value.builtin "len") _) _ _ _)))); walk1) | ((((fail_if_success (with_reducible show wpAny _ _ (pyIter (Value.ref _)) _ _ _)); (fail_if_success (with_reducible show wpAny _ _ (call (Value.ref _) _) _ _ _)); (fail_if_success (with_reducible show wpAny _ _ (exec (Stmt.While _ _ _ _) _) _ _ _)); (fail_if_success (with_reducible show wpAny _ _ (subscriptTail _ (PySem.Expr.Slice _ _ _ _) _ _) _ _ _)); (fail_if_success (with_reducible show wpAny _ _ (call (Value.builtin "list.pop") _) _ _ _)); (fail_if_success (with_reducible show wpAny _ _ (call (Value.builtin "list.extend") _) _ _ _)); (fail_if_success (with_reducible show wpAny _ _ (call (Value.builtin "len") _) _ _ _)))); dsimp only; (((fail_if_success (with_reducible show wpAny _ _ (pyIter (Value.ref _)) _ _ _)); (fail_if_success (with_reducible show wpAny _ _ (call (Value.ref _) _) _ _ _)); (fail_if_success (with_reducible show wpAny _ _ (exec (Stmt.While _ _ _ _) _) _ _ _)); (fail_if_success (with_reducible show wpAny _ _ (subscriptTail _ (PySem.Expr.Slice _ _ _ _) _ _) _ _ _)); (fail_if_success (with_reducible show wpAny _ _ (call (Value.builtin "list.pop") _) _ _ _)); (fail_if_success (with_reducible show wpAny _ _ (call (Value.builtin "list.extend") _) _ _ _)); (fail_if_success (with_reducible show wpAny _ _ (call (Value.builtin "len") _) _ _ _)))); walk1)))
    all_goals (rename Fr _ _ _ _ => F; rename News _ _ _ _ => N)
    · rename (0 < _) => hpos
      rcases List.eq_nil_or_concat waiting with rfl | ⟨W, v, rfl⟩
      · simp at hpos
      clear hpos
      simp only [List.concat_eq_append] at *
      have hWl : W.length + 1 ≤ 22 := by simpa using hwl2
      refine kl_pop F N (p := W) (y := v) (kpa_last _ _) (Upd.head (by k_all)) (by rw [sizeLine_eq]; simp; lia) ?_
      intro h' F N
      (repeat' (first | ((((fail_if_success (with_reducible show wpAny _ _ (pyIter (Value.ref _)) _ _ _)); (fail_if_success (with_reducible show wpAny _ _ (call (Value.ref _) _) _ _ _)); (fail_if_success (with_reducible show wpAny _ _ (exec (Stmt.While _ _ _ _) _) _ _ _)); (fail_if_success (with_reducible show wpAny _ _ (subscriptTail _ (PySem.Expr.Slice _ _ _ _) _ _) _ _ _)); (fail_if_success (with_reducible show wpAny _ _ (call (Value.builtin "list.pop") _) _ _ _)); (fail_if_success (with_reducible show wpAny _ _ (call (Value.builtin "list.extend") _) _ _ _)); (fail_if_success (with_reducible show wpAny _ _ (call (Value.builtin "len") _) _ _ _)))); walk1) | ((((fail_if_success (with_reducible show wpAny _ _ (pyIter (Value.ref _)) _ _ _)); (fail_if_success (with_reducible show wpAny _ _ (call (Value.ref _) _) _ _ _)); (fail_if_success (with_reducible show wpAny _ _ (exec (Stmt.While _ _ _ _) _) _ _ _)); (fail_if_success (with_reducible show wpAny _ _ (subscriptTail _ (PySem.Expr.Slice _ _ _ _) _ _) _ _ _)); (fail_if_success (with_reducible show wpAny _ _ (call (Value.builtin "list.pop") _) _ _ _)); (fail_if_success (with_reducible show wpAny _ _ (call (Value.builtin "list.extend") _) _ _ _)); (fail_if_success (with_reducible show wpAny _ _ (call (Value.builtin "len") _) _ _ _)))); dsimp only; (((fail_if_success (with_reducible show wpAny _ _ (pyIter (Value.ref _)) _ _ _)); (fail_if_success (with_reducible show wpAny _ _ (call (Value.ref _) _) _ _ _)); (fail_if_success (with_reducible show wpAny _ _ (exec (Stmt.While _ _ _ _) _) _ _ _)); (fail_if_success (with_reducible show wpAny _ _ (subscriptTail _ (PySem.Expr.Slice _ _ _ _) _ _) _ _ _)); (fail_if_success (with_reducible show wpAny _ _ (call (Value.builtin "list.pop") _) _ _ _)); (fail_if_success (with_reducible show wpAny _ _ (call (Value.builtin "list.extend") _) _ _ _)); (fail_if_success (with_reducible show wpAny _ _ (call (Value.builtin "len") _) _ _ _)))); walk1)))
      rename Fr _ _ _ _ => F; rename News _ _ _ _ => N
      have hv : WaitOk g nodes v := hwait v (by simp)
      have hW : ∀ u ∈ W, WaitOk g nodes u := fun u hu => hwait u (List.mem_append_left _ hu)
      rcases hv with ⟨b, hb, rfl⟩ | ⟨hleaf, hno⟩
      · have hwb : (W ++ [Value.ref b]).filterMap (refIn nodes) = W.filterMap (refIn nodes) ++ [b] := by simp [refIn, hb]
        rw [hwb] at inv
        replace inv := inv.perm (List.perm_append_singleton _ _)
        have nk : ∀ {h9 : Heap}, g.StaysIn h9 → ∀ a ∈ nodes, Itm h9 (.ref a) := fun k9 a ha => ((hnode a ha).keeps fun b o e => k9 b o (gk b o e)).itm
        refine c_is_shared (dp := dp + 1) X' T' (by exact F.keep) hdB huB (by exact (hnode b hb).keeps fun b o e => F.keep b o (gk b o e)) ?_
        intro h2 tk2 kp2
        have F2 := F.keeps kp2
        have N2 := N.keeps kp2
        clear F N
        (repeat' (first | ((((fail_if_success (with_reducible show wpAny _ _ (pyIter (Value.ref _)) _ _ _)); (fail_if_success (with_reducible show wpAny _ _ (call (Value.ref _) _) _ _ _)); (fail_if_success (with_reducible show wpAny _ _ (exec (Stmt.While _ _ _ _) _) _ _ _)); (fail_if_success (with_reducible show wpAny _ _ (subscriptTail _ (PySem.Expr.Slice _ _ _ _) _ _) _ _ _)); (fail_if_success (with_reducible show wpAny _ _ (call (Value.builtin "list.pop") _) _ _ _)); (fail_if_success (with_reducible show wpAny _ _ (call (Value.builtin "list.extend") _) _ _ _)); (fail_if_success (with_reducible show wpAny _ _ (call (Value.builtin "len") _) _ _ _)))); walk1) | ((((fail_if_success (with_reducible show wpAny _ _ (pyIter (Value.ref _)) _ _ _)); (fail_if_success (with_reducible show wpAny _ _ (call (Value.ref _) _) _ _ _)); (fail_if_success (with_reducible show wpAny _ _ (exec (Stmt.While _ _ _ _) _) _ _ _)); (fail_if_success (with_reducible show wpAny _ _ (subscriptTail _ (PySem.Expr.Slice _ _ _ _) _ _) _ _ _)); (fail_if_success (with_reducible show wpAny _ _ (call (Value.builtin "list.pop") _) _ _ _)); (fail_if_success (with_reducible show wpAny _ _ (call (Value.builtin "list.extend") _) _ _ _)); (fail_if_success (with_reducible show wpAny _ _ (call (Value.builtin "len") _) _ _ _)))); dsimp only; (((fail_if_success (with_reducible show wpAny _ _ (pyIter (Value.ref _)) _ _ _)); (fail_if_success (with_reducible show wpAny _ _ (call (Value.ref _) _) _ _ _)); (fail_if_success (with_reducible show wpAny _ _ (exec (Stmt.While _ _ _ _) _) _ _ _)); (fail_if_success (with_reducible show wpAny _ _ (subscriptTail _ (PySem.Expr.Slice _ _ _ _) _ _) _ _ _)); (fail_if_success (with_reducible show wpAny _ _ (call (Value.builtin "list.pop") _) _ _ _)); (fail_if_success (with_reducible show wpAny _ _ (call (Value.builtin "list.extend") _) _ _ _)); (fail_if_success (with_reducible show wpAny _ _ (call (Value.builtin "len") _) _ _ _)))); walk1)))
        refine c_stands_in (dp := dp + 1) (as := seen) X' T' (by exact F2.keep) hdA huA (by exact N2.isList (a := lse) (by k_mem)) (by lia) (by exact nk F2.keep b hb) (by exact fun a ha => nk F2.keep a (hseen a ha)) ?_
        intro h3 tk3 t3 kp3
        have F := F2.keeps kp3
        have N := N2.keeps kp3
        clear F2 N2
        (repeat' (first | ((((fail_if_success (with_reducible show wpAny _ _ (pyIter (Value.ref _)) _ _ _)); (fail_if_success (with_reducible show wpAny _ _ (call (Value.ref _) _) _ _ _)); (fail_if_success (with_reducible show wpAny _ _ (exec (Stmt.While _ _ _ _) _) _ _ _)); (fail_if_success (with_reducible show wpAny _ _ (subscriptTail _ (PySem.Expr.Slice _ _ _ _) _ _) _ _ _)); (fail_if_success (with_reducible show wpAny _ _ (call (Value.builtin "list.pop") _) _ _ _)); (fail_if_success (with_reducible show wpAny _ _ (call (Value.builtin "list.extend") _) _ _ _)); (fail_if_success (with_reducible show wpAny _ _ (call (Value.builtin "len") _) _ _ _)))); walk1) | ((((fail_if_success (with_reducible show wpAny _ _ (pyIter (Value.ref _)) _ _ _)); (fail_if_success (with_reducible show wpAny _ _ (call (Value.ref _) _) _ _ _)); (fail_if_success (with_reducible show wpAny _ _ (exec (Stmt.While _ _ _ _) _) _ _ _)); (fail_if_success (with_reducible show wpAny _ _ (subscriptTail _ (PySem.Expr.Slice _ _ _ _) _ _) _ _ _)); (fail_if_success (with_reducible show wpAny _ _ (call (Value.builtin "list.pop") _) _ _ _)); (fail_if_success (with_reducible show wpAny _ _ (call (Value.builtin "list.extend") _) _ _ _)); (fail_if_success (with_reducible show wpAny _ _ (call (Value.builtin "len") _) _ _ _)))); dsimp only; (((fail_if_success (with_reducible show wpAny _ _ (pyIter (Value.ref _)) _ _ _)); (fail_if_success (with_reducible show wpAny _ _ (call (Value.ref _) _) _ _ _)); (fail_if_success (with_reducible show wpAny _ _ (exec (Stmt.While _ _ _ _) _) _ _ _)); (fail_if_success (with_reducible show wpAny _ _ (subscriptTail _ (PySem.Expr.Slice _ _ _ _) _ _) _ _ _)); (fail_if_success (with_reducible show wpAny _ _ (call (Value.builtin "list.pop") _) _ _ _)); (fail_if_success (with_reducible show wpAny _ _ (call (Value.builtin "list.extend") _) _ _ _)); (fail_if_success (with_reducible show wpAny _ _ (call (Value.builtin "len") _) _ _ _)))); walk1)))
        all_goals (rename Fr _ _ _ _ => F; rename News _ _ _ _ => N)
        · have hns : b ∉ seen := place_neg (by assumption)
          refine c_parts_of (dp := dp + 1) (ps := parts b) X' T' (by exact F.keep) hdB huB (by exact (hnode b hb).keeps fun b o e => F.keep b o (gk b o e)) (by have := hpl b hb; lia) ?_
          intro h4 tk4 lp kp4 hn4 hl4
          have F2 := F.keeps kp4
          have N2 := N.keeps kp4
          clear F N
          (repeat' (first | ((((fail_if_success (with_reducible show wpAny _ _ (pyIter (Value.ref _)) _ _ _)); (fail_if_success (with_reducible show wpAny _ _ (call (Value.ref _) _) _ _ _)); (fail_if_success (with_reducible show wpAny _ _ (exec (Stmt.While _ _ _ _) _) _ _ _)); (fail_if_success (with_reducible show wpAny _ _ (subscriptTail _ (PySem.Expr.Slice _ _ _ _) _ _) _ _ _)); (fail_if_success (with_reducible show wpAny _ _ (call (Value.builtin "list.pop") _) _ _ _)); (fail_if_success (with_reducible show wpAny _ _ (call (Value.builtin "list.extend") _) _ _ _)); (fail_if_success (with_reducible show wpAny _ _ (call (Value.builtin "len") _) _ _ _)))); walk1) | ((((fail_if_success (with_reducible show wpAny _ _ (pyIter (Value.ref _)) _ _ _)); (fail_if_success (with_reducible show wpAny _ _ (call (Value.ref _) _) _ _ _)); (fail_if_success (with_reducible show wpAny _ _ (exec (Stmt.While _ _ _ _) _) _ _ _)); (fail_if_success (with_reducible show wpAny _ _ (subscriptTail _ (PySem.Expr.Slice _ _ _ _) _ _) _ _ _)); (fail_if_success (with_reducible show wpAny _ _ (call (Value.builtin "list.pop") _) _ _ _)); (fail_if_success (with_reducible show wpAny _ _ (call (Value.builtin "list.extend") _) _ _ _)); (fail_if_success (with_reducible show wpAny _ _ (call (Value.builtin "len") _) _ _ _)))); dsimp only; (((fail_if_success (with_reducible show wpAny _ _ (pyIter (Value.ref _)) _ _ _)); (fail_if_success (with_reducible show wpAny _ _ (call (Value.ref _) _) _ _ _)); (fail_if_success (with_reducible show wpAny _ _ (exec (Stmt.While _ _ _ _) _) _ _ _)); (fail_if_success (with_reducible show wpAny _ _ (subscriptTail _ (PySem.Expr.Slice _ _ _ _) _ _) _ _ _)); (fail_if_success (with_reducible show wpAny _ _ (call (Value.builtin "list.pop") _) _ _ _)); (fail_if_success (with_reducible show wpAny _ _ (call (Value.builtin "list.extend") _) _ _ _)); (fail_if_success (with_reducible show wpAny _ _ (call (Value.builtin "len") _) _ _ _)))); walk1)))
          refine slice_rev F2 N2 hl4 (.int _ _) ?_ (by with_unfolding_all rfl) (by have := hpl b hb; rw [sizeLine_eq]; lia)
          intro D h5 F N l5 kp5
          k_lt l5
          (repeat' (first | ((((fail_if_success (with_reducible show wpAny _ _ (pyIter (Value.ref _)) _ _ _)); (fail_if_success (with_reducible show wpAny _ _ (call (Value.ref _) _) _ _ _)); (fail_if_success (with_reducible show wpAny _ _ (exec (Stmt.While _ _ _ _) _) _ _ _)); (fail_if_success (with_reducible show wpAny _ _ (subscriptTail _ (PySem.Expr.Slice _ _ _ _) _ _) _ _ _)); (fail_if_success (with_reducible show wpAny _ _ (call (Value.builtin "list.pop") _) _ _ _)); (fail_if_success (with_reducible show wpAny _ _ (call (Value.builtin "list.extend") _) _ _ _)); (fail_if_success (with_reducible show wpAny _ _ (call (Value.builtin "len") _) _ _ _)))); walk1) | ((((fail_if_success (with_reducible show wpAny _ _ (pyIter (Value.ref _)) _ _ _)); (fail_if_success (with_reducible show wpAny _ _ (call (Value.ref _) _) _ _ _)); (fail_if_success (with_reducible show wpAny _ _ (exec (Stmt.While _ _ _ _) _) _ _ _)); (fail_if_success (with_reducible show wpAny _ _ (subscriptTail _ (PySem.Expr.Slice _ _ _ _) _ _) _ _ _)); (fail_if_success (with_reducible show wpAny _ _ (call (Value.builtin "list.pop") _) _ _ _)); (fail_if_success (with_reducible show wpAny _ _ (call (Value.builtin "list.extend") _) _ _ _)); (fail_if_success (with_reducible show wpAny _ _ (call (Value.builtin "len") _) _ _ _)))); dsimp only; (((fail_if_success (with_reducible show wpAny _ _ (pyIter (Value.ref _)) _ _ _)); (fail_if_success (with_reducible show wpAny _ _ (call (Value.ref _) _) _ _ _)); (fail_if_success (with_reducible show wpAny _ _ (exec (Stmt.While _ _ _ _) _) _ _ _)); (fail_if_success (with_reducible show wpAny _ _ (subscriptTail _ (PySem.Expr.Slice _ _ _ _) _ _) _ _ _)); (fail_if_success (with_reducible show wpAny _ _ (call (Value.builtin "list.pop") _) _ _ _)); (fail_if_success (with_reducible show wpAny _ _ (call (Value.builtin "list.extend") _) _ _ _)); (fail_if_success (with_reducible show wpAny _ _ (call (Value.builtin "len") _) _ _ _)))); walk1)))
          have hp3 := hpl b hb
          have inv2 := inv.fresh hns
          have hseen2 : ∀ a ∈ seen ++ [b], a ∈ nodes := fun a ha => (List.mem_append.mp ha).elim (hseen a) fun q => (List.mem_singleton.mp q) ▸ hb
          have hsl2 := nodup_le inv2.nd hseen2
          rw [List.length_append, List.length_singleton] at hsl2
          have hpm : (kidsOf nodes parts b ++ W.filterMap (refIn nodes)).Perm ((W ++ (parts b).reverse).filterMap (refIn nodes)) := by
            rw [List.filterMap_append, List.filterMap_reverse]
            exact List.perm_append_comm.trans ((List.reverse_perm _).symm.append_left _)
          have hW2 : ∀ u ∈ W ++ (parts b).reverse, WaitOk g nodes u := fun u hu => (List.mem_append.mp hu).elim (hW u) fun q => (hkid b hb u (List.mem_reverse.mp q)).keeps gk
          simp only [List.length_append, List.length_singleton] at hwl
          by_cases hp0 : (parts b).reverse = []
          · refine' kxn_extend (its2 := (parts b).reverse.toArray) (n2 := 0) ?F ?N ?b ?e ?U ?d ?z ?y ?_
            case F => exact F
            case N => exact N
            case b => exact .head _
            case e => exact hp0
            case U => k_upd
            case d => exact extend_door (by rw [sizeLine_eq]; simp; lia)
            case z => rw [sizeLine_eq]; simp; lia
            case y => rw [sizeLine_eq]; simp; lia
            intro h6 F N
            (repeat' (first | ((((fail_if_success (with_reducible show wpAny _ _ (pyIter (Value.ref _)) _ _ _)); (fail_if_success (with_reducible show wpAny _ _ (call (Value.ref _) _) _ _ _)); (fail_if_success (with_reducible show wpAny _ _ (exec (Stmt.While _ _ _ _) _) _ _ _)); (fail_if_success (with_reducible show wpAny _ _ (subscriptTail _ (PySem.Expr.Slice _ _ _ _) _ _) _ _ _)); (fail_if_success (with_reducible show wpAny _ _ (call (Value.builtin "list.pop") _) _ _ _)); (fail_if_success (with_reducible show wpAny _ _ (call (Value.builtin "list.extend") _) _ _ _)); (fail_if_success (with_reducible show wpAny _ _ (call (Value.builtin "len") _) _ _ _)))); walk1) | ((((fail_if_success (with_reducible show wpAny _ _ (pyIter (Value.ref _)) _ _ _)); (fail_if_success (with_reducible show wpAny _ _ (call (Value.ref _) _) _ _ _)); (fail_if_success (with_reducible show wpAny _ _ (exec (Stmt.While _ _ _ _) _) _ _ _)); (fail_if_success (with_reducible show wpAny _ _ (subscriptTail _ (PySem.Expr.Slice _ _ _ _) _ _) _ _ _)); (fail_if_success (with_reducible show wpAny _ _ (call (Value.builtin "list.pop") _) _ _ _)); (fail_if_success (with_reducible show wpAny _ _ (call (Value.builtin "list.extend") _) _ _ _)); (fail_if_success (with_reducible show wpAny _ _ (call (Value.builtin "len") _) _ _ _)))); dsimp only; (((fail_if_success (with_reducible show wpAny _ _ (pyIter (Value.ref _)) _ _ _)); (fail_if_success (with_reducible show wpAny _ _ (call (Value.ref _) _) _ _ _)); (fail_if_success (with_reducible show wpAny _ _ (exec (Stmt.While _ _ _ _) _) _ _ _)); (fail_if_success (with_reducible show wpAny _ _ (subscriptTail _ (PySem.Expr.Slice _ _ _ _) _ _) _ _ _)); (fail_if_success (with_reducible show wpAny _ _ (call (Value.builtin "list.pop") _) _ _ _)); (fail_if_success (with_reducible show wpAny _ _ (call (Value.builtin "list.extend") _) _ _ _)); (fail_if_success (with_reducible show wpAny _ _ (call (Value.builtin "len") _) _ _ _)))); walk1)))
            refine wend_next ?_ F N.tail' ⟨some (.ref b), seen ++ [b], shared, W ++ (parts b).reverse, vnu, c1, c2, c3 + 1, c4 + 1, map_over _ _ _ _, by simp [hp0], inv2.perm hpm, hnu, hW2, hseen2, hshared, ?_, rfl⟩
            · simp; first | exact m_lt (by lia) (by lia) | lia
            · simp; lia
          · refine' kl_extend (its2 := (parts b).reverse.toArray) (n2 := 0) (l := W ++ (parts b).reverse) ?F ?N ?b ?e ?ne ?U ?d ?z ?y ?_
            case F => exact F
            case N => exact N
            case b => exact .head _
            case U => k_upd
            case e => exact rfl
            case ne => simpa using hp0
            case d => exact extend_door (by rw [sizeLine_eq]; simp; lia)
            case z => rw [sizeLine_eq]; simp; lia
            case y => rw [sizeLine_eq]; simp; lia
            intro h6 F N
            (repeat' (first | ((((fail_if_success (with_reducible show wpAny _ _ (pyIter (Value.ref _)) _ _ _)); (fail_if_success (with_reducible show wpAny _ _ (call (Value.ref _) _) _ _ _)); (fail_if_success (with_reducible show wpAny _ _ (exec (Stmt.While _ _ _ _) _) _ _ _)); (fail_if_success (with_reducible show wpAny _ _ (subscriptTail _ (PySem.Expr.Slice _ _ _ _) _ _) _ _ _)); (fail_if_success (with_reducible show wpAny _ _ (call (Value.builtin "list.pop") _) _ _ _)); (fail_if_success (with_reducible show wpAny _ _ (call (Value.builtin "list.extend") _) _ _ _)); (fail_if_success (with_reducible show wpAny _ _ (call (Value.builtin "len") _) _ _ _)))); walk1) | ((((fail_if_success (with_reducible show wpAny _ _ (pyIter (Value.ref _)) _ _ _)); (fail_if_success (with_reducible show wpAny _ _ (call (Value.ref _) _) _ _ _)); (fail_if_success (with_reducible show wpAny _ _ (exec (Stmt.While _ _ _ _) _) _ _ _)); (fail_if_success (with_reducible show wpAny _ _ (subscriptTail _ (PySem.Expr.Slice _ _ _ _) _ _) _ _ _)); (fail_if_success (with_reducible show wpAny _ _ (call (Value.builtin "list.pop") _) _ _ _)); (fail_if_success (with_reducible show wpAny _ _ (call (Value.builtin "list.extend") _) _ _ _)); (fail_if_success (with_reducible show wpAny _ _ (call (Value.builtin "len") _) _ _ _)))); dsimp only; (((fail_if_success (with_reducible show wpAny _ _ (pyIter (Value.ref _)) _ _ _)); (fail_if_success (with_reducible show wpAny _ _ (call (Value.ref _) _) _ _ _)); (fail_if_success (with_reducible show wpAny _ _ (exec (Stmt.While _ _ _ _) _) _ _ _)); (fail_if_success (with_reducible show wpAny _ _ (subscriptTail _ (PySem.Expr.Slice _ _ _ _) _ _) _ _ _)); (fail_if_success (with_reducible show wpAny _ _ (call (Value.builtin "list.pop") _) _ _ _)); (fail_if_success (with_reducible show wpAny _ _ (call (Value.builtin "list.extend") _) _ _ _)); (fail_if_success (with_reducible show wpAny _ _ (call (Value.builtin "len") _) _ _ _)))); walk1)))
            refine wend_next ?_ F N.tail' ⟨some (.ref b), seen ++ [b], shared, W ++ (parts b).reverse, vnu, c1, c2, c3 + 1, c4 + 1 + 1, map_over _ _ _ _, by simp, inv2.perm hpm, hnu, hW2, hseen2, hshared, ?_, rfl⟩
            · simp; first | exact m_lt (by lia) (by lia) | lia
            · simp; lia
        · have hms : b ∈ seen := place_pos (by assumption)
          refine c_stands_in (dp := dp + 1) (as := shared) X' T' (by exact F.keep) hdA huA (by exact N.isList (a := lsh) (by k_mem)) (by lia) (by exact nk F.keep b hb) (by exact fun a ha => nk F.keep a (hshared a ha)) ?_
          intro h4 tk4 t4 kp4
          have F2 := F.keeps kp4
          have N2 := N.keeps kp4
          clear F N
          (repeat' (first | ((((fail_if_success (with_reducible show wpAny _ _ (pyIter (Value.ref _)) _ _ _)); (fail_if_success (with_reducible show wpAny _ _ (call (Value.ref _) _) _ _ _)); (fail_if_success (with_reducible show wpAny _ _ (exec (Stmt.While _ _ _ _) _) _ _ _)); (fail_if_success (with_reducible show wpAny _ _ (subscriptTail _ (PySem.Expr.Slice _ _ _ _) _ _) _ _ _)); (fail_if_success (with_reducible show wpAny _ _ (call (Value.builtin "list.pop") _) _ _ _)); (fail_if_success (with_reducible show wpAny _ _ (call (Value.builtin "list.extend") _) _ _ _)); (fail_if_success (with_reducible show wpAny _ _ (call (Value.builtin "len") _) _ _ _)))); walk1) | ((((fail_if_success (with_reducible show wpAny _ _ (pyIter (Value.ref _)) _ _ _)); (fail_if_success (with_reducible show wpAny _ _ (call (Value.ref _) _) _ _ _)); (fail_if_success (with_reducible show wpAny _ _ (exec (Stmt.While _ _ _ _) _) _ _ _)); (fail_if_success (with_reducible show wpAny _ _ (subscriptTail _ (PySem.Expr.Slice _ _ _ _) _ _) _ _ _)); (fail_if_success (with_reducible show wpAny _ _ (call (Value.builtin "list.pop") _) _ _ _)); (fail_if_success (with_reducible show wpAny _ _ (call (Value.builtin "list.extend") _) _ _ _)); (fail_if_success (with_reducible show wpAny _ _ (call (Value.builtin "len") _) _ _ _)))); dsimp only; (((fail_if_success (with_reducible show wpAny _ _ (pyIter (Value.ref _)) _ _ _)); (fail_if_success (with_reducible show wpAny _ _ (call (Value.ref _) _) _ _ _)); (fail_if_success (with_reducible show wpAny _ _ (exec (Stmt.While _ _ _ _) _) _ _ _)); (fail_if_success (with_reducible show wpAny _ _ (subscriptTail _ (PySem.Expr.Slice _ _ _ _) _ _) _ _ _)); (fail_if_success (with_reducible show wpAny _ _ (call (Value.builtin "list.pop") _) _ _ _)); (fail_if_success (with_reducible show wpAny _ _ (call (Value.builtin "list.extend") _) _ _ _)); (fail_if_success (with_reducible show wpAny _ _ (call (Value.builtin "len") _) _ _ _)))); walk1)))
          all_goals (rename Fr _ _ _ _ => F; rename News _ _ _ _ => N)
          · have hns : b ∉ shared := place_neg (by assumption)
            refine wend_next ?_ F N ⟨some (.ref b), seen, shared ++ [b], W, vnu ++ [.int 0 _], c1 + 1, c2 + 1, c3, c4 + 1, map_over _ _ _ _, by simp; rfl, inv.second hms hns, ?_, hW, hseen, ?_, ?_, rfl⟩
            · simp
            · have e1 : List.replicate (shared ++ [b]).length (0 : Int) = List.replicate shared.length 0 ++ [0] := by rw [List.length_append, List.length_singleton, List.replicate_succ']
              rw [e1]
              exact IntsAre.append hnu (.cons _ _ .nil)
            · exact fun a ha => (List.mem_append.mp ha).elim (hshared a) fun q => (List.mem_singleton.mp q) ▸ hb
            · simp at hwl; lia
          · have hns : b ∈ shared := place_pos (by assumption)
            refine wend_next ?_ F N ⟨some (.ref b), seen, shared, W, vnu, c1, c2, c3, c4 + 1, map_over _ _ _ _, rfl, inv.more hns, hnu, hW, hseen, hshared, ?_, rfl⟩
            · simp
            · simp at hwl; lia
      · have hwb : (W ++ [v]).filterMap (refIn nodes) = W.filterMap (refIn nodes) := by
          have : refIn nodes v = none := refIn_none hno
          simp [this]
        rw [hwb] at inv
        refine c_not_shared (dp := dp + 1) X' T' (by exact F.keep) hdB huB (by exact hleaf.keeps F.keep) ?_
        intro h2 tk2 kp2
        have F2 := F.keeps kp2
        have N2 := N.keeps kp2
        clear F N
        (repeat' (first | ((((fail_if_success (with_reducible show wpAny _ _ (pyIter (Value.ref _)) _ _ _)); (fail_if_success (with_reducible show wpAny _ _ (call (Value.ref _) _) _ _ _)); (fail_if_success (with_reducible show wpAny _ _ (exec (Stmt.While _ _ _ _) _) _ _ _)); (fail_if_success (with_reducible show wpAny _ _ (subscriptTail _ (PySem.Expr.Slice _ _ _ _) _ _) _ _ _)); (fail_if_success (with_reducible show wpAny _ _ (call (Value.builtin "list.pop") _) _ _ _)); (fail_if_success (with_reducible show wpAny _ _ (call (Value.builtin "list.extend") _) _ _ _)); (fail_if_success (with_reducible show wpAny _ _ (call (Value.builtin "len") _) _ _ _)))); walk1) | ((((fail_if_success (with_reducible show wpAny _ _ (pyIter (Value.ref _)) _ _ _)); (fail_if_success (with_reducible show wpAny _ _ (call (Value.ref _) _) _ _ _)); (fail_if_success (with_reducible show wpAny _ _ (exec (Stmt.While _ _ _ _) _) _ _ _)); (fail_if_success (with_reducible show wpAny _ _ (subscriptTail _ (PySem.Expr.Slice _ _ _ _) _ _) _ _ _)); (fail_if_success (with_reducible show wpAny _ _ (call (Value.builtin "list.pop") _) _ _ _)); (fail_if_success (with_reducible show wpAny _ _ (call (Value.builtin "list.extend") _) _ _ _)); (fail_if_success (with_reducible show wpAny _ _ (call (Value.builtin "len") _) _ _ _)))); dsimp only; (((fail_if_success (with_reducible show wpAny _ _ (pyIter (Value.ref _)) _ _ _)); (fail_if_success (with_reducible show wpAny _ _ (call (Value.ref _) _) _ _ _)); (fail_if_success (with_reducible show wpAny _ _ (exec (Stmt.While _ _ _ _) _) _ _ _)); (fail_if_success (with_reducible show wpAny _ _ (subscriptTail _ (PySem.Expr.Slice _ _ _ _) _ _) _ _ _)); (fail_if_success (with_reducible show wpAny _ _ (call (Value.builtin "list.pop") _) _ _ _)); (fail_if_success (with_reducible show wpAny _ _ (call (Value.builtin "list.extend") _) _ _ _)); (fail_if_success (with_reducible show wpAny _ _ (call (Value.builtin "len") _) _ _ _)))); walk1)))
        refine wend_cont ?_ F2 N2 ⟨v, seen, shared, W, vnu, c1, c2, c3, c4 + 1, map_over _ _ _ _, rfl, inv, hnu, hW, hseen, hshared, ?_, rfl⟩
        · simp
        · simp at hwl; lia
    · rename (¬ 0 < _) => hpos
      have hw0 : waiting = [] := by
        cases waiting with
        | nil => rfl
        | cons a r => exact absurd (by simp) hpos
      subst hw0
      obtain ⟨hcov, hsh⟩ := inv.done
      refine h _ _ lsh lnu _ _ _ _ _ _ _ vnu c1 c2 shared seen (fun b o hb e => F.keep _ _ (gs b o e (by simpa using hb))) (N.get (a := dx) (by k_mem)) (N.get (a := lsh) (by k_mem)) (N.get (a := lnu) (by k_mem)) hnu ?_ ?_ (Nat.ne_of_lt l2.1) inv.sn hshared hcov hsh
      · cases e : s.heap.get? lsh with
        | none => rfl
        | some o => have := (N _ (show (lsh, _) ∈ _ by k_mem)).2.2; rw [gs lsh o e (by simpa using Nat.ne_of_gt l3)] at this; cases this
      · cases e : s.heap.get? lnu with
        | none => rfl
        | some o => have := (N _ (show (lnu, _) ∈ _ by k_mem)).2.2; rw [gs lnu o e (by simpa using Nat.ne_of_gt l2.2)] at this; cases this

end Mine
end

section
open PySem PySem.W PySem.Calls PyProof.Rows
set_option maxHeartbeats 4000000
namespace Mine

/-- the pot: its cells (a list of ints), the place, the last number drawn -/
def IsPot (h : Heap) (pot cl : Addr) : Prop := ∃ at_ ta z tz c, h.get? pot = some (listOf #[.ref cl, .int at_ ta, .int z tz] c) ∧ 0 ≤ at_ ∧ 0 ≤ z ∧ z ≤ 70000
def Cells (h : Heap) (cl : Addr) : Prop := ∃ vs ns, h.IsList cl vs.toArray ∧ IntsAre vs ns ∧ ns.length ≤ 63
theorem Cells.keeps {h h' : Heap} {cl : Addr} (x : Cells h cl) (k : h.StaysIn h') : Cells h' cl := let ⟨vs, ns, a, b, c⟩ := x; ⟨vs, ns, stays_list k a, b, c⟩
theorem Cells.ne {h : Heap} {pot cl : Addr} (x : Cells h cl) (y : IsPot h pot cl) : cl ≠ pot := by
  rintro rfl
  obtain ⟨vs, ns, ⟨o, ho, _, n, hn⟩, hi, _⟩ := x
  obtain ⟨a, ta, z, tz, c, hp, _⟩ := y
  rw [hp] at ho
  cases ho
  have e : vs.toArray = #[Value.ref cl, .int a ta, .int z tz] := (Data.seq.inj hn).1.symm
  have e2 : vs = [Value.ref cl, .int a ta, .int z tz] := congrArg Array.toList e
  subst e2
  cases hi
theorem c_dip {w : World} {B : Heap} {mean : ExcName → Option Value} {mg mb : Str → Option Value} (X : (hd.heap_39 w.params).In B) (T : Top hd.view_39 (looseW hd.view_39 [Str.ofString "NIL"]) mean mg mb B)
    {dp un : Nat} {fr : Option (List Env)} {gd : Option (List Code)} {s : Shared} {E Q : Value → Shared → Prop} (st : B.StaysIn s.heap) (hd : dp + 2 < recursionLimit) (hu : un + 30 < cLine)
    {pot cl : Addr} {many : Int} {tm : Tok} (hp : IsPot s.heap pot cl) (hB : B.get? pot = none) (hc : Cells s.heap cl) (hm1 : 1 ≤ many) (hm2 : many ≤ 100)
    (h : ∀ h' tk r t, (∀ b o, b ≠ pot → s.heap.get? b = some o → h'.get? b = some o) → IsPot h' pot cl → 0 ≤ r → r < many → Q (.int r t) { s with heap := h', toks := tk }) :
    wpAny (model PySem.Challenge.rw_oj0016_01.row.prog w) (Au dp un fr gd) (call (.ref 191) [.ref pot, .int many tm]) Q E s := by
  revert X; k_fill; intro X
  have hne := hc.ne hp
  obtain ⟨at_, ta, z, tz, c, hp, ha0, hz0, hz1⟩ := hp
  refine' enterG (binds := [("pot", .ref pot), ("many", .int many tm)]) X T st [(pot, listOf #[.ref cl, .int at_ ta, .int z tz] c)] ?hm ?hroom ?ho ?hcd ?hbind ?hloc ?_ ?c1 ?c2 ?c3 ?c4
  case hm => exact List.forall_mem_cons.mpr ⟨⟨hp, hB⟩, fun _ h => nomatch h⟩
  (((case hroom => lia); (case ho => k_is); (case hcd => k_is); (case hbind => exact BindsTo.of_eq rfl); (case hloc => exact locs rfl); (case c1 => exact rfl); (case c2 => exact rfl); (case c3 => exact rfl); (case c4 => decide)))
  intro g L' h₁ tk F N X' T' st' gs lt kp
  have hcg : Cells g cl := by
    obtain ⟨vs, ns, ⟨o, ho, r⟩, b⟩ := hc
    exact ⟨vs, ns, ⟨o, gs _ _ ho (by simpa using hne), r⟩, b⟩
  obtain ⟨vs, ns, hl, hi, hn⟩ := hcg
  have hvl := hi.length
  have hnl2 : (ns.length : Int) ≤ 63 := by lia
  clear X T
  (repeat' (first | ((((fail_if_success (with_reducible show wpAny _ _ (pyIter (Value.ref _)) _ _ _)); (fail_if_success (with_reducible show wpAny _ _ (call (Value.ref _) _) _ _ _)); (fail_if_success (with_reducible show wpAny _ _ (exec (Stmt.While _ _ _ _) _) _ _ _)); (fail_if_success (with_reducible show wpAny _ _ (subscriptTail _ (PySem.Expr.Slice _ _ _ _) _ _) _ _ _)); (fail_if_success (with_reducible show wpAny _ _ (call (Value.builtin "list.pop") _) _ _ _)); (fail_if_success (with_reducible show wpAny _ _ (call (Value.builtin "list.extend") _) _ _ _)); skip)); walk1) | ((((fail_if_success (with_reducible show wpAny _ _ (pyIter (Value.ref _)) _ _ _)); (fail_if_success (with_reducible show wpAny _ _ (call (Value.ref _) _) _ _ _)); (fail_if_success (with_reducible show wpAny _ _ (exec (Stmt.While _ _ _ _) _) _ _ _)); (fail_if_success (with_reducible show wpAny _ _ (subscriptTail _ (PySem.Expr.Slice _ _ _ _) _ _) _ _ _)); (fail_if_success (with_reducible show wpAny _ _ (call (Value.builtin "list.pop") _) _ _ _)); (fail_if_success (with_reducible show wpAny _ _ (call (Value.builtin "list.extend") _) _ _ _)); skip)); dsimp only; (((fail_if_success (with_reducible show wpAny _ _ (pyIter (Value.ref _)) _ _ _)); (fail_if_success (with_reducible show wpAny _ _ (call (Value.ref _) _) _ _ _)); (fail_if_success (with_reducible show wpAny _ _ (exec (Stmt.While _ _ _ _) _) _ _ _)); (fail_if_success (with_reducible show wpAny _ _ (subscriptTail _ (PySem.Expr.Slice _ _ _ _) _ _) _ _ _)); (fail_if_success (with_reducible show wpAny _ _ (call (Value.builtin "list.pop") _) _ _ _)); (fail_if_success (with_reducible show wpAny _ _ (call (Value.builtin "list.extend") _) _ _ _)); skip)); walk1)))
  all_goals (rename Fr _ _ _ _ => F; rename News _ _ _ _ => N)
  · exact h _ _ _ _ (fun b o hb e => F.keep _ _ (gs b o e (by simpa using hb))) ⟨_, _, _, _, _, N.get (a := pot) (.head _), by lia, hz0, hz1⟩ (Int.fmod_nonneg_of_pos _ (by lia)) (Int.fmod_lt_of_pos _ (by lia))
  · have h1 := Int.fmod_nonneg_of_pos (z * 75 + 74) (b := 65537) (by lia)
    have h2 := Int.fmod_lt_of_pos (z * 75 + 74) (b := 65537) (by lia)
    exact h _ _ _ _ (fun b o hb e => F.keep _ _ (gs b o e (by simpa using hb))) ⟨_, _, _, _, _, N.get (a := pot) (.head _), by lia, h1, by lia⟩ (Int.fmod_nonneg_of_pos _ (by lia)) (Int.fmod_lt_of_pos _ (by lia))

theorem c_pot {w : World} {B : Heap} {mean : ExcName → Option Value} {mg mb : Str → Option Value} (X : (hd.heap_39 w.params).In B) (T : Top hd.view_39 (looseW hd.view_39 [Str.ofString "NIL"]) mean mg mb B)
    {dp un : Nat} {fr : Option (List Env)} {gd : Option (List Code)} {s : Shared} {E Q : Value → Shared → Prop} (st : B.StaysIn s.heap) (hd : dp + 3 < recursionLimit) (hu : un + 60 < cLine)
    {sl : Addr} {vs : List Value} {ns : List Int} (hl0 : s.heap.IsList sl vs.toArray) (hi : IntsAre vs ns) (hn : ns.length ≤ 63)
    (h : ∀ h' tk pot cl, s.heap.StaysIn h' → s.heap.get? pot = none → s.heap.get? cl = none → IsPot h' pot cl → Cells h' cl → Q (.ref pot) { s with heap := h', toks := tk }) :
    wpAny (model PySem.Challenge.rw_oj0016_01.row.prog w) (Au dp un fr gd) (call (.ref 184) [.ref sl]) Q E s := by
  revert X; k_fill; intro X
  refine' enterG (binds := [("script", .ref sl)]) X T st [] ?hm ?hroom ?ho ?hcd ?hbind ?hloc ?_ ?c1 ?c2 ?c3 ?c4
  case hm => exact fun q hq => nomatch hq
  (((case hroom => lia); (case ho => k_is); (case hcd => k_is); (case hbind => exact BindsTo.of_eq rfl); (case hloc => exact locs rfl); (case c1 => exact rfl); (case c2 => exact rfl); (case c3 => exact rfl); (case c4 => decide)))
  intro g L' h₁ tk F N X' T' st' gs lt kp
  have sg : s.heap.StaysIn g := fun b o e => gs b o e (fun q => nomatch q)
  have hl : g.IsList sl vs.toArray := stays_list sg hl0
  have hvl := hi.length
  clear X T
  (repeat' (first | ((((fail_if_success (with_reducible show wpAny _ _ (pyIter (Value.ref _)) _ _ _)); (fail_if_success (with_reducible show wpAny _ _ (call (Value.ref _) _) _ _ _)); (fail_if_success (with_reducible show wpAny _ _ (exec (Stmt.While _ _ _ _) _) _ _ _)); (fail_if_success (with_reducible show wpAny _ _ (subscriptTail _ (PySem.Expr.Slice _ _ _ _) _ _) _ _ _)); (fail_if_success (with_reducible show wpAny _ _ (call (Value.builtin "list.pop") _) _ _ _)); (fail_if_success (with_reducible show wpAny _ _ (call (Value.builtin "list.extend") _) _ _ _)); skip)); walk1) | ((((fail_if_success (with_reducible show wpAny _ _ (pyIter (Value.ref _)) _ _ _)); (fail_if_success (with_reducible show wpAny _ _ (call (Value.ref _) _) _ _ _)); (fail_if_success (with_reducible show wpAny _ _ (exec (Stmt.While _ _ _ _) _) _ _ _)); (fail_if_success (with_reducible show wpAny _ _ (subscriptTail _ (PySem.Expr.Slice _ _ _ _) _ _) _ _ _)); (fail_if_success (with_reducible show wpAny _ _ (call (Value.builtin "list.pop") _) _ _ _)); (fail_if_success (with_reducible show wpAny _ _ (call (Value.builtin "list.extend") _) _ _ _)); skip)); dsimp only; (((fail_if_success (with_reducible show wpAny _ _ (pyIter (Value.ref _)) _ _ _)); (fail_if_success (with_reducible show wpAny _ _ (call (Value.ref _) _) _ _ _)); (fail_if_success (with_reducible show wpAny _ _ (exec (Stmt.While _ _ _ _) _) _ _ _)); (fail_if_success (with_reducible show wpAny _ _ (subscriptTail _ (PySem.Expr.Slice _ _ _ _) _ _) _ _ _)); (fail_if_success (with_reducible show wpAny _ _ (call (Value.builtin "list.pop") _) _ _ _)); (fail_if_success (with_reducible show wpAny _ _ (call (Value.builtin "list.extend") _) _ _ _)); skip)); walk1)))
  rename Fr _ _ _ _ => F; rename News _ _ _ _ => N
  rename IntsAre _ (List.map _ _) => hI
  have h1 := Int.fmod_nonneg_of_pos (List.map (fun k' => (if k' < 0 then -k' else k').fmod 1000003) (List.take 48 ns)).sum (b := 65519) (by lia)
  have h2 := Int.fmod_lt_of_pos (List.map (fun k' => (if k' < 0 then -k' else k').fmod 1000003) (List.take 48 ns)).sum (b := 65519) (by lia)
  refine h _ _ _ _ (fun b o e => F.keep b o (sg b o e)) (of_no sg (N _ (.head _)).2.2) (of_no sg (N _ (.tail _ (.head _))).2.2) ⟨_, _, _, _, _, N.get (.head _), by lia, by lia, by lia⟩ ⟨_, _, ⟨_, N.get (.tail _ (.head _)), rfl, _, rfl⟩, hI, ?_⟩
  rw [List.length_map, List.length_take]; lia

end Mine
end

section
open PySem PySem.W PySem.Calls PyProof.Rows
set_option maxHeartbeats 4000000
namespace Mine

noncomputable def endsN (l : List Int) : List Nat := l.filterMap fun e => if 0 ≤ e then some e.toNat else none
/-- the leads in the heap: a list of lists of ints -/
structure LeadsAt (h : Heap) (lds : Addr) (lead : List (List Int)) : Prop where
  ex : ∃ lr : List Addr, h.IsList lds (lr.map Value.ref).toArray ∧ lr.length = lead.length ∧ ∀ (i : Nat) (a : Addr) (l : List Int), lr[i]? = some a → lead[i]? = some l → ∃ vs, h.IsList a (List.toArray vs) ∧ IntsAre vs l
  small : lead.length ≤ 7
  few : ∀ l ∈ lead, l.length ≤ 3
  ends : ∀ l ∈ lead, ∀ e ∈ l, e < (lead.length : Int)
theorem LeadsAt.keeps {h h' : Heap} {lds : Addr} {lead : List (List Int)} (x : LeadsAt h lds lead) (k : h.StaysIn h') : LeadsAt h' lds lead := by
  obtain ⟨lr, a, b, c⟩ := x.ex
  exact ⟨⟨lr, stays_list k a, b, fun i a l h1 h2 => let ⟨vs, p, q⟩ := c i a l h1 h2; ⟨vs, stays_list k p, q⟩⟩, x.small, x.few, x.ends⟩
theorem rep_flat (n : Nat) : (List.replicate n [(0 : Int)]).flatten = List.replicate n 0 := by
  induction n with
  | zero => rfl
  | succ n ih => rw [List.replicate_succ, List.flatten_cons, ih]; rfl
theorem come_le {come : List Nat} {n : Nat} (h : come.Nodup) (hs : ∀ a ∈ come, a < n) : come.length ≤ n := by
  have := List.Nodup.length_le_of_subset h (l₂ := List.range n) (fun a ha => List.mem_range.mpr (hs a ha))
  rwa [List.length_range] at this
structure WInv (kids : Nat → List Nat) (f : Nat) (come W : List Nat) : Prop where
  nd : come.Nodup
  rs : ∀ a ∈ come, Reach kids f a
  rw : ∀ a ∈ W, Reach kids f a
  cl : ∀ a, 0 < Tot kids f come a → a ∈ come ∨ a ∈ W
theorem WInv.start (kids : Nat → List Nat) (f : Nat) : WInv kids f [] [f] where
  nd := List.nodup_nil
  rs := fun a h => nomatch h
  rw := fun a h => by rw [List.mem_singleton.mp h]; exact .base
  cl := fun a h => .inr (List.count_pos_iff.mp (by simpa [Tot] using h))
theorem sub3 {h₀ h : Heap} {L : Addr} {a b c d : Addr × Obj} (N : News h₀ L h [a, b, c, d]) : News h₀ L h [a, b, c] := fun p hp => N p (by
  rcases List.mem_cons.mp hp with e | hp
  · rw [e]; exact .head _
  · rcases List.mem_cons.mp hp with e | hp
    · rw [e]; exact .tail _ (.head _)
    · rw [List.mem_singleton.mp hp]; exact .tail _ (.tail _ (.head _)))
theorem WInv.perm {kids : Nat → List Nat} {f : Nat} {come W W' : List Nat} (h : WInv kids f come W) (p : W.Perm W') : WInv kids f come W' :=
  ⟨h.nd, h.rs, fun a ha => h.rw a (p.mem_iff.mpr ha), fun a ha => (h.cl a ha).imp id p.mem_iff.mp⟩
theorem WInv.old {kids : Nat → List Nat} {f a : Nat} {come W : List Nat} (h : WInv kids f come (a :: W)) (hc : a ∈ come) : WInv kids f come W :=
  ⟨h.nd, h.rs, fun x hx => h.rw x (.tail _ hx), fun x hx => (h.cl x hx).elim .inl fun q => (List.mem_cons.mp q).elim (fun e => .inl (e ▸ hc)) .inr⟩
theorem WInv.new {kids : Nat → List Nat} {f a : Nat} {come W : List Nat} (h : WInv kids f come (a :: W)) (hc : a ∉ come) : WInv kids f (come ++ [a]) (kids a ++ W) where
  nd := List.nodup_append.mpr ⟨h.nd, List.pairwise_singleton _ _, fun x hx y hy e => hc (by rw [List.mem_singleton.mp hy] at e; exact e ▸ hx)⟩
  rs := fun x hx => (List.mem_append.mp hx).elim (h.rs x) fun q => by rw [List.mem_singleton.mp q]; exact h.rw a (.head _)
  rw := fun x hx => (List.mem_append.mp hx).elim (fun q => .step (h.rw a (.head _)) q) fun q => h.rw x (.tail _ q)
  cl := fun x hx => by
    rw [tot_snoc] at hx
    by_cases e : 0 < Tot kids f come x
    · rcases h.cl x e with q | q
      · exact .inl (List.mem_append_left _ q)
      · rcases List.mem_cons.mp q with q | q
        · exact .inl (List.mem_append_right _ (List.mem_singleton.mpr q))
        · exact .inr (List.mem_append_right _ q)
    · exact .inr (List.mem_append_left _ (List.count_pos_iff.mp (by lia)))
theorem WInv.done {kids : Nat → List Nat} {f : Nat} {come : List Nat} (h : WInv kids f come []) : Cover kids f come := by
  have pos : ∀ a, 0 < Tot kids f come a → a ∈ come := fun a ha => (h.cl a ha).elim id fun q => nomatch q
  have hf : f ∈ come := pos f (by simp [Tot])
  exact ⟨h.nd, fun a => ⟨h.rs a, closed_reach hf fun a ha b hb => pos b (List.count_pos_iff.mpr (List.mem_cons_of_mem _ (List.mem_flatMap.mpr ⟨a, ha, hb⟩)))⟩⟩
theorem ints_snoc : ∀ {ns : List Int} {vs : List Value} {n : Int}, IntsAre vs (ns ++ [n]) → ∃ vs' t, vs = vs' ++ [.int n t] ∧ IntsAre vs' ns
  | [], _, _, h => by cases h with | cons _ t h => cases h; exact ⟨[], t, rfl, .nil⟩
  | m :: ns, _, _, h => by
    cases h with
    | cons _ t h => obtain ⟨vs', t', rfl, h'⟩ := ints_snoc h; exact ⟨.int m t :: vs', t', rfl, .cons _ _ h'⟩
theorem endsN_le (l : List Int) : (endsN l).length ≤ l.length := List.length_filterMap_le _ _
theorem endsN_append (l l' : List Int) : endsN (l ++ l') = endsN l ++ endsN l' := List.filterMap_append
theorem endsN_neg {e : Int} (h : ¬ 0 ≤ e) : endsN [e] = [] := by simp [endsN, h]
theorem endsN_pos {e : Int} (h : 0 ≤ e) : endsN [e] = [e.toNat] := by simp [endsN, h]
theorem endsN_lt {l : List Int} {n : Nat} (h : ∀ e ∈ l, e < (n : Int)) {a : Nat} (ha : a ∈ endsN l) : a < n := by
  obtain ⟨e, he, h2⟩ := List.mem_filterMap.mp ha
  split at h2
  · cases h2; have := h e he; lia
  · cases h2
theorem any_mem {come : List Nat} {v : Nat} (h : (come.map Int.ofNat).any (fun x => x == Int.ofNat v) = true) : v ∈ come := by
  simp at h
  obtain ⟨a, ha, e⟩ := h
  have : a = v := by lia
  exact this ▸ ha
theorem not_any_mem {come : List Nat} {v : Nat} (h : (come.map Int.ofNat).any (fun x => x == Int.ofNat v) = false) : v ∉ come := fun q => by
  have : (come.map Int.ofNat).any (fun x => x == Int.ofNat v) = true := by simp; exact ⟨v, q, rfl⟩
  rw [this] at h; cases h
noncomputable abbrev kidsN (lead : List (List Int)) (i : Nat) : List Nat := endsN (lead.getD i [])
def JW6 (lead : List (List Int)) (f : Nat) (tf : Tok) (lds wwc wco wwa : Addr) (k : Nat) (m : Str → Option Value) (news : List (Addr × Obj)) : Prop :=
  ∃ (u1 u2 : Option Value) (come W : List Nat) (vwa vco vwc : List Value) (wcs : List Int) (c1 c2 c3 : Nat),
    m = (fun y => if y = Str.ofString "at" then u1 else if y = Str.ofString "end" then u2 else if y = Str.ofString "way_counts" then some (Value.ref wwc) else if y = Str.ofString "come_to" then some (Value.ref wco) else if y = Str.ofString "waiting" then some (Value.ref wwa) else List.lookup y [(Str.ofString "leads", Value.ref lds), (Str.ofString "first", Value.int f tf)].reverse) ∧
    news = [(wwa, listOf vwa.toArray c3), (wco, listOf vco.toArray c2), (wwc, listOf vwc.toArray c1)] ∧
    WInv (kidsN lead) f come W ∧ IntsAre vwa (W.map Int.ofNat) ∧ IntsAre vco (come.map Int.ofNat) ∧ IntsAre vwc wcs ∧ wcs.length = lead.length ∧ (∀ i, i < lead.length → wcs[i]? = some (Tot (kidsN lead) f come i : Int)) ∧
    (∀ a ∈ W, a < lead.length) ∧ (∀ a ∈ come, a < lead.length) ∧ W.length ≤ 1 + 3 * come.length ∧ k = 4 * (lead.length - come.length) + W.length
def JL6 (lead : List (List Int)) (f : Nat) (come W2 : List Nat) (lv : List Int) (v : Nat) (tv : Tok) (vco : List Value) (c2 : Nat) (M : Str → Option Value) (wwa wco wwc : Addr) (i : Nat) (m : Str → Option Value) (news : List (Addr × Obj)) : Prop :=
  ∃ (u : Option Value) (vwa2 vwc2 : List Value) (wcs2 : List Int) (c5 c6 : Nat), m = (fun y => if y = Str.ofString "end" then u else M y) ∧
          news = [(wwa, listOf vwa2.toArray c5), (wco, listOf (vco ++ [Value.int (Int.ofNat v) tv]).toArray (c2 + 1)), (wwc, listOf vwc2.toArray c6)] ∧
          IntsAre vwa2 ((W2 ++ endsN (lv.take i)).map Int.ofNat) ∧ IntsAre vwc2 wcs2 ∧ wcs2.length = lead.length ∧ (∀ x, x < lead.length → wcs2[x]? = some ((Tot (kidsN lead) f come x : Int) + ((endsN (lv.take i)).count x : Int)))
theorem c_ways {w : World} {B : Heap} {mean : ExcName → Option Value} {mg mb : Str → Option Value} (X : (hd.heap_39 w.params).In B) (T : Top hd.view_39 (looseW hd.view_39 [Str.ofString "NIL"]) mean mg mb B)
    {dp un : Nat} {fr : Option (List Env)} {gd : Option (List Code)} {s : Shared} {E Q : Value → Shared → Prop} (st : B.StaysIn s.heap) (hd : dp + 3 < recursionLimit) (hu : un + 100 < cLine)
    {lds : Addr} {lead : List (List Int)} {f : Nat} {tf : Tok} (hl0 : LeadsAt s.heap lds lead) (hf : f < lead.length)
    (h : ∀ h' tk wl vwc wcs c C, s.heap.StaysIn h' → s.heap.get? wl = none → h'.get? wl = some (listOf (List.toArray vwc) c) → IntsAre vwc wcs → wcs.length = lead.length → Cover (kidsN lead) f C →
      (∀ i, i < lead.length → wcs[i]? = some (Tot (kidsN lead) f C i : Int)) → Q (.ref wl) { s with heap := h', toks := tk }) :
    wpAny (model PySem.Challenge.rw_oj0016_01.row.prog w) (Au dp un fr gd) (call (.ref 203) [.ref lds, .int f tf]) Q E s := by
  revert X; k_fill; intro X
  refine' enterG (binds := [("leads", .ref lds), ("first", .int f tf)]) X T st [] ?hm ?hroom ?ho ?hcd ?hbind ?hloc ?_ ?c1 ?c2 ?c3 ?c4
  case hm => exact fun q hq => nomatch hq
  (((case hroom => lia); (case ho => k_is); (case hcd => k_is); (case hbind => exact BindsTo.of_eq rfl); (case hloc => exact locs rfl); (case c1 => exact rfl); (case c2 => exact rfl); (case c3 => exact rfl); (case c4 => decide)))
  intro g L' h₁ tk F N X' T' st' gs lt kp
  have sg : s.heap.StaysIn g := fun b o e => gs b o e (fun q => nomatch q)
  have hl := hl0.keeps sg
  obtain ⟨lr, hlr, hlen, hlead⟩ := hl.ex
  have hsm := hl.small
  clear X T
  (repeat' (first | ((((fail_if_success (with_reducible show wpAny _ _ (pyIter (Value.ref _)) _ _ _)); (fail_if_success (with_reducible show wpAny _ _ (call (Value.ref _) _) _ _ _)); (fail_if_success (with_reducible show wpAny _ _ (exec (Stmt.While _ _ _ _) _) _ _ _)); (fail_if_success (with_reducible show wpAny _ _ (exec (Stmt.For _ _ _ _ _) _) _ _ _)); (fail_if_success (with_reducible show wpAny _ _ (call (Value.builtin "list.pop") _) _ _ _)); (fail_if_success (with_reducible show wpAny _ _ (call (Value.builtin "len") _) _ _ _)); (fail_if_success (with_reducible show wpAny _ _ (compareOp _ (Value.ref _) (Value.ref _)) _ _ _)); (fail_if_success (with_reducible show wpAny _ _ (compareOp CmpOp.NotIn _ (Value.ref _)) _ _ _)); (fail_if_success (with_reducible show wpAny _ _ (subscriptTail _ _ (Value.ref _) (Value.int _ _)) _ _ _)))); walk1) | ((((fail_if_success (with_reducible show wpAny _ _ (pyIter (Value.ref _)) _ _ _)); (fail_if_success (with_reducible show wpAny _ _ (call (Value.ref _) _) _ _ _)); (fail_if_success (with_reducible show wpAny _ _ (exec (Stmt.While _ _ _ _) _) _ _ _)); (fail_if_success (with_reducible show wpAny _ _ (exec (Stmt.For _ _ _ _ _) _) _ _ _)); (fail_if_success (with_reducible show wpAny _ _ (call (Value.builtin "list.pop") _) _ _ _)); (fail_if_success (with_reducible show wpAny _ _ (call (Value.builtin "len") _) _ _ _)); (fail_if_success (with_reducible show wpAny _ _ (compareOp _ (Value.ref _) (Value.ref _)) _ _ _)); (fail_if_success (with_reducible show wpAny _ _ (compareOp CmpOp.NotIn _ (Value.ref _)) _ _ _)); (fail_if_success (with_reducible show wpAny _ _ (subscriptTail _ _ (Value.ref _) (Value.int _ _)) _ _ _)))); dsimp only; (((fail_if_success (with_reducible show wpAny _ _ (pyIter (Value.ref _)) _ _ _)); (fail_if_success (with_reducible show wpAny _ _ (call (Value.ref _) _) _ _ _)); (fail_if_success (with_reducible show wpAny _ _ (exec (Stmt.While _ _ _ _) _) _ _ _)); (fail_if_success (with_reducible show wpAny _ _ (exec (Stmt.For _ _ _ _ _) _) _ _ _)); (fail_if_success (with_reducible show wpAny _ _ (call (Value.builtin "list.pop") _) _ _ _)); (fail_if_success (with_reducible show wpAny _ _ (call (Value.builtin "len") _) _ _ _)); (fail_if_success (with_reducible show wpAny _ _ (compareOp _ (Value.ref _) (Value.ref _)) _ _ _)); (fail_if_success (with_reducible show wpAny _ _ (compareOp CmpOp.NotIn _ (Value.ref _)) _ _ _)); (fail_if_success (with_reducible show wpAny _ _ (subscriptTail _ _ (Value.ref _) (Value.int _ _)) _ _ _)))); walk1)))
  rename Fr _ _ _ _ => F; rename News _ _ _ _ => N
  refine kun_lenL (k := (lead.length : Int)) (stays_list F.keep hlr) (by simp [hlen]) (by lia) ?_
  (repeat' (first | ((((fail_if_success (with_reducible show wpAny _ _ (pyIter (Value.ref _)) _ _ _)); (fail_if_success (with_reducible show wpAny _ _ (call (Value.ref _) _) _ _ _)); (fail_if_success (with_reducible show wpAny _ _ (exec (Stmt.While _ _ _ _) _) _ _ _)); (fail_if_success (with_reducible show wpAny _ _ (exec (Stmt.For _ _ _ _ _) _) _ _ _)); (fail_if_success (with_reducible show wpAny _ _ (call (Value.builtin "list.pop") _) _ _ _)); (fail_if_success (with_reducible show wpAny _ _ (call (Value.builtin "len") _) _ _ _)); (fail_if_success (with_reducible show wpAny _ _ (compareOp _ (Value.ref _) (Value.ref _)) _ _ _)); (fail_if_success (with_reducible show wpAny _ _ (compareOp CmpOp.NotIn _ (Value.ref _)) _ _ _)); (fail_if_success (with_reducible show wpAny _ _ (subscriptTail _ _ (Value.ref _) (Value.int _ _)) _ _ _)))); walk1) | ((((fail_if_success (with_reducible show wpAny _ _ (pyIter (Value.ref _)) _ _ _)); (fail_if_success (with_reducible show wpAny _ _ (call (Value.ref _) _) _ _ _)); (fail_if_success (with_reducible show wpAny _ _ (exec (Stmt.While _ _ _ _) _) _ _ _)); (fail_if_success (with_reducible show wpAny _ _ (exec (Stmt.For _ _ _ _ _) _) _ _ _)); (fail_if_success (with_reducible show wpAny _ _ (call (Value.builtin "list.pop") _) _ _ _)); (fail_if_success (with_reducible show wpAny _ _ (call (Value.builtin "len") _) _ _ _)); (fail_if_success (with_reducible show wpAny _ _ (compareOp _ (Value.ref _) (Value.ref _)) _ _ _)); (fail_if_success (with_reducible show wpAny _ _ (compareOp CmpOp.NotIn _ (Value.ref _)) _ _ _)); (fail_if_success (with_reducible show wpAny _ _ (subscriptTail _ _ (Value.ref _) (Value.int _ _)) _ _ _)))); dsimp only; (((fail_if_success (with_reducible show wpAny _ _ (pyIter (Value.ref _)) _ _ _)); (fail_if_success (with_reducible show wpAny _ _ (call (Value.ref _) _) _ _ _)); (fail_if_success (with_reducible show wpAny _ _ (exec (Stmt.While _ _ _ _) _) _ _ _)); (fail_if_success (with_reducible show wpAny _ _ (exec (Stmt.For _ _ _ _ _) _) _ _ _)); (fail_if_success (with_reducible show wpAny _ _ (call (Value.builtin "list.pop") _) _ _ _)); (fail_if_success (with_reducible show wpAny _ _ (call (Value.builtin "len") _) _ _ _)); (fail_if_success (with_reducible show wpAny _ _ (compareOp _ (Value.ref _) (Value.ref _)) _ _ _)); (fail_if_success (with_reducible show wpAny _ _ (compareOp CmpOp.NotIn _ (Value.ref _)) _ _ _)); (fail_if_success (with_reducible show wpAny _ _ (subscriptTail _ _ (Value.ref _) (Value.int _ _)) _ _ _)))); walk1)))
  rename_i wwc h8 i1 n1 s1 e1 e2 e3 lA wco h7 lB wwa h6 lC D h5 lD h4 h3 h2 h1 h0 F N hi hL hS
  have lB' := lB.1
  have lC' := lC.1
  have lC'' := lC.2.1
  clear lA lD e2 e3 s1 hS hL
  have e0 : (List.replicate ((lead.length : Int)).toNat [(0 : Int)]).flatten.set ((f : Int)).toNat 1 = (List.replicate lead.length 0).set f 1 := by
    rw [Int.toNat_natCast, Int.toNat_natCast, rep_flat]
  rw [e0] at hi
  refine while_N (L := L') (k₀ := 4 * (lead.length - 0) + 1) (JW6 lead f tf lds wwc wco wwa) F (sub3 N.tail') ?_ ?_ rfl
  · refine ⟨none, none, [], [f], [.int f tf], [], _, _, 0, 0, 0, ?_, rfl, WInv.start _ _, .cons _ _ .nil, .nil, hi, ?_, ?_, ?_, ?_, by simp, by simp⟩
    · funext y
      by_cases y1 : y = Str.ofString "at"
      · subst y1; rfl
      · by_cases y2 : y = Str.ofString "end"
        · subst y2; rfl
        · rw [if_neg y1, if_neg y2]
    · simp
    · intro x hx
      rw [List.getElem?_set]
      by_cases hfx : f = x
      · subst hfx
        rw [if_pos rfl, if_pos (by simpa using hx)]
        simp [Tot]
      · rw [if_neg hfx, List.getElem?_replicate, if_pos hx]
        simp [Tot, List.count_singleton, hfx]
    · intro a ha; rw [List.mem_singleton.mp ha]; exact hf
    · intro a ha; cases ha
  · rintro k m₁ news₁ hh tk ⟨u1, u2, come, W, vwa, vco, vwc, wcs, c1, c2, c3, rfl, rfl, inv, hiwa, hico, hiwc, hwl, htot, hWn, hcn, hWl, rfl⟩ F N
    have hcl : come.length ≤ lead.length := come_le inv.nd hcn
    dsimp only
    (repeat' (first | ((((fail_if_success (with_reducible show wpAny _ _ (pyIter (Value.ref _)) _ _ _)); (fail_if_success (with_reducible show wpAny _ _ (call (Value.ref _) _) _ _ _)); (fail_if_success (with_reducible show wpAny _ _ (exec (Stmt.While _ _ _ _) _) _ _ _)); (fail_if_success (with_reducible show wpAny _ _ (exec (Stmt.For _ _ _ _ _) _) _ _ _)); (fail_if_success (with_reducible show wpAny _ _ (call (Value.builtin "list.pop") _) _ _ _)); (fail_if_success (with_reducible show wpAny _ _ (call (Value.builtin "len") _) _ _ _)); (fail_if_success (with_reducible show wpAny _ _ (compareOp _ (Value.ref _) (Value.ref _)) _ _ _)); (fail_if_success (with_reducible show wpAny _ _ (compareOp CmpOp.NotIn _ (Value.ref _)) _ _ _)); (fail_if_success (with_reducible show wpAny _ _ (subscriptTail _ _ (Value.ref _) (Value.int _ _)) _ _ _)))); walk1) | ((((fail_if_success (with_reducible show wpAny _ _ (pyIter (Value.ref _)) _ _ _)); (fail_if_success (with_reducible show wpAny _ _ (call (Value.ref _) _) _ _ _)); (fail_if_success (with_reducible show wpAny _ _ (exec (Stmt.While _ _ _ _) _) _ _ _)); (fail_if_success (with_reducible show wpAny _ _ (exec (Stmt.For _ _ _ _ _) _) _ _ _)); (fail_if_success (with_reducible show wpAny _ _ (call (Value.builtin "list.pop") _) _ _ _)); (fail_if_success (with_reducible show wpAny _ _ (call (Value.builtin "len") _) _ _ _)); (fail_if_success (with_reducible show wpAny _ _ (compareOp _ (Value.ref _) (Value.ref _)) _ _ _)); (fail_if_success (with_reducible show wpAny _ _ (compareOp CmpOp.NotIn _ (Value.ref _)) _ _ _)); (fail_if_success (with_reducible show wpAny _ _ (subscriptTail _ _ (Value.ref _) (Value.int _ _)) _ _ _)))); dsimp only; (((fail_if_success (with_reducible show wpAny _ _ (pyIter (Value.ref _)) _ _ _)); (fail_if_success (with_reducible show wpAny _ _ (call (Value.ref _) _) _ _ _)); (fail_if_success (with_reducible show wpAny _ _ (exec (Stmt.While _ _ _ _) _) _ _ _)); (fail_if_success (with_reducible show wpAny _ _ (exec (Stmt.For _ _ _ _ _) _) _ _ _)); (fail_if_success (with_reducible show wpAny _ _ (call (Value.builtin "list.pop") _) _ _ _)); (fail_if_success (with_reducible show wpAny _ _ (call (Value.builtin "len") _) _ _ _)); (fail_if_success (with_reducible show wpAny _ _ (compareOp _ (Value.ref _) (Value.ref _)) _ _ _)); (fail_if_success (with_reducible show wpAny _ _ (compareOp CmpOp.NotIn _ (Value.ref _)) _ _ _)); (fail_if_success (with_reducible show wpAny _ _ (subscriptTail _ _ (Value.ref _) (Value.int _ _)) _ _ _)))); walk1)))
    rename_i lz hz F N lzl
    refine ne_intsK (vs := vwa) (ns := W.map Int.ofNat) (us := []) (ms := []) (N.isList (.tail _ (.head _))) hiwa (N.isList (.head _)) .nil (by show un + 3 + 64 < cLine; lia) ?_
    (repeat' (first | ((((fail_if_success (with_reducible show wpAny _ _ (pyIter (Value.ref _)) _ _ _)); (fail_if_success (with_reducible show wpAny _ _ (call (Value.ref _) _) _ _ _)); (fail_if_success (with_reducible show wpAny _ _ (exec (Stmt.While _ _ _ _) _) _ _ _)); (fail_if_success (with_reducible show wpAny _ _ (exec (Stmt.For _ _ _ _ _) _) _ _ _)); (fail_if_success (with_reducible show wpAny _ _ (call (Value.builtin "list.pop") _) _ _ _)); (fail_if_success (with_reducible show wpAny _ _ (call (Value.builtin "len") _) _ _ _)); (fail_if_success (with_reducible show wpAny _ _ (compareOp _ (Value.ref _) (Value.ref _)) _ _ _)); (fail_if_success (with_reducible show wpAny _ _ (compareOp CmpOp.NotIn _ (Value.ref _)) _ _ _)); (fail_if_success (with_reducible show wpAny _ _ (subscriptTail _ _ (Value.ref _) (Value.int _ _)) _ _ _)))); walk1) | ((((fail_if_success (with_reducible show wpAny _ _ (pyIter (Value.ref _)) _ _ _)); (fail_if_success (with_reducible show wpAny _ _ (call (Value.ref _) _) _ _ _)); (fail_if_success (with_reducible show wpAny _ _ (exec (Stmt.While _ _ _ _) _) _ _ _)); (fail_if_success (with_reducible show wpAny _ _ (exec (Stmt.For _ _ _ _ _) _) _ _ _)); (fail_if_success (with_reducible show wpAny _ _ (call (Value.builtin "list.pop") _) _ _ _)); (fail_if_success (with_reducible show wpAny _ _ (call (Value.builtin "len") _) _ _ _)); (fail_if_success (with_reducible show wpAny _ _ (compareOp _ (Value.ref _) (Value.ref _)) _ _ _)); (fail_if_success (with_reducible show wpAny _ _ (compareOp CmpOp.NotIn _ (Value.ref _)) _ _ _)); (fail_if_success (with_reducible show wpAny _ _ (subscriptTail _ _ (Value.ref _) (Value.int _ _)) _ _ _)))); dsimp only; (((fail_if_success (with_reducible show wpAny _ _ (pyIter (Value.ref _)) _ _ _)); (fail_if_success (with_reducible show wpAny _ _ (call (Value.ref _) _) _ _ _)); (fail_if_success (with_reducible show wpAny _ _ (exec (Stmt.While _ _ _ _) _) _ _ _)); (fail_if_success (with_reducible show wpAny _ _ (exec (Stmt.For _ _ _ _ _) _) _ _ _)); (fail_if_success (with_reducible show wpAny _ _ (call (Value.builtin "list.pop") _) _ _ _)); (fail_if_success (with_reducible show wpAny _ _ (call (Value.builtin "len") _) _ _ _)); (fail_if_success (with_reducible show wpAny _ _ (compareOp _ (Value.ref _) (Value.ref _)) _ _ _)); (fail_if_success (with_reducible show wpAny _ _ (compareOp CmpOp.NotIn _ (Value.ref _)) _ _ _)); (fail_if_success (with_reducible show wpAny _ _ (subscriptTail _ _ (Value.ref _) (Value.int _ _)) _ _ _)))); walk1)))
    · rename (decide _ = true) => hne
      have hW0 : W = [] := by simpa using hne
      subst hW0
      exact h _ _ wwc vwc wcs c1 come (fun b o e => F.keep b o (sg b o e)) (of_no sg (N (wwc, _) (by k_mem)).2.2) (N.get (a := wwc) (by k_mem)) hiwc hwl inv.done htot
    · rename (decide _ = false) => hne
      rcases List.eq_nil_or_concat W with rfl | ⟨W2, v, rfl⟩
      · simp at hne
      clear hne
      simp only [List.concat_eq_append] at *
      have hiwa2 : IntsAre vwa (W2.map Int.ofNat ++ [Int.ofNat v]) := by simpa using hiwa
      obtain ⟨vw, tv, rfl, hiw⟩ := ints_snoc hiwa2
      clear hiwa hiwa2
      have hvwl : vw.length = W2.length := by rw [hiw.length, List.length_map]
      have hvn : v < lead.length := hWn v (by simp)
      have hW2n : ∀ a ∈ W2, a < lead.length := fun a ha => hWn a (List.mem_append_left _ ha)
      have hW2l : W2.length ≤ 3 * come.length := by simp at hWl; lia
      refine' kl_pop (p := vw) (y := .int (Int.ofNat v) tv) ?F ?N ?e ?U ?z ?_
      case F => exact F
      case N => exact N.tail'
      case e => exact kpa_last _ _
      case U => k_upd
      case z => rw [sizeLine_eq]; simp; lia
      clear F N
      intro h' F N
      (repeat' (first | ((((fail_if_success (with_reducible show wpAny _ _ (pyIter (Value.ref _)) _ _ _)); (fail_if_success (with_reducible show wpAny _ _ (call (Value.ref _) _) _ _ _)); (fail_if_success (with_reducible show wpAny _ _ (exec (Stmt.While _ _ _ _) _) _ _ _)); (fail_if_success (with_reducible show wpAny _ _ (exec (Stmt.For _ _ _ _ _) _) _ _ _)); (fail_if_success (with_reducible show wpAny _ _ (call (Value.builtin "list.pop") _) _ _ _)); (fail_if_success (with_reducible show wpAny _ _ (call (Value.builtin "len") _) _ _ _)); (fail_if_success (with_reducible show wpAny _ _ (compareOp _ (Value.ref _) (Value.ref _)) _ _ _)); (fail_if_success (with_reducible show wpAny _ _ (compareOp CmpOp.NotIn _ (Value.ref _)) _ _ _)); (fail_if_success (with_reducible show wpAny _ _ (subscriptTail _ _ (Value.ref _) (Value.int _ _)) _ _ _)))); walk1) | ((((fail_if_success (with_reducible show wpAny _ _ (pyIter (Value.ref _)) _ _ _)); (fail_if_success (with_reducible show wpAny _ _ (call (Value.ref _) _) _ _ _)); (fail_if_success (with_reducible show wpAny _ _ (exec (Stmt.While _ _ _ _) _) _ _ _)); (fail_if_success (with_reducible show wpAny _ _ (exec (Stmt.For _ _ _ _ _) _) _ _ _)); (fail_if_success (with_reducible show wpAny _ _ (call (Value.builtin "list.pop") _) _ _ _)); (fail_if_success (with_reducible show wpAny _ _ (call (Value.builtin "len") _) _ _ _)); (fail_if_success (with_reducible show wpAny _ _ (compareOp _ (Value.ref _) (Value.ref _)) _ _ _)); (fail_if_success (with_reducible show wpAny _ _ (compareOp CmpOp.NotIn _ (Value.ref _)) _ _ _)); (fail_if_success (with_reducible show wpAny _ _ (subscriptTail _ _ (Value.ref _) (Value.int _ _)) _ _ _)))); dsimp only; (((fail_if_success (with_reducible show wpAny _ _ (pyIter (Value.ref _)) _ _ _)); (fail_if_success (with_reducible show wpAny _ _ (call (Value.ref _) _) _ _ _)); (fail_if_success (with_reducible show wpAny _ _ (exec (Stmt.While _ _ _ _) _) _ _ _)); (fail_if_success (with_reducible show wpAny _ _ (exec (Stmt.For _ _ _ _ _) _) _ _ _)); (fail_if_success (with_reducible show wpAny _ _ (call (Value.builtin "list.pop") _) _ _ _)); (fail_if_success (with_reducible show wpAny _ _ (call (Value.builtin "len") _) _ _ _)); (fail_if_success (with_reducible show wpAny _ _ (compareOp _ (Value.ref _) (Value.ref _)) _ _ _)); (fail_if_success (with_reducible show wpAny _ _ (compareOp CmpOp.NotIn _ (Value.ref _)) _ _ _)); (fail_if_success (with_reducible show wpAny _ _ (subscriptTail _ _ (Value.ref _) (Value.int _ _)) _ _ _)))); walk1)))
      rename Fr _ _ _ _ => F; rename News _ _ _ _ => N
      refine notin_list_ints (N.isList (a := wco) (by k_mem)) hico ?_
      (repeat' (first | ((((fail_if_success (with_reducible show wpAny _ _ (pyIter (Value.ref _)) _ _ _)); (fail_if_success (with_reducible show wpAny _ _ (call (Value.ref _) _) _ _ _)); (fail_if_success (with_reducible show wpAny _ _ (exec (Stmt.While _ _ _ _) _) _ _ _)); (fail_if_success (with_reducible show wpAny _ _ (exec (Stmt.For _ _ _ _ _) _) _ _ _)); (fail_if_success (with_reducible show wpAny _ _ (call (Value.builtin "list.pop") _) _ _ _)); (fail_if_success (with_reducible show wpAny _ _ (call (Value.builtin "len") _) _ _ _)); (fail_if_success (with_reducible show wpAny _ _ (compareOp _ (Value.ref _) (Value.ref _)) _ _ _)); (fail_if_success (with_reducible show wpAny _ _ (compareOp CmpOp.NotIn _ (Value.ref _)) _ _ _)); (fail_if_success (with_reducible show wpAny _ _ (subscriptTail _ _ (Value.ref _) (Value.int _ _)) _ _ _)))); walk1) | ((((fail_if_success (with_reducible show wpAny _ _ (pyIter (Value.ref _)) _ _ _)); (fail_if_success (with_reducible show wpAny _ _ (call (Value.ref _) _) _ _ _)); (fail_if_success (with_reducible show wpAny _ _ (exec (Stmt.While _ _ _ _) _) _ _ _)); (fail_if_success (with_reducible show wpAny _ _ (exec (Stmt.For _ _ _ _ _) _) _ _ _)); (fail_if_success (with_reducible show wpAny _ _ (call (Value.builtin "list.pop") _) _ _ _)); (fail_if_success (with_reducible show wpAny _ _ (call (Value.builtin "len") _) _ _ _)); (fail_if_success (with_reducible show wpAny _ _ (compareOp _ (Value.ref _) (Value.ref _)) _ _ _)); (fail_if_success (with_reducible show wpAny _ _ (compareOp CmpOp.NotIn _ (Value.ref _)) _ _ _)); (fail_if_success (with_reducible show wpAny _ _ (subscriptTail _ _ (Value.ref _) (Value.int _ _)) _ _ _)))); dsimp only; (((fail_if_success (with_reducible show wpAny _ _ (pyIter (Value.ref _)) _ _ _)); (fail_if_success (with_reducible show wpAny _ _ (call (Value.ref _) _) _ _ _)); (fail_if_success (with_reducible show wpAny _ _ (exec (Stmt.While _ _ _ _) _) _ _ _)); (fail_if_success (with_reducible show wpAny _ _ (exec (Stmt.For _ _ _ _ _) _) _ _ _)); (fail_if_success (with_reducible show wpAny _ _ (call (Value.builtin "list.pop") _) _ _ _)); (fail_if_success (with_reducible show wpAny _ _ (call (Value.builtin "len") _) _ _ _)); (fail_if_success (with_reducible show wpAny _ _ (compareOp _ (Value.ref _) (Value.ref _)) _ _ _)); (fail_if_success (with_reducible show wpAny _ _ (compareOp CmpOp.NotIn _ (Value.ref _)) _ _ _)); (fail_if_success (with_reducible show wpAny _ _ (subscriptTail _ _ (Value.ref _) (Value.int _ _)) _ _ _)))); walk1)))
      · rename (List.any _ _ = true) => hin
        have hvc : v ∈ come := any_mem hin
        refine wend_next ?_ F N ⟨some (.int (Int.ofNat v) tv), u2, come, W2, vw, vco, vwc, wcs, c1, c2, c3 + 1, map_over _ _ _ _, rfl, (inv.perm List.perm_append_comm).old hvc, hiw, hico, hiwc, hwl, htot, hW2n, hcn, by lia, rfl⟩
        simp
      · rename (List.any _ _ = false) => hnin
        have hvc : v ∉ come := not_any_mem hnin
        rename Fr _ _ _ _ => F; rename News _ _ _ _ => N
        obtain ⟨lv, hlv⟩ : ∃ lv, lead[v]? = some lv := ⟨_, List.getElem?_eq_getElem hvn⟩
        obtain ⟨la, hla⟩ : ∃ la, lr[v]? = some la := ⟨_, List.getElem?_eq_getElem (by lia)⟩
        obtain ⟨vsl, hvsl, hivl⟩ := hlead v la lv hla hlv
        have hlvm : lv ∈ lead := List.mem_of_getElem? hlv
        have hlv3 := hl.few lv hlvm
        have hlve := hl.ends lv hlvm
        refine For_invV g rfl rfl ?_
        (repeat' (first | ((((fail_if_success (with_reducible show wpAny _ _ (pyIter (Value.ref _)) _ _ _)); (fail_if_success (with_reducible show wpAny _ _ (call (Value.ref _) _) _ _ _)); (fail_if_success (with_reducible show wpAny _ _ (exec (Stmt.While _ _ _ _) _) _ _ _)); (fail_if_success (with_reducible show wpAny _ _ (exec (Stmt.For _ _ _ _ _) _) _ _ _)); (fail_if_success (with_reducible show wpAny _ _ (call (Value.builtin "list.pop") _) _ _ _)); (fail_if_success (with_reducible show wpAny _ _ (call (Value.builtin "len") _) _ _ _)); (fail_if_success (with_reducible show wpAny _ _ (compareOp _ (Value.ref _) (Value.ref _)) _ _ _)); (fail_if_success (with_reducible show wpAny _ _ (compareOp CmpOp.NotIn _ (Value.ref _)) _ _ _)); (fail_if_success (with_reducible show wpAny _ _ (subscriptTail _ _ (Value.ref _) (Value.int _ _)) _ _ _)))); walk1) | ((((fail_if_success (with_reducible show wpAny _ _ (pyIter (Value.ref _)) _ _ _)); (fail_if_success (with_reducible show wpAny _ _ (call (Value.ref _) _) _ _ _)); (fail_if_success (with_reducible show wpAny _ _ (exec (Stmt.While _ _ _ _) _) _ _ _)); (fail_if_success (with_reducible show wpAny _ _ (exec (Stmt.For _ _ _ _ _) _) _ _ _)); (fail_if_success (with_reducible show wpAny _ _ (call (Value.builtin "list.pop") _) _ _ _)); (fail_if_success (with_reducible show wpAny _ _ (call (Value.builtin "len") _) _ _ _)); (fail_if_success (with_reducible show wpAny _ _ (compareOp _ (Value.ref _) (Value.ref _)) _ _ _)); (fail_if_success (with_reducible show wpAny _ _ (compareOp CmpOp.NotIn _ (Value.ref _)) _ _ _)); (fail_if_success (with_reducible show wpAny _ _ (subscriptTail _ _ (Value.ref _) (Value.int _ _)) _ _ _)))); dsimp only; (((fail_if_success (with_reducible show wpAny _ _ (pyIter (Value.ref _)) _ _ _)); (fail_if_success (with_reducible show wpAny _ _ (call (Value.ref _) _) _ _ _)); (fail_if_success (with_reducible show wpAny _ _ (exec (Stmt.While _ _ _ _) _) _ _ _)); (fail_if_success (with_reducible show wpAny _ _ (exec (Stmt.For _ _ _ _ _) _) _ _ _)); (fail_if_success (with_reducible show wpAny _ _ (call (Value.builtin "list.pop") _) _ _ _)); (fail_if_success (with_reducible show wpAny _ _ (call (Value.builtin "len") _) _ _ _)); (fail_if_success (with_reducible show wpAny _ _ (compareOp _ (Value.ref _) (Value.ref _)) _ _ _)); (fail_if_success (with_reducible show wpAny _ _ (compareOp CmpOp.NotIn _ (Value.ref _)) _ _ _)); (fail_if_success (with_reducible show wpAny _ _ (subscriptTail _ _ (Value.ref _) (Value.int _ _)) _ _ _)))); walk1)))
        refine item_at (k := Int.ofNat v) (stays_list F.keep hlr) (Int.natCast_nonneg v) (by show (v : Int) < 2 ^ 63; lia) (v := .ref la) (by simp [hla]) ?_ (by with_unfolding_all rfl)
        obtain ⟨M, hM, F⟩ : ∃ M, M = _ ∧ Fr g L' _ M := ⟨_, rfl, F⟩
        refine iter_list (L := L') (JL6 lead f come W2 lv v tv vco c2 M wwa wco wwc) rfl hvsl F N ?_ ?_ ?_ rfl
        · refine ⟨_, vw, vwc, wcs, c3 + 1, c1, map_self _ _, by simp, ?_, hiwc, hwl, ?_⟩
          · simpa [endsN] using hiw
          · intro x hx; rw [htot x hx]; simp [endsN]
        · rintro i vi m₁ news₁ h2 tk2 I oI hvi ⟨u, vwa2, vwc2, wcs2, c5, c6, rfl, rfl, hi1, hi2, hl2, hc2⟩ F N hne
          subst hM
          obtain ⟨e, te, rfl, hle⟩ := hivl.at i vi hvi
          simp only [List.forall_mem_cons] at hne
          obtain ⟨q1, q2, q3, _⟩ := hne
          have q1' := neN q1
          have q2' := neN q2
          have q3' := neN q3
          have heln : e < (lead.length : Int) := hlve e (List.mem_of_getElem? hle)
          have hile : i < lv.length := (List.getElem?_eq_some_iff.mp hle).1
          have hv2 : vwa2.length ≤ 30 := by
            rw [hi1.length, List.length_map, List.length_append]
            have := endsN_le (lv.take i)
            rw [List.length_take] at this
            lia
          have hl2' : (wcs2.length : Int) = lead.length := by lia
          have htk : lv.take (i + 1) = lv.take i ++ [e] := by rw [List.take_add_one, hle]; rfl
          (repeat' (first | ((((fail_if_success (with_reducible show wpAny _ _ (pyIter (Value.ref _)) _ _ _)); (fail_if_success (with_reducible show wpAny _ _ (call (Value.ref _) _) _ _ _)); (fail_if_success (with_reducible show wpAny _ _ (exec (Stmt.While _ _ _ _) _) _ _ _)); (fail_if_success (with_reducible show wpAny _ _ (exec (Stmt.For _ _ _ _ _) _) _ _ _)); (fail_if_success (with_reducible show wpAny _ _ (call (Value.builtin "list.pop") _) _ _ _)); (fail_if_success (with_reducible show wpAny _ _ (call (Value.builtin "len") _) _ _ _)); (fail_if_success (with_reducible show wpAny _ _ (compareOp _ (Value.ref _) (Value.ref _)) _ _ _)); (fail_if_success (with_reducible show wpAny _ _ (compareOp CmpOp.NotIn _ (Value.ref _)) _ _ _)); (fail_if_success (with_reducible show wpAny _ _ (subscriptTail _ _ (Value.ref _) (Value.int _ _)) _ _ _)))); walk1) | ((((fail_if_success (with_reducible show wpAny _ _ (pyIter (Value.ref _)) _ _ _)); (fail_if_success (with_reducible show wpAny _ _ (call (Value.ref _) _) _ _ _)); (fail_if_success (with_reducible show wpAny _ _ (exec (Stmt.While _ _ _ _) _) _ _ _)); (fail_if_success (with_reducible show wpAny _ _ (exec (Stmt.For _ _ _ _ _) _) _ _ _)); (fail_if_success (with_reducible show wpAny _ _ (call (Value.builtin "list.pop") _) _ _ _)); (fail_if_success (with_reducible show wpAny _ _ (call (Value.builtin "len") _) _ _ _)); (fail_if_success (with_reducible show wpAny _ _ (compareOp _ (Value.ref _) (Value.ref _)) _ _ _)); (fail_if_success (with_reducible show wpAny _ _ (compareOp CmpOp.NotIn _ (Value.ref _)) _ _ _)); (fail_if_success (with_reducible show wpAny _ _ (subscriptTail _ _ (Value.ref _) (Value.int _ _)) _ _ _)))); dsimp only; (((fail_if_success (with_reducible show wpAny _ _ (pyIter (Value.ref _)) _ _ _)); (fail_if_success (with_reducible show wpAny _ _ (call (Value.ref _) _) _ _ _)); (fail_if_success (with_reducible show wpAny _ _ (exec (Stmt.While _ _ _ _) _) _ _ _)); (fail_if_success (with_reducible show wpAny _ _ (exec (Stmt.For _ _ _ _ _) _) _ _ _)); (fail_if_success (with_reducible show wpAny _ _ (call (Value.builtin "list.pop") _) _ _ _)); (fail_if_success (with_reducible show wpAny _ _ (call (Value.builtin "len") _) _ _ _)); (fail_if_success (with_reducible show wpAny _ _ (compareOp _ (Value.ref _) (Value.ref _)) _ _ _)); (fail_if_success (with_reducible show wpAny _ _ (compareOp CmpOp.NotIn _ (Value.ref _)) _ _ _)); (fail_if_success (with_reducible show wpAny _ _ (subscriptTail _ _ (Value.ref _) (Value.int _ _)) _ _ _)))); walk1)))
          · rename (0 ≤ e) => he0
            refine' ksa_sub (n := c6) (vs := vwc2) (ns := wcs2) ?k1 ?k2 ?k3 ?k4 ?k5 ?k6 ?_ ?k7
            case k1 => exact N
            case k2 => k_mem
            case k3 => exact hi2
            case k4 => exact he0
            case k5 => lia
            case k6 => lia
            case k7 => with_unfolding_all rfl
            intro t9
            have hcc := hc2 e.toNat (by lia)
            have hgd : wcs2.getD e.toNat 0 = (Tot (kidsN lead) f come e.toNat : Int) + ((endsN (lv.take i)).count e.toNat : Int) := by rw [List.getD_eq_getElem?_getD, hcc]; rfl
            (repeat' (first | ((((fail_if_success (with_reducible show wpAny _ _ (pyIter (Value.ref _)) _ _ _)); (fail_if_success (with_reducible show wpAny _ _ (call (Value.ref _) _) _ _ _)); (fail_if_success (with_reducible show wpAny _ _ (exec (Stmt.While _ _ _ _) _) _ _ _)); (fail_if_success (with_reducible show wpAny _ _ (exec (Stmt.For _ _ _ _ _) _) _ _ _)); (fail_if_success (with_reducible show wpAny _ _ (call (Value.builtin "list.pop") _) _ _ _)); (fail_if_success (with_reducible show wpAny _ _ (call (Value.builtin "len") _) _ _ _)); (fail_if_success (with_reducible show wpAny _ _ (compareOp _ (Value.ref _) (Value.ref _)) _ _ _)); (fail_if_success (with_reducible show wpAny _ _ (compareOp CmpOp.NotIn _ (Value.ref _)) _ _ _)); (fail_if_success (with_reducible show wpAny _ _ (subscriptTail _ _ (Value.ref _) (Value.int _ _)) _ _ _)))); walk1) | ((((fail_if_success (with_reducible show wpAny _ _ (pyIter (Value.ref _)) _ _ _)); (fail_if_success (with_reducible show wpAny _ _ (call (Value.ref _) _) _ _ _)); (fail_if_success (with_reducible show wpAny _ _ (exec (Stmt.While _ _ _ _) _) _ _ _)); (fail_if_success (with_reducible show wpAny _ _ (exec (Stmt.For _ _ _ _ _) _) _ _ _)); (fail_if_success (with_reducible show wpAny _ _ (call (Value.builtin "list.pop") _) _ _ _)); (fail_if_success (with_reducible show wpAny _ _ (call (Value.builtin "len") _) _ _ _)); (fail_if_success (with_reducible show wpAny _ _ (compareOp _ (Value.ref _) (Value.ref _)) _ _ _)); (fail_if_success (with_reducible show wpAny _ _ (compareOp CmpOp.NotIn _ (Value.ref _)) _ _ _)); (fail_if_success (with_reducible show wpAny _ _ (subscriptTail _ _ (Value.ref _) (Value.int _ _)) _ _ _)))); dsimp only; (((fail_if_success (with_reducible show wpAny _ _ (pyIter (Value.ref _)) _ _ _)); (fail_if_success (with_reducible show wpAny _ _ (call (Value.ref _) _) _ _ _)); (fail_if_success (with_reducible show wpAny _ _ (exec (Stmt.While _ _ _ _) _) _ _ _)); (fail_if_success (with_reducible show wpAny _ _ (exec (Stmt.For _ _ _ _ _) _) _ _ _)); (fail_if_success (with_reducible show wpAny _ _ (call (Value.builtin "list.pop") _) _ _ _)); (fail_if_success (with_reducible show wpAny _ _ (call (Value.builtin "len") _) _ _ _)); (fail_if_success (with_reducible show wpAny _ _ (compareOp _ (Value.ref _) (Value.ref _)) _ _ _)); (fail_if_success (with_reducible show wpAny _ _ (compareOp CmpOp.NotIn _ (Value.ref _)) _ _ _)); (fail_if_success (with_reducible show wpAny _ _ (subscriptTail _ _ (Value.ref _) (Value.int _ _)) _ _ _)))); walk1)))
            rename Fr _ _ _ _ => F; rename News _ _ _ _ => N; rename IntsAre (List.set _ _ _) _ => hs
            have hen : endsN (lv.take (i + 1)) = endsN (lv.take i) ++ [e.toNat] := by rw [htk, endsN_append, endsN_pos he0]
            refine tend_next F N (List.forall_mem_cons.mpr ⟨q1, List.forall_mem_cons.mpr ⟨q2, List.forall_mem_cons.mpr ⟨q3, fun _ h => nomatch h⟩⟩⟩) ⟨some (.int e te), vwa2 ++ [.int e te], _, wcs2.set e.toNat (wcs2.getD e.toNat 0 + 1), c5 + 1, c6, map_over _ _ _ _, by simp, ?_, hs, by rw [List.length_set]; exact hl2, ?_⟩
            · rw [hen, ← List.append_assoc, List.map_append]
              have : [e.toNat].map Int.ofNat = [e] := by simp; lia
              rw [this]
              exact IntsAre.append hi1 (.cons _ _ .nil)
            · intro x hx
              rw [hen, List.count_append, List.getElem?_set]
              by_cases hxe : e.toNat = x
              · subst hxe
                rw [if_pos rfl, if_pos (by lia), hgd, List.count_singleton_self]
                simp only [Option.some.injEq]; lia
              · rw [if_neg hxe, hc2 x hx, List.count_singleton]
                have : (e.toNat == x) = false := by simpa using hxe
                simp [this]
          · rename (¬ 0 ≤ e) => he0
            have hen : endsN (lv.take (i + 1)) = endsN (lv.take i) := by rw [htk, endsN_append, endsN_neg he0, List.append_nil]
            refine tend_next F N (List.forall_mem_cons.mpr ⟨q1, List.forall_mem_cons.mpr ⟨q2, List.forall_mem_cons.mpr ⟨q3, fun _ h => nomatch h⟩⟩⟩) ⟨some (.int e te), vwa2, vwc2, wcs2, c5, c6, map_over _ _ _ _, rfl, ?_, hi2, hl2, ?_⟩
            · rw [hen]; exact hi1
            · rw [hen]; exact hc2
        · rintro m₁ news₁ h2 tk2 ⟨u, vwa2, vwc2, wcs2, c5, c6, rfl, rfl, hi1, hi2, hl2, hc2⟩ F N
          subst hM
          (repeat' (first | ((((fail_if_success (with_reducible show wpAny _ _ (pyIter (Value.ref _)) _ _ _)); (fail_if_success (with_reducible show wpAny _ _ (call (Value.ref _) _) _ _ _)); (fail_if_success (with_reducible show wpAny _ _ (exec (Stmt.While _ _ _ _) _) _ _ _)); (fail_if_success (with_reducible show wpAny _ _ (exec (Stmt.For _ _ _ _ _) _) _ _ _)); (fail_if_success (with_reducible show wpAny _ _ (call (Value.builtin "list.pop") _) _ _ _)); (fail_if_success (with_reducible show wpAny _ _ (call (Value.builtin "len") _) _ _ _)); (fail_if_success (with_reducible show wpAny _ _ (compareOp _ (Value.ref _) (Value.ref _)) _ _ _)); (fail_if_success (with_reducible show wpAny _ _ (compareOp CmpOp.NotIn _ (Value.ref _)) _ _ _)); (fail_if_success (with_reducible show wpAny _ _ (subscriptTail _ _ (Value.ref _) (Value.int _ _)) _ _ _)))); walk1) | ((((fail_if_success (with_reducible show wpAny _ _ (pyIter (Value.ref _)) _ _ _)); (fail_if_success (with_reducible show wpAny _ _ (call (Value.ref _) _) _ _ _)); (fail_if_success (with_reducible show wpAny _ _ (exec (Stmt.While _ _ _ _) _) _ _ _)); (fail_if_success (with_reducible show wpAny _ _ (exec (Stmt.For _ _ _ _ _) _) _ _ _)); (fail_if_success (with_reducible show wpAny _ _ (call (Value.builtin "list.pop") _) _ _ _)); (fail_if_success (with_reducible show wpAny _ _ (call (Value.builtin "len") _) _ _ _)); (fail_if_success (with_reducible show wpAny _ _ (compareOp _ (Value.ref _) (Value.ref _)) _ _ _)); (fail_if_success (with_reducible show wpAny _ _ (compareOp CmpOp.NotIn _ (Value.ref _)) _ _ _)); (fail_if_success (with_reducible show wpAny _ _ (subscriptTail _ _ (Value.ref _) (Value.int _ _)) _ _ _)))); dsimp only; (((fail_if_success (with_reducible show wpAny _ _ (pyIter (Value.ref _)) _ _ _)); (fail_if_success (with_reducible show wpAny _ _ (call (Value.ref _) _) _ _ _)); (fail_if_success (with_reducible show wpAny _ _ (exec (Stmt.While _ _ _ _) _) _ _ _)); (fail_if_success (with_reducible show wpAny _ _ (exec (Stmt.For _ _ _ _ _) _) _ _ _)); (fail_if_success (with_reducible show wpAny _ _ (call (Value.builtin "list.pop") _) _ _ _)); (fail_if_success (with_reducible show wpAny _ _ (call (Value.builtin "len") _) _ _ _)); (fail_if_success (with_reducible show wpAny _ _ (compareOp _ (Value.ref _) (Value.ref _)) _ _ _)); (fail_if_success (with_reducible show wpAny _ _ (compareOp CmpOp.NotIn _ (Value.ref _)) _ _ _)); (fail_if_success (with_reducible show wpAny _ _ (subscriptTail _ _ (Value.ref _) (Value.int _ _)) _ _ _)))); walk1)))
          have hlvl : lv.take vsl.length = lv := by rw [hivl.length]; exact List.take_length
          rw [hlvl] at hi1 hc2
          have hkv : kidsN lead v = endsN lv := by
            show endsN (lead.getD v []) = _
            rw [List.getD_eq_getElem?_getD, hlv]; rfl
          have inv2 := (inv.perm List.perm_append_comm).new hvc
          rw [hkv] at inv2
          have hcn2 : ∀ a ∈ come ++ [v], a < lead.length := fun a ha => (List.mem_append.mp ha).elim (hcn a) fun q => (List.mem_singleton.mp q) ▸ hvn
          have hcl2 := come_le inv2.nd hcn2
          rw [List.length_append, List.length_singleton] at hcl2
          have hel := endsN_le lv
          refine wend_next ?_ F N ⟨some (.int (Int.ofNat v) tv), u, come ++ [v], W2 ++ endsN lv, vwa2, vco ++ [.int (Int.ofNat v) tv], vwc2, wcs2, c6, c2 + 1, c5, ?_, rfl, inv2.perm List.perm_append_comm, hi1, ?_, hi2, hl2, ?_, ?_, hcn2, ?_, rfl⟩
          · simp; first | exact m_lt hcl2 (by lia) | lia
          · funext y
            have hae : Str.ofString "at" ≠ Str.ofString "end" := by decide
            by_cases y1 : y = Str.ofString "at"
            · subst y1; simp [hae]
            · by_cases y2 : y = Str.ofString "end" <;> simp [y1, y2, hae.symm]
          · rw [List.map_append]; exact IntsAre.append hico (.cons _ _ .nil)
          · intro x hx
            rw [hc2 x hx, tot_snoc, hkv]
            simp
          · exact fun a ha => (List.mem_append.mp ha).elim (hW2n a) fun q => endsN_lt hlve q
          · simp; lia
end Mine
end

section
open PySem PySem.W PySem.Calls PyProof.Rows
namespace Mine
section
variable {prog : Program} {w : World} {A : Around} {R : Result → Shared → Prop} {s : Shared}

theorem compLoop_M {elt iter : PySem.Expr} {x : Str} {px : Pos} {scope : Scope} {pos : Pos} {I D : Addr} {fp : List Addr} {n : Nat} {P : Nat → Value → Prop} {St : Nat → Heap → Prop}
    {cenv : Env} {m : Str → Option Value} (W : Walks prog w A I fp [I] n P St) (M : List Addr) (Inv : Nat → List Value → Heap → Prop)
    (hx : cenv.kindOf x = some .local) (hp : (cenv.scope.kind == .class || (cenv.scope.kind == .module && cenv.locals != cenv.globals)) = false)
    (hDC : D ≠ cenv.locals) (hDf : D ∉ fp) (hCf : cenv.locals ∉ fp) (hM : ∀ b ∈ M, b ∉ fp ∧ b ≠ cenv.locals ∧ b ≠ D)
    (hst : St 0 s.heap) (hacc : s.heap.PlainList D #[]) (hn : s.heap.Ns cenv.locals m) (h0 : Inv 0 [] s.heap)
    (hlive : ∀ i h, St i h → ∃ o, h.get? I = some o)
    (stab : ∀ i ys h h', Inv i ys h → (∀ b o, b ≠ I → b ≠ cenv.locals → b ≠ D → h.get? b = some o → h'.get? b = some o) → Inv i ys h')
    (helt : ∀ i v ys s₂ m₂, i < n → P i v → ys.length = i → Inv i ys s₂.heap → s₂.heap.Ns cenv.locals m₂ → m₂ x = some v → (∃ o, s₂.heap.get? D = some o) → (∃ o, s₂.heap.get? I = some o) → (∃ h tk, s₂ = { s with heap := h, toks := tk }) →
      (∀ b o, b ≠ cenv.locals → b ≠ I → b ∉ M → b ≠ D → s.heap.get? b = some o → s₂.heap.get? b = some o) →
      wpAny (model prog w) A (eval elt cenv) (fun y s₃ => ∃ h' tk, s₃ = { s₂ with heap := h', toks := tk } ∧ (∀ b o, b ∉ M → s₂.heap.get? b = some o → h'.get? b = some o) ∧ Inv (i + 1) (ys ++ [y]) h') (fun _ _ => False) s₂)
    (hR : ∀ h' tk m' (ys : List Value), h'.Ns cenv.locals m' → h'.PlainList D ys.toArray → ys.length = n → Inv n ys h' →
      (∀ b o, b ≠ cenv.locals → b ≠ I → b ∉ M → b ≠ D → s.heap.get? b = some o → h'.get? b = some o) → R (.ok .next) { s with heap := h', toks := tk })
    (hsz : n ≤ 1000) :
    codeAny (model prog w) A (.compLoop (.ListComp elt [⟨.Name x px, iter, [], 0⟩] scope pos) 0 (.ref I) (.ref D) cenv) R s := by
  have hIf : I ∈ fp := W.sub I (List.mem_singleton.mpr rfl)
  have hDI : D ≠ I := fun e => hDf (e ▸ hIf)
  have hCI : cenv.locals ≠ I := fun e => hCf (e ▸ hIf)
  refine codeAny_compLoop_tests
    (fun k s' => ∃ h' tk m', ∃ ys : List Value, s' = { s with heap := h', toks := tk } ∧ St ys.length h' ∧ h'.PlainList D ys.toArray ∧ h'.Ns cenv.locals m' ∧ Inv ys.length ys h' ∧ ys.length ≤ n ∧ k = n + 1 - ys.length ∧
      (∀ b o, b ≠ cenv.locals → b ≠ I → b ∉ M → b ≠ D → s.heap.get? b = some o → h'.get? b = some o)) ?_ (n + 1)
    ⟨s.heap, s.toks, m, [], rfl, hst, hacc, hn, h0, Nat.zero_le _, rfl, fun _ _ _ _ _ _ e => e⟩
  rintro k s' ⟨H, tk, m', ys, rfl, hst', hacc', hn', hI', hi, rfl, hk⟩
  by_cases hlt : ys.length < n
  · refine W.item ys.length _ _ _ hlt hst' fun v h₁ tk₁ hPv hst₁ hk₁ => ?_
    have hk₁' : ∀ b o, b ≠ I → H.get? b = some o → h₁.get? b = some o := fun b o hb e => hk₁ b o (fun q => hb (List.mem_singleton.mp q)) e
    refine wpAny_assign_Name (wpAny_storeName_local hx (hn'.at' fun o e => hk₁' _ o hCI e) (fun h₂ hn₂ hs₂ => ?_) hp)
    have up₂ : ∀ b o, b ≠ cenv.locals → b ≠ I → H.get? b = some o → h₂.get? b = some o := fun b o hbC hbI e => hs₂.extBut b o hbC (hk₁' b o hbI e)
    have hst₂ : St (ys.length + 1) h₂ := W.frame _ _ _ hst₁ fun b hb o e => hs₂.extBut b o (fun h => hCf (h ▸ hb)) e
    refine wpAny_tests_nil ?_
    dsimp only
    rw [if_pos rfl]
    have hD₂ : ∃ o, h₂.get? D = some o := let ⟨c, e⟩ := hacc'; ⟨_, up₂ D _ hDC hDI e⟩
    refine wpAny_mono (helt ys.length v ys _ _ hlt hPv rfl (stab _ _ _ _ hI' fun b o h1 h2 h3 e => up₂ b o h2 h1 e) hn₂ (by simp) hD₂ (hlive _ _ hst₂) ⟨_, _, rfl⟩ (fun b o h1 h2 h3 h4 e => up₂ b o h1 h2 (hk b o h1 h2 h3 h4 e))) (fun y s₄ h₄ => ?_) fun _ _ e => e.elim
    obtain ⟨h₄, tk₄, rfl, hk₄, hI₄⟩ := h₄
    have hDM : D ∉ M := fun q => (hM D q).2.2 rfl
    have hCM : cenv.locals ∉ M := fun q => (hM _ q).2.1 rfl
    have hacc₄ : h₄.PlainList D ys.toArray := hacc'.at fun o e => hk₄ _ o hDM (up₂ D o hDC hDI e)
    have hys : ys.toArray.size ≤ sizeLine := by rw [sizeLine_eq]; simp; lia
    refine wpAny_list_append_plain (hsz := hys) hacc₄ fun h₅ hl₅ hs₅ => ?_
    refine ⟨n + 1 - (ys.length + 1), left_lt hlt, h₅, tk₄, _, ys ++ [y], rfl, ?_, by simpa using hl₅, (hn₂.at' fun o e => hk₄ _ o hCM e).sameBut hs₅ (Ne.symm hDC), ?_, ?_, ?_, ?_⟩
    · have := W.frame _ _ h₅ hst₂ fun b hb o e => hs₅.extBut b o (fun h => hDf (h ▸ hb)) (hk₄ b o (fun q => (hM b q).1 hb) e)
      simpa using this
    · have := stab _ _ _ h₅ hI₄ fun b o h1 h2 h3 e => hs₅.extBut b o h3 e
      simpa using this
    · rw [List.length_append, List.length_singleton]; exact hlt
    · rw [List.length_append, List.length_singleton]
    · exact fun b o h1 h2 h3 h4 e => hs₅.extBut b o h4 (hk₄ b o h3 (up₂ b o h1 h2 (hk b o h1 h2 h3 h4 e)))
  · have hin : ys.length = n := by lia
    refine W.done _ _ _ (hin ▸ hst') fun h₁ tk₁ hk₁ => ?_
    have hk₁' : ∀ b o, b ≠ I → H.get? b = some o → h₁.get? b = some o := fun b o hb e => hk₁ b o (fun q => hb (List.mem_singleton.mp q)) e
    refine hR h₁ tk₁ m' ys (hn'.at' fun o e => hk₁' _ o hCI e) (hacc'.at fun o e => hk₁' _ o hDI e) hin ?_ fun b o h1 h2 h3 h4 e => hk₁' b o h2 (hk b o h1 h2 h3 h4 e)
    rw [← hin]
    exact stab _ _ _ _ hI' fun b o h1 h2 h3 e => hk₁' b o h1 e
end

section
variable {prog : Program} {w : World} {A : Around} {E : Value → Shared → Prop} {env : Env}
/-- what a comprehension's element must do, turn by turn; M: the addresses it may change -/
structure CompM (prog : Program) (w : World) (A : Around) (env : Env) (scope : Scope) (cl : List (Str × Addr)) (x : Str) (elt : PySem.Expr) (I : Addr) (fp : List Addr) (n : Nat) (P : Nat → Value → Prop) (St : Nat → Heap → Prop)
    (M : List Addr) (Inv : Addr → Addr → Nat → List Value → Heap → Prop) (s₂ : Shared) : Prop where
  W : Walks prog w A I fp [I] n P St
  sz : n ≤ 1000
  st : St 0 s₂.heap
  fpl : ∀ b ∈ fp, b < s₂.heap.objs.size
  live : ∀ i h, St i h → ∃ o, h.get? I = some o
  mods : ∀ b ∈ M, b ∉ fp ∧ b < s₂.heap.objs.size
  init : ∀ C D, s₂.heap.objs.size ≤ C → s₂.heap.objs.size ≤ D → Inv C D 0 [] s₂.heap
  stab : ∀ C D i ys h h', s₂.heap.objs.size ≤ C → s₂.heap.objs.size ≤ D → Inv C D i ys h → (∀ b o, b ≠ I → b ≠ C → b ≠ D → h.get? b = some o → h'.get? b = some o) → Inv C D i ys h'
  elt : ∀ C D i v ys s₃ m₃, s₂.heap.objs.size ≤ C → s₂.heap.objs.size ≤ D → i < n → P i v → ys.length = i → Inv C D i ys s₃.heap → s₃.heap.Ns C m₃ → m₃ x = some v → (∃ o, s₃.heap.get? D = some o) → (∃ o, s₃.heap.get? I = some o) →
    (∃ h tk, s₃ = { s₂ with heap := h, toks := tk }) → (∀ b o, b ≠ I → b ∉ M → s₂.heap.get? b = some o → s₃.heap.get? b = some o) →
    wpAny (model prog w) A (eval elt (compEnvC scope cl C env)) (fun y s₄ => ∃ h' tk, s₄ = { s₃ with heap := h', toks := tk } ∧ (∀ b o, b ∉ M → s₃.heap.get? b = some o → h'.get? b = some o) ∧ Inv C D (i + 1) (ys ++ [y]) h') (fun _ _ => False) s₃

theorem comp_blockM {elt iter : PySem.Expr} {x : Str} {px : Pos} {scope : Scope} {cl : List (Str × Addr)} {pos : Pos} {s₂ : Shared} {I : Addr} {fp : List Addr} {n : Nat} {P : Nat → Value → Prop}
    {St : Nat → Heap → Prop} {M : List Addr} {Inv : Addr → Addr → Nat → List Value → Heap → Prop} {RR : Value → Addr → Result → Shared → Prop}
    (hcell : ∀ y ∈ scope.names, y.2 ≠ .cell) (hkind : scope.kind = .function) (hx : scope.names.lookup x = some .local)
    (q : CompM prog w A env scope cl x elt I fp n P St M Inv s₂)
    (hRR : ∀ D C h' tk m' (ys : List Value), s₂.heap.objs.size ≤ D → s₂.heap.objs.size ≤ C → D ≠ C → h'.Ns C m' → h'.PlainList D ys.toArray → ys.length = n → Inv C D n ys h' →
      (∀ b o, b ≠ I → b ∉ M → s₂.heap.get? b = some o → h'.get? b = some o) → RR (.ref D) C (.ok .next) { s₂ with heap := h', toks := tk }) :
    wpAny (model prog w) A (newList []) (fun acc s₃ => wpAny (model prog w) A (newFunctionEnv scope env.globals cl [] env.qual none .none (some env)) (fun cenv s₄ =>
      codeAny (model prog w) A (.compStart (.ListComp elt [⟨.Name x px, iter, [], 0⟩] scope pos) 0 (.ref I) acc { cenv with scope := relabel scope env }) (RR acc cenv.locals) s₄) E s₃) E s₂ := by
  refine wpAny_newObj_type (wpAny_newFunctionEnv hcell (by intro y hy; simp at hy) (fun h₁ hns₁ hsb₁ => ?_) hkind)
  dsimp only at hns₁ hsb₁ ⊢
  generalize hH2 : s₂.heap.push { cls := .type "list", dict := none, data := .seq ([] : List Value).toArray } = H2 at hns₁ hsb₁ ⊢
  have hC : H2.objs.size = s₂.heap.objs.size + 1 := by rw [← hH2, Heap.size_push]
  have hDC : s₂.heap.objs.size ≠ H2.objs.size := by rw [hC]; exact Nat.ne_of_lt (Nat.lt_succ_self _)
  have hCle : s₂.heap.objs.size ≤ H2.objs.size := by rw [hC]; exact Nat.le_succ _
  have below : ∀ b, b < s₂.heap.objs.size → b ≠ H2.objs.size ∧ b ≠ s₂.heap.objs.size := fun b hb => ⟨by rw [hC]; exact Nat.ne_of_lt (Nat.lt_succ_of_lt hb), Nat.ne_of_lt hb⟩
  have hDf : s₂.heap.objs.size ∉ fp := fun hm => Nat.lt_irrefl _ (q.fpl _ hm)
  have hCf : H2.objs.size ∉ fp := fun hm => by have := q.fpl _ hm; rw [hC] at this; exact Nat.lt_irrefl _ (Nat.lt_of_succ_lt this)
  have old : ∀ b o, s₂.heap.get? b = some o → h₁.get? b = some o := fun b o e => hsb₁.extBut b o (below b (Heap.lt_size e)).1 (Heap.get?_push_of_some _ (hH2 ▸ Heap.get?_push_of_some _ e))
  have hacc : h₁.PlainList s₂.heap.objs.size #[] := ⟨_, hsb₁.extBut _ _ hDC (Heap.get?_push_of_some _ (hH2 ▸ Heap.get?_push_size _ rfl))⟩
  have hst₁ : St 0 h₁ := q.W.frame _ _ _ q.st fun b _ o e => old b o e
  have loop : ∀ s₃ : Shared, s₃ = { s₂ with heap := h₁, toks := s₂.toks + ([] : List (Str × Value)).length } →
      codeAny (model prog w) A (.compLoop (.ListComp elt [⟨.Name x px, iter, [], 0⟩] scope pos) 0 (.ref I) (.ref s₂.heap.objs.size) (compEnvC scope cl H2.objs.size env))
        (RR (.ref s₂.heap.objs.size) H2.objs.size) s₃ := by
    rintro s₃ rfl
    refine compLoop_M (cenv := compEnvC scope cl H2.objs.size env) q.W M (Inv H2.objs.size s₂.heap.objs.size) (lookup_relabel_local hx) (by simp [compEnvC, relabel, hkind]) hDC hDf hCf (fun b hb => ⟨(q.mods b hb).1, (below b (q.mods b hb).2).1, (below b (q.mods b hb).2).2⟩) hst₁ hacc hns₁
      (q.stab _ _ _ _ _ _ hCle (Nat.le_refl _) (q.init _ _ hCle (Nat.le_refl _)) fun b o _ _ _ e => old b o e) q.live (fun i ys h h' hi hk => q.stab _ _ _ _ _ _ hCle (Nat.le_refl _) hi hk) ?_ ?_ q.sz
    · intro i v ys s₃ m₃ hin hv hlen hinv hn hm hD hI hs3 hk
      refine q.elt _ _ i v ys s₃ m₃ hCle (Nat.le_refl _) hin hv hlen hinv hn hm hD hI ?_ fun b o hbI hbM e => hk b o (below b (Heap.lt_size e)).1 hbI hbM (below b (Heap.lt_size e)).2 (old b o e)
      obtain ⟨h, tk, rfl⟩ := hs3
      exact ⟨h, tk, rfl⟩
    · intro h' tk m' ys hn hpl hlen hinv hk
      exact hRR _ _ h' tk m' ys (Nat.le_refl _) hCle hDC hn hpl hlen hinv fun b o hbI hbM e => hk b o (below b (Heap.lt_size e)).1 hbI hbM (below b (Heap.lt_size e)).2 (old b o e)
  exact codeAny_compStart_list (loop _ rfl) (q.W.self 0 _ _ _ hst₁ (loop _ rfl))

theorem ListCompM {s : Shared} {elt iter : PySem.Expr} {x : Str} {px : Pos} {scope : Scope} {cl : List (Str × Addr)} {pos : Pos} {Q : Value → Shared → Prop}
    (hclos : closureFor scope env = pure cl) (hcell : ∀ y ∈ scope.names, y.2 ≠ .cell) (hkind : scope.kind = .function)
    (hnames : ∀ y ∈ scope.names, y.2 = .local → scope.names.lookup y.1 = some .local) (hx : scope.names.lookup x = some .local)
    (h : wpAny (model prog w) A (eval iter env) (fun xv s₁ => wpAny (model prog w) A (pyIter xv) (fun it s₂ => ∃ I fp n P St M Inv, it = .ref I ∧ CompM prog w A env scope cl x elt I fp n P St M Inv s₂ ∧
      (∀ D C h' tk (ys : List Value) c, s₂.heap.objs.size ≤ D → s₂.heap.objs.size ≤ C → h'.get? D = some (listOf ys.toArray c) → ys.length = n → Inv C D n ys h' → (∀ b o, b ≠ I → b ∉ M → s₂.heap.get? b = some o → h'.get? b = some o) → Q (.ref D) { s₂ with heap := h', toks := tk })) E s₁) E s)
    (hs : ∀ x, foldedSetIterable iter env x = pure x) :
    wpAny (model prog w) A (eval (.ListComp elt [⟨.Name x px, iter, [], 0⟩] scope pos) env) Q E s := by
  rw [eval_ListComp]
  refine wpAny_comprehension_free (use := none) rfl hs hclos hkind hnames (wpAny_mono h (fun xv s₁ h₁ => wpAny_mono h₁ (fun it s₂ h₂ => ?_) fun _ _ e => e) fun _ _ e => e)
  obtain ⟨I, fp, n, P, St, M, Inv, rfl, q, hQ⟩ := h₂
  refine comp_blockM (RR := fun acc C => compPost (model prog w) A E none Q acc C) hcell hkind hx q ?_
  intro D C h' tk m' ys hD hC hDC hn ⟨c, hpl⟩ hlen hinv hk
  have hIs : I < s₂.heap.objs.size := q.fpl _ (q.W.sub _ (List.mem_singleton.mpr rfl))
  refine ⟨m', hn, fun h'' hs'' => hQ D C h'' tk ys c hD hC (hs''.extBut _ _ hDC hpl) hlen (q.stab _ _ _ _ _ _ hC hD hinv fun b o _ h2 _ e => hs''.extBut b o h2 e) fun b o hbI hbM e => hs''.extBut b o ?_ (hk b o hbI hbM e)⟩
  rintro rfl
  exact absurd (Heap.lt_size e) (Nat.not_lt.mpr hC)

theorem Assign_ListCompM {s : Shared} {elt iter : PySem.Expr} {x y : Str} {px py : Pos} {scope : Scope} {cl : List (Str × Addr)} {pos spos : Pos} {Q : Flow → Shared → Prop}
    (hsw : swapsWith (.ListComp elt [⟨.Name x px, iter, [], 0⟩] scope pos) (some (.Name y py)) spos.line env = pure true)
    (hclos : closureFor scope env = pure cl) (hcell : ∀ z ∈ scope.names, z.2 ≠ .cell) (hkind : scope.kind = .function)
    (hnames : ∀ z ∈ scope.names, z.2 = .local → scope.names.lookup z.1 = some .local) (hx : scope.names.lookup x = some .local)
    (hy : env.kindOf y = some .local) (hp : (env.scope.kind == .class || (env.scope.kind == .module && env.locals != env.globals)) = false)
    (h : wpAny (model prog w) A (eval iter env) (fun xv s₁ => wpAny (model prog w) A (pyIter xv) (fun it s₂ => ∃ I fp n P St M Inv m, it = .ref I ∧ CompM prog w A env scope cl x elt I fp n P St M Inv s₂ ∧ env.locals ∉ M ∧ env.locals ≠ I ∧ s₂.heap.Ns env.locals m ∧
      (∀ C D h h', s₂.heap.objs.size ≤ C → s₂.heap.objs.size ≤ D → ∀ ys, Inv C D n ys h → (∀ b o, b ≠ env.locals → h.get? b = some o → h'.get? b = some o) → Inv C D n ys h') ∧
      (∀ D C h' tk (ys : List Value) c, s₂.heap.objs.size ≤ D → s₂.heap.objs.size ≤ C → h'.get? D = some (listOf ys.toArray c) → ys.length = n → Inv C D n ys h' → h'.Ns env.locals (fun z => if z = y then some (.ref D) else m z) →
        (∀ b o, b ≠ env.locals → b ≠ I → b ∉ M → s₂.heap.get? b = some o → h'.get? b = some o) → Q .next { s₂ with heap := h', toks := tk })) E s₁) E s)
    (hs : ∀ x, foldedSetIterable iter env x = pure x) :
    wpAny (model prog w) A (exec (.Assign [.Name y py] (.ListComp elt [⟨.Name x px, iter, [], 0⟩] scope pos) spos) env) Q E s := by
  rw [exec_Assign_Name_used _ _ _ _ hsw]
  refine wpAny_bind (wpAny_standAt (wpAny_bind ?_))
  show wpAny _ A (do let _ ← comprehension (.ListComp elt [⟨.Name x px, iter, [], 0⟩] scope pos) scope env _ (newList []) false (eval iter env) (some (assign (.Name y py) env))) _ _ s
  refine wpAny_bind (wpAny_mono (wpAny_comprehension_free (use := some (assign (.Name y py) env)) (Q := fun _ s' => Q .next s') rfl hs hclos hkind hnames
    (wpAny_mono h (fun xv s₁ h₁ => wpAny_mono h₁ (fun it s₂ h₂ => ?_) fun _ _ e => e) fun _ _ e => e)) (fun _ s' hq => wpAny_pure (wpAny_pure hq)) fun _ _ e => e)
  obtain ⟨I, fp, n, P, St, M, Inv, m, rfl, q, hLM, hLI, hn, hstL, hQ⟩ := h₂
  refine comp_blockM (RR := fun acc C => compPost (model prog w) A E (some (assign (.Name y py) env)) (fun _ s' => Q .next s') acc C) hcell hkind hx q ?_
  intro D C h' tk m' ys hD hC hDC hnC ⟨c, hpl⟩ hlen hinv hk
  obtain ⟨oL, _, _, hoL, _⟩ := id hn
  have hLlt := Heap.lt_size hoL
  have hLC : env.locals ≠ C := Nat.ne_of_lt (Nat.lt_of_lt_of_le hLlt hC)
  have hLD : env.locals ≠ D := Nat.ne_of_lt (Nat.lt_of_lt_of_le hLlt hD)
  show wpAny _ A (assign (.Name y py) env (.ref D)) _ _ _
  refine wpAny_assign_Name (wpAny_storeName_local hy (hn.at' fun o e => hk _ o hLI hLM e) (fun h₂ hn₂ hs₂ => ?_) hp)
  refine ⟨m', hnC.sameBut hs₂ (Ne.symm hLC), fun h₃ hs₃ => ?_⟩
  refine hQ D C h₃ _ ys c hD hC (hs₃.extBut _ _ hDC (hs₂.extBut _ _ (Ne.symm hLD) hpl)) hlen ?_ (hn₂.sameBut hs₃ hLC) fun b o hbL hbI hbM e => ?_
  · exact q.stab _ _ _ _ _ _ hC hD (hstL _ _ _ _ hC hD _ hinv fun b o hb e => hs₂.extBut b o hb e) fun b o _ h2 _ e => hs₃.extBut b o h2 e
  · exact hs₃.extBut b o (by rintro rfl; exact absurd (Heap.lt_size e) (Nat.not_lt.mpr hC)) (hs₂.extBut b o hbL (hk b o hbI hbM e))
end
end Mine
end

section
open PySem PySem.W PySem.Calls PyProof.Rows
namespace Mine
section
variable {prog : Program} {w : World} {dp un : Nat} {fr : Option (List Env)} {gd : Option (List Code)} {E Q : Value → Shared → Prop} {s : Shared} {K : Frag} {B : Heap} {p : Program} {loose : List Str} {mean : ExcName → Option Value} {mg mb : Str → Option Value}
  {name qual : Str} {params : Arguments} {body : List Stmt} {scope : Scope} {dV kV doc pm cdv ct oc : Value} {an od : Option Addr} {osl : Array (Option Value)} {f : Addr} {args : List Value} {binds : List (Str × Value)}

theorem enterGC (X : K.In B) (T : Top p loose mean mg mb B) (st : B.StaysIn s.heap) (mods : List (Addr × Obj)) (hm : ∀ q ∈ mods, s.heap.get? q.1 = some q.2 ∧ B.get? q.1 = none)
    (hroom : dp < recursionLimit)
    (ho : K.lookup f = some ⟨oc, od, .func (fnOf name qual params body scope dV kV doc pm an cdv ct), osl⟩) (hcd : codeIn K cdv qual = true)
    (hbind : BindsTo s (fnOf name qual params body scope dV kV doc pm an cdv ct) ⟨args, []⟩ binds)
    (hkind : (binds.all fun y => scope.names.lookup y.1 == some .local || scope.names.lookup y.1 == some .cell) = true)
    (hnd : ((cellsFrom 0 scope.names []).map (·.1)).Nodup)
    (h : ∀ g L' h₁ tk cells, Fr g L' h₁ (bindL (envOfC qual scope L' f cdv).kindOf binds fun _ => none) → News g L' h₁ (cells ++ mods) →
      CellsAre (bindC (envOfC qual scope L' f cdv).kindOf binds fun _ => none) (cellsFrom (L' + 1) scope.names []) cells → K.In g → Top p loose mean mg mb g → B.StaysIn g → GSub s.heap g (mods.map (·.1)) → (∀ q ∈ mods, q.1 < L') → s.heap.StaysIn h₁ →
      wpAny (model prog w) ((Au dp un fr gd).deeper (envOfC qual scope L' f cdv)) (execs body (envOfC qual scope L' f cdv))
        (fun fl s' => Q (match fl with | .ret v => v | _ => .none) s') (fun _ _ => False) { s with heap := h₁, toks := tk })
    (hco : scope.isCoroutine = false) (hgen : scope.isGenerator = false) (hk : scope.kind = .function) : wpAny (model prog w) (Au dp un fr gd) (call (.ref f) args) Q E s := by
  have st' : B.StaysIn (hideAll s.heap (mods.map (·.1))) := fun b o e => hideAll_get _ (st b o e) (fun q => by
    obtain ⟨p, hp, rfl⟩ := List.mem_map.mp q
    rw [(hm p hp).2] at e; cases e)
  have X2 := X.keeps st'
  have T2 := T.keeps st'
  refine wpAny_call (codeAny_call_function hroom ((X.keeps st) _ _ ho) rfl hco hgen rfl (codeRec_of (X.keeps st) hcd) (hbind _ _ _ _ ?_))
  refine wpAny_newFunctionEnv_cells hk (kindsX hkind _) fun env' he s' x => ?_
  subst he
  refine ⟨(T.nolimit.keeps st).keeps x.toInCall.keep, codeAny_func ?_⟩
  obtain ⟨h₁, tk, rfl, _⟩ := x.done
  have hk₁ := x.toInCall.keep
  obtain ⟨cells, NC, Y⟩ := Cl.news (h₀ := s.heap) (Nat.le_refl _) fun n c hm => ⟨x.cell n c (lookup_of_mem_nodup (cellsFrom_names scope.names 0 (s.heap.objs.size + 1) [] [] rfl ▸ hnd) hm), x.above n c hm⟩
  refine wpAny_mono (h (hideAll s.heap (mods.map (·.1))) s.heap.objs.size h₁ tk cells ⟨x.toInCall.ns, fun b o e => hk₁ b o (of_hideAll _ e), Nat.le_of_eq (hideAll_size _ _)⟩ (fun p hp => ?_) Y X2 T2 st' (fun b o e n => hideAll_get _ e n) (fun q hq => Heap.lt_size (hm q hq).1) hk₁) (fun fl s' hl => hl) fun _ _ y => y.elim
  rcases List.mem_append.mp hp with hp | hp
  · refine ⟨(NC p hp).1, (NC p hp).2.1, ?_⟩
    cases q : (hideAll s.heap (mods.map (·.1))).get? p.1 with
    | none => rfl
    | some o => have := of_hideAll _ q; rw [(NC p hp).2.2] at this; cases this
  · exact ⟨hk₁ _ _ (hm p hp).1, Nat.ne_of_lt (Heap.lt_size (hm p hp).1), hideAll_none _ (List.mem_map_of_mem hp)⟩
end

/-! names within a comprehension's block -/
section
variable {M : Model} {A : Around} {E : Value → Shared → Prop} {s : Shared} {env : Env} {Q : Value → Shared → Prop} {x : Str} {pos : Pos} {v : Value}
theorem nameB_L {C : Addr} {m : Str → Option Value} (hn : s.heap.Ns C m) (hv : m x = some v) (h : Q v s) (hk : env.scope.kind = .function) (hl : env.kindOf x = some .local) (hL : env.locals = C) (hd : (x == ("__debug__" : Str)) = false) :
    wpAny M A (eval (.Name x pos) env) Q E s := by subst hL; exact wpAny_Name (wpAny_loadName_local hk hl hn hv h) hd
theorem nameB_C {c : Addr} {o : Obj} (hc : env.cells.lookup x = some c) (ho : s.heap.get? c = some o) (hd : o.data = .cell (some v)) (h : Q v s) (hk : env.scope.kind = .function) (hx : env.kindOf x = some .cell) (hb : (x == ("__debug__" : Str)) = false) :
    wpAny M A (eval (.Name x pos) env) Q E s := wpAny_Name (wpAny_loadName_cell hk hx hc ⟨o, ho, hd⟩ h) hb
theorem nameB_K {K : Frag} {B : Heap} {p : Program} {loose : List Str} {mg mb : Str → Option Value} (X : K.In B) (T : TopRead p loose mg mb B) (kp : B.StaysIn s.heap)
    (e : nsIn K mainGlobals x = some (some v)) (h : Q v s) (hg : env.globals = mainGlobals) (hk : env.scope.kind = .function) (hx : env.kindOf x = some .globalImplicit) (hd : (x == ("__debug__" : Str)) = false) :
    wpAny M A (eval (.Name x pos) env) Q E s :=
  Name_function_global hk hx (loadGlobal_global (env := env) (by rw [hg]; exact T.g.keeps kp) (mg_of X T.g e) h) hd
end
/-- a frame's facts go on where base and namespace are kept -/
theorem fr_at {g h h' : Heap} {L : Addr} {m : Str → Option Value} (F : Fr g L h m) (k : ∀ b o, (b = L ∨ ∃ o', g.get? b = some o') → h.get? b = some o → h'.get? b = some o) : Fr g L h' m :=
  ⟨F.ns.at' fun o e => k L o (.inl rfl) e, fun b o e => k b o (.inr ⟨o, e⟩) (F.keep b o e), F.above⟩
end Mine
end

section
open PySem PySem.W PySem.Calls PyProof.Rows
namespace Mine
section
variable {prog : Program} {w : World} {A : Around} {E : Value → Shared → Prop} {s : Shared} {env : Env} {h₀ : Heap} {x : Str} {body : List Stmt} {Q : Flow → Shared → Prop}

def CEnd (h₀ : Heap) (L I ca : Addr) (oI : Obj) (J : (Str → Option Value) → List (Addr × Obj) → Prop) (s₁ : Shared) (Q : Flow → Shared → Prop) (f : Flow) (s₂ : Shared) : Prop :=
  match f with
  | .ret v => Q (.ret v) s₂
  | .brk => Q .next s₂
  | _ => ∃ h' tk m' news' oc, s₂ = { s₁ with heap := h', toks := tk } ∧ Fr h₀ L h' m' ∧ News h₀ L h' ((I, oI) :: (ca, oc) :: news') ∧ (∃ v, oc.data = .cell v) ∧ (∀ q ∈ news', q.1 ≠ I ∧ q.1 ≠ ca) ∧ J m' news'
theorem cend_next {h' : Heap} {L I ca : Addr} {oI oc : Obj} {J : (Str → Option Value) → List (Addr × Obj) → Prop} {s₁ : Shared} {tk : Nat} {m' : Str → Option Value} {news' : List (Addr × Obj)}
    (F : Fr h₀ L h' m') (N : News h₀ L h' ((I, oI) :: (ca, oc) :: news')) (ho : ∃ v, oc.data = .cell v) (hn : ∀ q ∈ news', q.1 ≠ I ∧ q.1 ≠ ca) (hj : J m' news') : CEnd h₀ L I ca oI J s₁ Q .next { s₁ with heap := h', toks := tk } :=
  ⟨h', tk, m', news', oc, rfl, F, N, ho, hn, hj⟩

theorem iter_range_C {r ca L : Addr} {px : Pos} {n : Int} {t u v : Tok} {oc₀ : Obj} {m₀ : Str → Option Value} {news : List (Addr × Obj)} (J : Nat → (Str → Option Value) → List (Addr × Obj) → Prop)
    (hk : env.scope.kind = .function) (hx : env.kindOf x = some .cell) (hc : env.cells.lookup x = some ca)
    (hh : A.handled = none) (hr : IsRange s.heap r 0 n 1 t u v) (hlo : -(2 ^ 62) ≤ n) (hhi : n < 2 ^ 62) (F : Fr h₀ L s.heap m₀) (N : News h₀ L s.heap ((ca, oc₀) :: news)) (hoc : ∃ v, oc₀.data = .cell v) (hnc : ∀ q ∈ news, q.1 ≠ ca) (hj : J 0 m₀ news)
    (turn : ∀ (i : Nat) tv m₁ news₁ h tk I oI oc, (i : Int) < n → J i m₁ news₁ → oc.data = .cell (some (.int (i : Int) tv)) → Fr h₀ L h m₁ → News h₀ L h ((I, oI) :: (ca, oc) :: news₁) → (∀ q ∈ news₁, q.1 ≠ I ∧ q.1 ≠ ca) → ca < I →
      wpAny (model prog w) A (execs body env) (CEnd h₀ L I ca oI (J (i + 1)) { s with heap := h, toks := tk } Q) (fun _ _ => False) { s with heap := h, toks := tk })
    (done : ∀ m₁ news₁ h tk oc, J n.toNat m₁ news₁ → Fr h₀ L h m₁ → News h₀ L h ((ca, oc) :: news₁) → (∃ v, oc.data = .cell v) → Q .next { s with heap := h, toks := tk }) :
    wpAny (model prog w) A (pyIter (.ref r)) (fun it s₂ => codeAny (model prog w) A (.forLoop (.Name x px) it body [] env) (fun r s' => match r with | .ok f => Q f s' | .error e => cameBackBy (model prog w) A env E e s') s₂) E s := by
  refine wpAny_pyIter_range hr (small_one (by decide) (by decide) hlo hhi) ?_
  have hsz : Builtin.Range.rangeSize 0 n 1 = (n.toNat : Int) := by rw [rangeSize_one]; split <;> lia
  have hI : h₀.get? s.heap.objs.size = none := by
    cases e : h₀.get? s.heap.objs.size with
    | none => rfl
    | some o => exact absurd (Nat.lt_of_lt_of_le (Heap.lt_size e) (Nat.le_trans F.above (Nat.le_of_lt F.ns.lt))) (Nat.lt_irrefl _)
  have hLI : L ≠ s.heap.objs.size := Nat.ne_of_lt F.ns.lt
  have hcaI : ca < s.heap.objs.size := Heap.lt_size (N (ca, oc₀) (.head _)).1
  generalize hIe : s.heap.objs.size = I at hI hLI hcaI ⊢
  have W := Walks.range (prog := prog) (w := w) hh I 0 1 n.toNat
  have st0 : IsRangeIter (s.heap.push { cls := .type "range_iterator", data := .fields #[rawInt 0, rawInt (Builtin.Range.rangeSize 0 n 1), rawInt 1] }) I (0 + ((0 : Nat) : Int) * 1) ((n.toNat : Int) - ((0 : Nat) : Int)) 1 := by
    have e1 : (0 + ((0 : Nat) : Int) * 1) = 0 := by simp
    have e2 : ((n.toNat : Int) - ((0 : Nat) : Int)) = Builtin.Range.rangeSize 0 n 1 := by rw [hsz]; simp
    rw [e1, e2, ← hIe]
    exact Heap.get?_push_size _ rfl
  refine codeAny_forLoop
    (fun k s' => ∃ h' tk m' news' oc i, s' = { s with heap := h', toks := tk } ∧ IsRangeIter h' I (0 + (i : Nat) * 1) ((n.toNat : Int) - (i : Nat)) 1 ∧ Fr h₀ L h' m' ∧ News h₀ L h' ((ca, oc) :: news') ∧ (∃ v, oc.data = .cell v) ∧ (∀ q ∈ news', q.1 ≠ I ∧ q.1 ≠ ca) ∧ J i m' news' ∧ i ≤ n.toNat ∧ k = n.toNat + 1 - i) ?_ (n.toNat + 1)
    ⟨_, s.toks, m₀, news, oc₀, 0, rfl, st0, F.push _, (fun q hq => ⟨Heap.get?_push_of_some _ (N q hq).1, (N q hq).2⟩), hoc, (fun q hq => ⟨hIe ▸ Nat.ne_of_lt (Heap.lt_size (N q (.tail _ hq)).1), hnc q hq⟩), hj, Nat.zero_le _, rfl⟩
  rintro k s' ⟨h', tk, m', news', oc, i, rfl, hst, F', N', hoc', hn', hJ, hi, rfl⟩
  have next : ∀ h₁ : Heap, (∀ b o, b ∉ [I] → h'.get? b = some o → h₁.get? b = some o) → Fr h₀ L h₁ m' ∧ News h₀ L h₁ ((ca, oc) :: news') := fun h₁ hk₁ =>
    ⟨fr_at F' fun b o hb e => hk₁ b o (fun q => by
      have q := List.mem_singleton.mp q
      rcases hb with hb | ⟨o', hb⟩
      · exact hLI (hb.symm.trans q)
      · rw [q, hI] at hb; cases hb) e, fun q hq => ⟨hk₁ _ _ (fun z => by
        have z := List.mem_singleton.mp z
        rcases List.mem_cons.mp hq with rfl | hq
        · exact Nat.ne_of_lt hcaI z
        · exact (hn' q hq).1 z) (N' q hq).1, (N' q hq).2⟩⟩
  by_cases hlt : i < n.toNat
  · refine W.item i _ _ _ hlt hst fun v' h₁ tk₁ ⟨tv, hv⟩ hst₁ hk₁ => ?_
    subst hv
    obtain ⟨F₁, N₁⟩ := next h₁ hk₁
    have e0 : (0 + (i : Int) * 1) = (i : Int) := by lia
    rw [e0]
    obtain ⟨v₀, hv₀⟩ := hoc'
    refine wpAny_assign_Name (wpAny_storeName_cell hk hx hc ⟨oc, (N₁ (ca, oc) (.head _)).1, hv₀⟩ fun h₂ hv₂ hs₂ => ?_)
    obtain ⟨oc₂, ho₂, hd₂⟩ := hv₂
    have hcaL : ca ≠ L := (N₁ (ca, oc) (.head _)).2.1
    have hca0 : h₀.get? ca = none := (N₁ (ca, oc) (.head _)).2.2
    have F₂ : Fr h₀ L h₂ m' := fr_at F₁ fun b o hb e => hs₂.extBut b o (fun q => by
      rcases hb with hb | ⟨o', hb⟩
      · exact hcaL (q.symm.trans hb)
      · rw [q, hca0] at hb; cases hb) e
    obtain ⟨oI, hoIe, hoI⟩ : ∃ oI : Obj, oI = { cls := .type "range_iterator", dict := none, data := .fields #[rawInt (0 + ((i + 1 : Nat) : Int) * 1), rawInt ((n.toNat : Int) - ((i + 1 : Nat) : Int)), rawInt 1], slots := #[] } ∧ h₂.get? I = some oI := ⟨_, rfl, hs₂.extBut _ _ (Ne.symm (Nat.ne_of_lt hcaI)) hst₁⟩
    have N₂ : News h₀ L h₂ ((I, oI) :: (ca, oc₂) :: news') := fun q hq => by
      rcases List.mem_cons.mp hq with rfl | hq
      · exact ⟨hoI, Ne.symm hLI, hI⟩
      · rcases List.mem_cons.mp hq with rfl | hq
        · exact ⟨ho₂, hcaL, hca0⟩
        · have := N₁ q (.tail _ hq)
          exact ⟨hs₂.extBut _ _ (hn' q hq).2 this.1, this.2⟩
    refine wpAny_mono (turn i tv m' news' h₂ tk₁ I oI oc₂ (Int.lt_toNat.mp hlt) hJ hd₂ F₂ N₂ hn' hcaI) (fun f s₃ h₃ => ?_) fun _ _ e => e.elim
    have fin : (∃ h'' tk m'' news'' oc', s₃ = { s with heap := h'', toks := tk } ∧ Fr h₀ L h'' m'' ∧ News h₀ L h'' ((I, oI) :: (ca, oc') :: news'') ∧ (∃ v, oc'.data = .cell v) ∧ (∀ q ∈ news'', q.1 ≠ I ∧ q.1 ≠ ca) ∧ J (i + 1) m'' news'') →
        ∃ k', k' < n.toNat + 1 - i ∧ ∃ h' tk m' news' oc i', s₃ = { s with heap := h', toks := tk } ∧ IsRangeIter h' I (0 + (i' : Nat) * 1) ((n.toNat : Int) - (i' : Nat)) 1 ∧ Fr h₀ L h' m' ∧ News h₀ L h' ((ca, oc) :: news') ∧ (∃ v, oc.data = .cell v) ∧ (∀ q ∈ news', q.1 ≠ I ∧ q.1 ≠ ca) ∧ J i' m' news' ∧ i' ≤ n.toNat ∧ k' = n.toNat + 1 - i' := by
      rintro ⟨h'', tk, m'', news'', oc', rfl, F₃, N₃, ho₃, hn₃, hJ₃⟩
      exact ⟨n.toNat + 1 - (i + 1), left_lt hlt, h'', tk, m'', news'', oc', i + 1, rfl, (by have := (N₃ _ (.head _)).1; rw [hoIe] at this; exact this), F₃, fun q hq => N₃ q (.tail _ hq), ho₃, hn₃, hJ₃, hlt, rfl⟩
    cases f with
    | ret v => exact h₃
    | brk => exact h₃
    | next => exact fin h₃
    | cont => exact fin h₃
  · have hin : i = n.toNat := by lia
    subst hin
    refine W.done _ _ _ hst fun h₁ tk₁ hk₁ => wpAny_execs_nil ?_
    obtain ⟨F₁, N₁⟩ := next h₁ hk₁
    exact done m' news' h₁ tk₁ oc hJ F₁ N₁ hoc'
end
end Mine
end

section
open PySem PySem.W PySem.Calls PyProof.Rows
namespace Mine
section
variable {prog : Program} {w : World} {A : Around} {E : Value → Shared → Prop} {env : Env}
/-- a comprehension over a list whose element may make new objects -/
structure CompL (prog : Program) (w : World) (A : Around) (env : Env) (scope : Scope) (cl : List (Str × Addr)) (x : Str) (elt : PySem.Expr) (vs : List Value) (V : (Addr → Prop) → Nat → List Value → Heap → Prop) (s : Shared) : Prop where
  sz : vs.length ≤ 1000
  stab : ∀ G i ys h h', V G i ys h → (∀ b o, G b → h.get? b = some o → h'.get? b = some o) → V G i ys h'
  init : ∀ G, V G 0 [] s.heap
  elt : ∀ C G i v ys s₃ m₃, s.heap.objs.size ≤ C → vs[i]? = some v → ys.length = i → V G i ys s₃.heap → s₃.heap.Ns C m₃ → m₃ x = some v → (∃ h tk, s₃ = { s with heap := h, toks := tk }) → s.heap.StaysIn s₃.heap → (∀ b, s₃.heap.objs.size ≤ b → G b) →
    wpAny (model prog w) A (eval elt (compEnvC scope cl C env)) (fun y s₄ => ∃ h' tk, s₄ = { s₃ with heap := h', toks := tk } ∧ s₃.heap.StaysIn h' ∧ V G (i + 1) (ys ++ [y]) h') (fun _ _ => False) s₃

theorem CompL.toM {scope : Scope} {cl : List (Str × Addr)} {x : Str} {elt : PySem.Expr} {vs : List Value} {V : (Addr → Prop) → Nat → List Value → Heap → Prop} {s : Shared} {l e0 : Addr} (hh : A.handled = none) (hl : s.heap.IsList l vs.toArray) (he : ∃ o, s.heap.get? e0 = some o)
    (q : CompL prog w A env scope cl x elt vs V s) :
    CompM prog w A env scope cl x elt s.heap.objs.size [s.heap.objs.size, l] vs.length (fun i v => vs.toArray[i]? = some v) (fun i h => h.IsListIter s.heap.objs.size l i ∧ h.IsList l vs.toArray) []
      (fun C D i ys h => V (fun b => b ≠ s.heap.objs.size ∧ b ≠ C ∧ b ≠ D ∧ b ≠ e0) i ys h) { s with heap := s.heap.push { cls := .type "list_iterator", data := .fields #[.ref l, .int 0 0] } } := by
  obtain ⟨hA, gg, dd, tt, os⟩ := s
  dsimp only at *
  obtain ⟨ol, hol, _⟩ := id hl
  obtain ⟨oe, hoe⟩ := he
  have hlt := Heap.lt_size hol
  have hne : l ≠ hA.objs.size := Nat.ne_of_lt hlt
  have W := Walks.list (prog := prog) (w := w) hh hA.objs.size l hne vs.toArray
  have hlen : vs.toArray.size = vs.length := by simp
  rw [hlen] at W
  refine ⟨W, q.sz, ⟨⟨_, Heap.get?_push_size _ rfl, rfl, rfl⟩, hl.push _⟩, ?fpl, fun i h e => let ⟨o, e, _⟩ := e.1; ⟨o, e⟩, fun b hb => (nomatch hb), ?init, ?stab, ?elt⟩
  case fpl =>
    intro b hb
    rw [Heap.size_push]
    rcases List.mem_cons.mp hb with rfl | hb
    · exact Nat.lt_succ_self _
    · rw [List.mem_singleton.mp hb]; exact Nat.lt_succ_of_lt hlt
  case init => exact fun C D _ _ => q.stab _ _ _ _ _ (q.init _) fun b o _ e => Heap.get?_push_of_some _ e
  case stab => exact fun C D i ys h h' _ _ hv k => q.stab _ _ _ _ _ hv fun b o hb e => k b o hb.1 hb.2.1 hb.2.2.1 e
  case elt =>
    rintro C D i v ys s₃ m₃ hC hD hi hv hlen hI hn hm ⟨oD, hoD⟩ ⟨oI, hoI⟩ ⟨h, tk, rfl⟩ hk
    rw [Heap.size_push] at hC
    have hk0 : hA.StaysIn h := fun b o e => hk b o (Nat.ne_of_lt (Heap.lt_size e)) (fun z => nomatch z) (Heap.get?_push_of_some _ e)
    obtain ⟨oC, _, _, hoC, _⟩ := id hn
    refine wpAny_mono (q.elt C _ i v ys _ m₃ (Nat.le_of_succ_le hC) (by simpa using hv) hlen hI hn hm ⟨h, tk, rfl⟩ hk0 fun b hb => ⟨Nat.ne_of_gt (Nat.lt_of_lt_of_le (Heap.lt_size hoI) hb), Nat.ne_of_gt (Nat.lt_of_lt_of_le (Heap.lt_size hoC) hb), Nat.ne_of_gt (Nat.lt_of_lt_of_le (Heap.lt_size hoD) hb), Nat.ne_of_gt (Nat.lt_of_lt_of_le (Heap.lt_size (hk0 _ _ hoe)) hb)⟩) (fun y s₄ h₄ => ?_) fun _ _ e => e
    obtain ⟨h', tk', rfl, hk4, hv4⟩ := h₄
    exact ⟨h', tk', rfl, fun b o _ e => hk4 b o e, hv4⟩

theorem ListComp_list {s : Shared} {elt iter : PySem.Expr} {x : Str} {px : Pos} {scope : Scope} {cl : List (Str × Addr)} {pos : Pos} {Q : Value → Shared → Prop}
    (hclos : closureFor scope env = pure cl) (hcell : ∀ y ∈ scope.names, y.2 ≠ .cell) (hkind : scope.kind = .function)
    (hnames : ∀ y ∈ scope.names, y.2 = .local → scope.names.lookup y.1 = some .local) (hx : scope.names.lookup x = some .local) (hh : A.handled = none)
    (h : wpAny (model prog w) A (eval iter env) (fun xv s₁ => ∃ l vs V, xv = .ref l ∧ s₁.heap.IsList l (List.toArray vs) ∧ CompL prog w A env scope cl x elt vs V s₁ ∧
      (∀ D G h' tk (ys : List Value) c, s₁.heap.objs.size ≤ D → h'.get? D = some (listOf ys.toArray c) → ys.length = vs.length → V G vs.length ys h' → s₁.heap.StaysIn h' → Q (.ref D) { s₁ with heap := h', toks := tk })) E s)
    (hs : ∀ x, foldedSetIterable iter env x = pure x) :
    wpAny (model prog w) A (eval (.ListComp elt [⟨.Name x px, iter, [], 0⟩] scope pos) env) Q E s := by
  refine ListCompM hclos hcell hkind hnames hx (wpAny_mono h (fun xv s₁ h₁ => ?_) fun _ _ e => e) hs
  obtain ⟨l, vs, V, rfl, hl, q, hQ⟩ := h₁
  refine wpAny_pyIter_list hl ?_
  have he : ∃ o, s₁.heap.get? l = some o := let ⟨o, e, _⟩ := hl; ⟨o, e⟩
  refine ⟨_, _, _, _, _, _, _, rfl, q.toM (e0 := l) hh hl he, ?_⟩
  intro D C h' tk ys c hD hC hget hlen hI hk
  rw [Heap.size_push] at hD
  exact hQ D _ h' tk ys c (Nat.le_of_succ_le hD) hget hlen hI fun b o e => hk b o (Nat.ne_of_lt (Heap.lt_size e)) (fun z => nomatch z) (Heap.get?_push_of_some _ e)

theorem Assign_ListComp_list {s : Shared} {elt iter : PySem.Expr} {x y : Str} {px py : Pos} {scope : Scope} {cl : List (Str × Addr)} {pos spos : Pos} {Q : Flow → Shared → Prop}
    (hsw : swapsWith (.ListComp elt [⟨.Name x px, iter, [], 0⟩] scope pos) (some (.Name y py)) spos.line env = pure true)
    (hclos : closureFor scope env = pure cl) (hcell : ∀ z ∈ scope.names, z.2 ≠ .cell) (hkind : scope.kind = .function)
    (hnames : ∀ z ∈ scope.names, z.2 = .local → scope.names.lookup z.1 = some .local) (hx : scope.names.lookup x = some .local)
    (hy : env.kindOf y = some .local) (hp : (env.scope.kind == .class || (env.scope.kind == .module && env.locals != env.globals)) = false) (hh : A.handled = none)
    (h : wpAny (model prog w) A (eval iter env) (fun xv s₁ => ∃ l vs V m, xv = .ref l ∧ s₁.heap.IsList l (List.toArray vs) ∧ CompL prog w A env scope cl x elt vs V s₁ ∧ s₁.heap.Ns env.locals m ∧
      (∀ D G h' tk (ys : List Value) c, s₁.heap.objs.size ≤ D → h'.get? D = some (listOf ys.toArray c) → ys.length = vs.length → V G vs.length ys h' → h'.Ns env.locals (fun z => if z = y then some (.ref D) else m z) →
        (∀ b o, b ≠ env.locals → s₁.heap.get? b = some o → h'.get? b = some o) → (∀ b, G b → b ≠ D) → Q .next { s₁ with heap := h', toks := tk })) E s)
    (hs : ∀ x, foldedSetIterable iter env x = pure x) :
    wpAny (model prog w) A (exec (.Assign [.Name y py] (.ListComp elt [⟨.Name x px, iter, [], 0⟩] scope pos) spos) env) Q E s := by
  refine Assign_ListCompM hsw hclos hcell hkind hnames hx hy hp (wpAny_mono h (fun xv s₁ h₁ => ?_) fun _ _ e => e) hs
  obtain ⟨l, vs, V, m, rfl, hl, q, hn, hQ⟩ := h₁
  refine wpAny_pyIter_list hl ?_
  obtain ⟨oL, _, _, hoL, _⟩ := id hn
  refine ⟨_, _, _, _, _, _, _, m, rfl, q.toM (e0 := env.locals) hh hl ⟨_, hoL⟩, (fun z => nomatch z), Nat.ne_of_lt (Heap.lt_size hoL), hn.push _, ?_, ?_⟩
  · exact fun C D h h' _ _ ys hv k => q.stab _ _ _ _ _ hv fun b o hb e => k b o hb.2.2.2 e
  · intro D C h' tk ys c hD hC hget hlen hI hns hk
    rw [Heap.size_push] at hD
    exact hQ D _ h' tk ys c (Nat.le_of_succ_le hD) hget hlen hI hns (fun b o hb e => hk b o hb (Nat.ne_of_lt (Heap.lt_size e)) (fun z => nomatch z) (Heap.get?_push_of_some _ e)) fun b hb => hb.2.2.1
end
end Mine
end

section
open PySem PySem.W PySem.Calls PyProof.Rows
namespace Mine
section
variable {prog : Program} {w : World} {A : Around} {R : Result → Shared → Prop} {s : Shared}
/-- a comprehension with one test that looks only at what it is given -/
theorem compLoop_F {elt iter c : PySem.Expr} {x : Str} {px : Pos} {scope : Scope} {pos : Pos} {I D : Addr} {fp : List Addr} {n : Nat} {P : Nat → Value → Prop} {St : Nat → Heap → Prop}
    {cenv : Env} {m : Str → Option Value} (W : Walks prog w A I fp [I] n P St) (sel : Nat → Bool)
    (hx : cenv.kindOf x = some .local) (hp : (cenv.scope.kind == .class || (cenv.scope.kind == .module && cenv.locals != cenv.globals)) = false)
    (hDC : D ≠ cenv.locals) (hDf : D ∉ fp) (hCf : cenv.locals ∉ fp)
    (hst : St 0 s.heap) (hacc : s.heap.PlainList D #[]) (hn : s.heap.Ns cenv.locals m)
    (htest : ∀ i v s₂ m₂, i < n → P i v → s₂.heap.Ns cenv.locals m₂ → m₂ x = some v → wpAny (model prog w) A (isTrue c cenv (eval c cenv)) (fun ok s₃ => ok = sel i ∧ ∃ tk, s₃ = { s₂ with toks := tk }) (fun _ _ => False) s₂)
    (helt : ∀ s₂, wpAny (model prog w) A (eval elt cenv) (fun _ s₃ => ∃ tk, s₃ = { s₂ with toks := tk }) (fun _ _ => False) s₂)
    (hR : ∀ h' tk m' (ys : List Value), h'.Ns cenv.locals m' → h'.PlainList D ys.toArray → ys.length = ((List.range n).filter sel).length →
      (∀ b o, b ≠ cenv.locals → b ≠ I → b ≠ D → s.heap.get? b = some o → h'.get? b = some o) → R (.ok .next) { s with heap := h', toks := tk })
    (hsz : n ≤ 1000) :
    codeAny (model prog w) A (.compLoop (.ListComp elt [⟨.Name x px, iter, [c], 0⟩] scope pos) 0 (.ref I) (.ref D) cenv) R s := by
  have hIf : I ∈ fp := W.sub I (List.mem_singleton.mpr rfl)
  have hDI : D ≠ I := fun e => hDf (e ▸ hIf)
  have hCI : cenv.locals ≠ I := fun e => hCf (e ▸ hIf)
  have hle : ∀ i, ((List.range i).filter sel).length ≤ i := fun i => by have := List.length_filter_le sel (List.range i); rwa [List.length_range] at this
  refine codeAny_compLoop_tests
    (fun k s' => ∃ h' tk m', ∃ ys : List Value, ∃ i : Nat, s' = { s with heap := h', toks := tk } ∧ St i h' ∧ h'.PlainList D ys.toArray ∧ h'.Ns cenv.locals m' ∧ ys.length = ((List.range i).filter sel).length ∧ i ≤ n ∧ k = n + 1 - i ∧
      (∀ b o, b ≠ cenv.locals → b ≠ I → b ≠ D → s.heap.get? b = some o → h'.get? b = some o)) ?_ (n + 1)
    ⟨s.heap, s.toks, m, [], 0, rfl, hst, hacc, hn, rfl, Nat.zero_le _, rfl, fun _ _ _ _ _ e => e⟩
  rintro k s' ⟨H, tk, m', ys, i, rfl, hst', hacc', hn', hlen, hi, rfl, hk⟩
  by_cases hlt : i < n
  · refine W.item i _ _ _ hlt hst' fun v h₁ tk₁ hPv hst₁ hk₁ => ?_
    have hk₁' : ∀ b o, b ≠ I → H.get? b = some o → h₁.get? b = some o := fun b o hb e => hk₁ b o (fun q => hb (List.mem_singleton.mp q)) e
    refine wpAny_assign_Name (wpAny_storeName_local hx (hn'.at' fun o e => hk₁' _ o hCI e) (fun h₂ hn₂ hs₂ => ?_) hp)
    have up₂ : ∀ b o, b ≠ cenv.locals → b ≠ I → H.get? b = some o → h₂.get? b = some o := fun b o hbC hbI e => hs₂.extBut b o hbC (hk₁' b o hbI e)
    have hst₂ : St (i + 1) h₂ := W.frame _ _ _ hst₁ fun b hb o e => hs₂.extBut b o (fun h => hCf (h ▸ hb)) e
    have hacc₂ : h₂.PlainList D ys.toArray := hacc'.at fun o e => up₂ D o hDC hDI e
    refine wpAny_tests_one (wpAny_mono (htest i v _ _ hlt hPv hn₂ (by simp)) (fun ok s₃ h₃ => ?_) fun _ _ e => e.elim)
    obtain ⟨hok, tk₃, rfl⟩ := h₃
    dsimp only
    cases hb : ok with
    | true =>
      rw [if_pos rfl]
      refine wpAny_mono (helt _) (fun y s₄ h₄ => ?_) fun _ _ e => e.elim
      obtain ⟨tk₄, rfl⟩ := h₄
      have hys : ys.toArray.size ≤ sizeLine := by rw [sizeLine_eq]; have := hle i; simp; lia
      refine wpAny_list_append_plain (hsz := hys) hacc₂ fun h₅ hl₅ hs₅ => ?_
      refine ⟨n + 1 - (i + 1), left_lt hlt, h₅, _, _, ys ++ [y], i + 1, rfl, ?_, by simpa using hl₅, hn₂.sameBut hs₅ (Ne.symm hDC), ?_, hlt, rfl, ?_⟩
      · exact W.frame _ _ h₅ hst₂ fun b hb o e => hs₅.extBut b o (fun h => hDf (h ▸ hb)) e
      · rw [List.range_succ, List.filter_append, List.length_append, List.length_append, hlen]
        simp [← hok, hb]
      · exact fun b o h1 h2 h4 e => hs₅.extBut b o h4 (up₂ b o h1 h2 (hk b o h1 h2 h4 e))
    | false =>
      rw [if_neg (by decide)]
      refine ⟨n + 1 - (i + 1), left_lt hlt, h₂, _, _, ys, i + 1, rfl, hst₂, hacc₂, hn₂, ?_, hlt, rfl, fun b o h1 h2 h4 e => up₂ b o h1 h2 (hk b o h1 h2 h4 e)⟩
      rw [List.range_succ, List.filter_append, List.length_append, hlen]
      simp [← hok, hb]
  · have hin : i = n := by lia
    refine W.done _ _ _ (hin ▸ hst') fun h₁ tk₁ hk₁ => ?_
    have hk₁' : ∀ b o, b ≠ I → H.get? b = some o → h₁.get? b = some o := fun b o hb e => hk₁ b o (fun q => hb (List.mem_singleton.mp q)) e
    exact hR h₁ tk₁ m' ys (hn'.at' fun o e => hk₁' _ o hCI e) (hacc'.at fun o e => hk₁' _ o hDI e) (by rw [hlen, hin]) fun b o h1 h2 h4 e => hk₁' b o h2 (hk b o h1 h2 h4 e)
end
section
variable {prog : Program} {w : World} {A : Around} {E : Value → Shared → Prop} {env : Env}
theorem ListComp_filter {s : Shared} {elt iter c : PySem.Expr} {x : Str} {px : Pos} {scope : Scope} {cl : List (Str × Addr)} {pos : Pos} {Q : Value → Shared → Prop}
    (hclos : closureFor scope env = pure cl) (hcell : ∀ y ∈ scope.names, y.2 ≠ .cell) (hkind : scope.kind = .function)
    (hnames : ∀ y ∈ scope.names, y.2 = .local → scope.names.lookup y.1 = some .local) (hx : scope.names.lookup x = some .local) (hh : A.handled = none)
    (h : wpAny (model prog w) A (eval iter env) (fun xv s₁ => ∃ l vs sel, xv = .ref l ∧ s₁.heap.IsList l (List.toArray vs) ∧ vs.length ≤ 1000 ∧
      (∀ C i v s₂ m₂, vs[i]? = some v → s₂.heap.Ns C m₂ → m₂ x = some v → wpAny (model prog w) A (isTrue c (compEnvC scope cl C env) (eval c (compEnvC scope cl C env))) (fun ok s₃ => ok = sel i ∧ ∃ tk, s₃ = { s₂ with toks := tk }) (fun _ _ => False) s₂) ∧
      (∀ C s₂, wpAny (model prog w) A (eval elt (compEnvC scope cl C env)) (fun _ s₃ => ∃ tk, s₃ = { s₂ with toks := tk }) (fun _ _ => False) s₂) ∧
      (∀ D h' tk (ys : List Value) c, s₁.heap.objs.size ≤ D → h'.get? D = some (listOf ys.toArray c) → ys.length = ((List.range vs.length).filter sel).length → s₁.heap.StaysIn h' → Q (.ref D) { s₁ with heap := h', toks := tk })) E s)
    (hs : ∀ x, foldedSetIterable iter env x = pure x) :
    wpAny (model prog w) A (eval (.ListComp elt [⟨.Name x px, iter, [c], 0⟩] scope pos) env) Q E s := by
  rw [eval_ListComp]
  refine wpAny_comprehension_free (use := none) rfl hs hclos hkind hnames (wpAny_mono h (fun xv s₁ h₁ => ?_) fun _ _ e => e)
  obtain ⟨l, vs, sel, rfl, hl, hsz, htest, helt, hQ⟩ := h₁
  refine wpAny_pyIter_list hl ?_
  obtain ⟨hA, gg, dd, tt, os⟩ := s₁
  dsimp only at *
  obtain ⟨ol, hol, _⟩ := id hl
  have hlt := Heap.lt_size hol
  have hne : l ≠ hA.objs.size := Nat.ne_of_lt hlt
  have W := Walks.list (prog := prog) (w := w) hh hA.objs.size l hne vs.toArray
  have hlen : vs.toArray.size = vs.length := by simp
  rw [hlen] at W
  have hst0 : Heap.IsListIter (hA.push { cls := .type "list_iterator", data := .fields #[.ref l, .int 0 0] }) hA.objs.size l 0 ∧ (hA.push { cls := .type "list_iterator", data := .fields #[.ref l, .int 0 0] }).IsList l vs.toArray := ⟨⟨_, Heap.get?_push_size _ rfl, rfl, rfl⟩, hl.push _⟩
  have hold : ∀ b o, hA.get? b = some o → (hA.push { cls := .type "list_iterator", data := .fields #[.ref l, .int 0 0] }).get? b = some o := fun b o e => Heap.get?_push_of_some _ e
  have hs1 : (hA.push { cls := .type "list_iterator", data := .fields #[.ref l, .int 0 0] }).objs.size = hA.objs.size + 1 := Heap.size_push ..
  generalize hA.push { cls := .type "list_iterator", data := .fields #[.ref l, .int 0 0] } = hB at hst0 hold hs1 ⊢
  refine wpAny_newObj_type (wpAny_newFunctionEnv hcell (by intro y hy; simp at hy) (fun h₁ hns₁ hsb₁ => ?_) hkind)
  dsimp only at hns₁ hsb₁ ⊢
  generalize hH2 : hB.push { cls := .type "list", dict := none, data := .seq ([] : List Value).toArray } = H2 at hns₁ hsb₁ ⊢
  have hC : H2.objs.size = hB.objs.size + 1 := by rw [← hH2, Heap.size_push]
  have hDC : hB.objs.size ≠ H2.objs.size := by rw [hC]; exact Nat.ne_of_lt (Nat.lt_succ_self _)
  have old : ∀ b o, hB.get? b = some o → h₁.get? b = some o := fun b o e => hsb₁.extBut b o (by rw [hC]; exact Nat.ne_of_lt (Nat.lt_succ_of_lt (Heap.lt_size e))) (Heap.get?_push_of_some _ (hH2 ▸ Heap.get?_push_of_some _ e))
  have hacc : h₁.PlainList hB.objs.size #[] := ⟨_, hsb₁.extBut _ _ hDC (Heap.get?_push_of_some _ (hH2 ▸ Heap.get?_push_size _ rfl))⟩
  have hst₁ := W.frame _ _ _ hst0 fun b _ o e => old b o e
  have hDf : hB.objs.size ∉ [hA.objs.size, l] := fun hm => by
    rw [hs1] at hm
    rcases List.mem_cons.mp hm with e | hm
    · exact absurd e (Nat.succ_ne_self _)
    · have h1 : @Eq Nat (hA.objs.size + 1) l := List.mem_singleton.mp hm
      have h2 : @LT.lt Nat _ l hA.objs.size := hlt
      lia
  have hCf : H2.objs.size ∉ [hA.objs.size, l] := fun hm => by
    rw [hC, hs1] at hm
    rcases List.mem_cons.mp hm with e | hm
    · have h1 : @Eq Nat (hA.objs.size + 1 + 1) hA.objs.size := e
      lia
    · have h1 : @Eq Nat (hA.objs.size + 1 + 1) l := List.mem_singleton.mp hm
      have h2 : @LT.lt Nat _ l hA.objs.size := hlt
      lia
  have loop : ∀ s₃ : Shared, s₃ = { heap := h₁, gens := gg, drawn := dd, toks := tt + ([] : List (Str × Value)).length, os := os } →
      codeAny (model prog w) A (.compLoop (.ListComp elt [⟨.Name x px, iter, [c], 0⟩] scope pos) 0 (.ref hA.objs.size) (.ref hB.objs.size) (compEnvC scope cl H2.objs.size env))
        (compPost (model prog w) A E none Q (.ref hB.objs.size) H2.objs.size) s₃ := by
    rintro s₃ rfl
    refine compLoop_F (cenv := compEnvC scope cl H2.objs.size env) W sel (lookup_relabel_local hx) (by simp [compEnvC, relabel, hkind]) hDC hDf hCf hst₁ hacc hns₁ (fun i v s₂ m₂ _ hv hn hm => htest _ i v s₂ m₂ (by simpa using hv) hn hm) (fun s₂ => helt _ s₂) ?_ hsz
    intro h' tk m' ys hn ⟨cc, hpl⟩ hlen hk
    refine ⟨m', hn, fun h'' hs'' => hQ hB.objs.size h'' tk ys cc (by rw [hs1]; exact Nat.le_succ _) (hs''.extBut _ _ hDC hpl) hlen fun b o e => hs''.extBut b o ?_ (hk b o ?_ ?_ ?_ (old b o (hold b o e)))⟩
    all_goals have hb : @LT.lt Nat _ b hA.objs.size := Heap.lt_size e
    · show @Ne Nat b H2.objs.size; rw [hC, hs1]; lia
    · show @Ne Nat b H2.objs.size; rw [hC, hs1]; lia
    · exact Nat.ne_of_lt hb
    · show @Ne Nat b hB.objs.size; rw [hs1]; lia
  exact codeAny_compStart_list (loop _ rfl) (W.self 0 _ _ _ hst₁ (loop _ rfl))
end
end Mine
end

section
open PySem PySem.W PySem.Calls PyProof.Rows
set_option maxHeartbeats 4000000
namespace Mine

theorem make_h {prog : Program} {w : World} {A : Around} {K : Frag} {C : Addr} {s : Shared} {R : Result → Shared → Prop} {rest : List Value} {fI : Addr} (X : K.In s.heap) (hm : makesIn K C = true)
    (hi : findIn K (.ref C) "__init__" = some (some (.ref fI))) (hf : typeIn K (.ref fI) = some (.type "function"))
    (h : ∀ x dx h', s.heap.StaysIn h' → h'.get? x = some (instObj C dx) → h'.get? dx = some (dictOf [] 0) → s.heap.objs.size ≤ dx → x = dx + 1 →
      codeAny (model prog w) (A.under (.builtin "type.__call__" ⟨.ref C :: rest, []⟩)) (.call (.ref fI) ⟨.ref x :: rest, []⟩) (InitBack x R) { s with heap := h' }) :
    codeAny (model prog w) A (.call (.ref C) ⟨rest, []⟩) R s := by
  obtain ⟨hh, g, d, t, os⟩ := s
  refine make_core (makes_of X hm) (looks_findIn X hi) (fun self => bind_fn X self hf) (.inl rfl) (h _ hh.objs.size _ (fun b o e => Heap.get?_push_of_some _ (Heap.get?_push_of_some _ e)) ?_ (Heap.get?_push_of_some _ (Heap.get?_push_size _ rfl)) (Nat.le_refl _) rfl)
  have := Heap.get?_push_size (hh.push emptyDict) (o := instObj C hh.objs.size) rfl
  rwa [Heap.size_push] at this
theorem under_mk (dp un : Nat) (fr : Option (List Env)) (gd : Option (List Code)) (C : Addr) (rest : List Value) : (Au dp un fr gd).under (.builtin "type.__call__" ⟨.ref C :: rest, []⟩) = Au (dp + 1) (un + 1) fr gd := rfl
theorem ne_old {h : Heap} {b dx : Addr} {o : Obj} (e : h.get? b = some o) (hd : h.objs.size ≤ dx) : b ≠ dx := Nat.ne_of_lt (Nat.lt_of_lt_of_le (Heap.lt_size e) hd)
theorem fresh_of {h : Heap} {b : Addr} (e : h.objs.size ≤ b) : h.get? b = none := by
  cases q : h.get? b with
  | none => rfl
  | some o => exact absurd (Heap.lt_size q) (Nat.not_lt.mpr e)
theorem c_cons {w : World} {B : Heap} {mean : ExcName → Option Value} {mg mb : Str → Option Value} (X : (hd.heap_39 w.params).In B) (T : Top hd.view_39 (looseW hd.view_39 [Str.ofString "NIL"]) mean mg mb B)
    {dp un : Nat} {fr : Option (List Env)} {gd : Option (List Code)} {s : Shared} {E Q : Value → Shared → Prop} (st : B.StaysIn s.heap) (hd : dp + 4 < recursionLimit) (hu : un + 20 < cLine)
    {p0 p1 : Value} 
    (h : ∀ x dx h' tk, s.heap.StaysIn h' → h'.get? x = some (instObj 55 dx) → (∃ H1 H2 k1 k2, h'.get? dx = some (dictOf [⟨H1, .str (Str.ofString "car") k1, p0⟩, ⟨H2, .str (Str.ofString "cdr") k2, p1⟩] 2)) → s.heap.objs.size ≤ dx → x = dx + 1 → Q (.ref x) { s with heap := h', toks := tk }) :
    wpAny (model PySem.Challenge.rw_oj0016_01.row.prog w) (Au dp un fr gd) (call (.ref 55) [p0, p1]) Q E s := by
  revert X; k_fill; intro X
  refine' wpAny_call (make_h (fI := 52) (X.keeps st) ?m1 ?m2 ?m3 ?_)
  case m1 => k_is
  case m2 => k_is
  case m3 => k_is
  intro x dx h0 kp0 hx0 hdx0 hdl hdlt
  rw [under_mk]
  have hBd : B.get? dx = none := of_no st (fresh_of hdl)
  have hBx : x ≠ dx := by rw [hdlt]; exact Nat.succ_ne_self dx
  refine' enterC (binds := [("self", .ref x), ("car", p0), ("cdr", p1)]) X T (fun b o e => kp0 b o (st b o e)) [(dx, dictOf [] 0)] ?hm ?hroom ?ho ?hcd ?hbind ?hloc ?_ ?c1 ?c2 ?c3 ?c4
  case hm => exact List.forall_mem_cons.mpr ⟨⟨hdx0, hBd⟩, fun _ h => nomatch h⟩
  (((case hroom => lia); (case ho => k_is); (case hcd => k_is); (case hbind => exact BindsTo.of_eq rfl); (case hloc => exact locs rfl); (case c1 => exact rfl); (case c2 => exact rfl); (case c3 => exact rfl); (case c4 => decide)))
  intro g L' h₁ tk F N X' T' st' gs lt kp
  have hx' := gs _ _ hx0 (by simp [hBx])
  clear X T
  (repeat' (first | ((((fail_if_success (with_reducible show wpAny _ _ (pyIter (Value.ref _)) _ _ _)); (fail_if_success (with_reducible show wpAny _ _ (call (Value.ref _) _) _ _ _)); (fail_if_success (with_reducible show wpAny _ _ (exec (Stmt.While _ _ _ _) _) _ _ _)); (fail_if_success (with_reducible show wpAny _ _ (exec (Stmt.For _ _ _ _ _) _) _ _ _)); (fail_if_success (with_reducible show wpAny _ _ (call (Value.builtin "list.pop") _) _ _ _)); (fail_if_success (with_reducible show wpAny _ _ (compareOp _ (Value.ref _) (Value.ref _)) _ _ _)); (fail_if_success (with_reducible show wpAny _ _ (compareOp CmpOp.NotIn _ (Value.ref _)) _ _ _)); (fail_if_success (with_reducible show wpAny _ _ (subscriptTail _ _ (Value.ref _) (Value.int _ _)) _ _ _)))); walk1) | ((((fail_if_success (with_reducible show wpAny _ _ (pyIter (Value.ref _)) _ _ _)); (fail_if_success (with_reducible show wpAny _ _ (call (Value.ref _) _) _ _ _)); (fail_if_success (with_reducible show wpAny _ _ (exec (Stmt.While _ _ _ _) _) _ _ _)); (fail_if_success (with_reducible show wpAny _ _ (exec (Stmt.For _ _ _ _ _) _) _ _ _)); (fail_if_success (with_reducible show wpAny _ _ (call (Value.builtin "list.pop") _) _ _ _)); (fail_if_success (with_reducible show wpAny _ _ (compareOp _ (Value.ref _) (Value.ref _)) _ _ _)); (fail_if_success (with_reducible show wpAny _ _ (compareOp CmpOp.NotIn _ (Value.ref _)) _ _ _)); (fail_if_success (with_reducible show wpAny _ _ (subscriptTail _ _ (Value.ref _) (Value.int _ _)) _ _ _)))); dsimp only; (((fail_if_success (with_reducible show wpAny _ _ (pyIter (Value.ref _)) _ _ _)); (fail_if_success (with_reducible show wpAny _ _ (call (Value.ref _) _) _ _ _)); (fail_if_success (with_reducible show wpAny _ _ (exec (Stmt.While _ _ _ _) _) _ _ _)); (fail_if_success (with_reducible show wpAny _ _ (exec (Stmt.For _ _ _ _ _) _) _ _ _)); (fail_if_success (with_reducible show wpAny _ _ (call (Value.builtin "list.pop") _) _ _ _)); (fail_if_success (with_reducible show wpAny _ _ (compareOp _ (Value.ref _) (Value.ref _)) _ _ _)); (fail_if_success (with_reducible show wpAny _ _ (compareOp CmpOp.NotIn _ (Value.ref _)) _ _ _)); (fail_if_success (with_reducible show wpAny _ _ (subscriptTail _ _ (Value.ref _) (Value.int _ _)) _ _ _)))); walk1)))
  rename Fr _ _ _ _ => F; rename News _ _ _ _ => N
  exact ⟨rfl, h x dx _ _ (fun b o e => F.keep _ _ (gs _ _ (kp0 b o e) (by simpa using ne_old e hdl))) (F.keep _ _ hx') ⟨_, _, _, _, N.get (.head _)⟩ hdl hdlt⟩
theorem c_vec {w : World} {B : Heap} {mean : ExcName → Option Value} {mg mb : Str → Option Value} (X : (hd.heap_39 w.params).In B) (T : Top hd.view_39 (looseW hd.view_39 [Str.ofString "NIL"]) mean mg mb B)
    {dp un : Nat} {fr : Option (List Env)} {gd : Option (List Code)} {s : Shared} {E Q : Value → Shared → Prop} (st : B.StaysIn s.heap) (hd : dp + 4 < recursionLimit) (hu : un + 20 < cLine)
    {p0 : Value} 
    (h : ∀ x dx h' tk, s.heap.StaysIn h' → h'.get? x = some (instObj 98 dx) → (∃ H k, h'.get? dx = some (dictOf [⟨H, .str (Str.ofString "things") k, p0⟩] 1)) → s.heap.objs.size ≤ dx → x = dx + 1 → Q (.ref x) { s with heap := h', toks := tk }) :
    wpAny (model PySem.Challenge.rw_oj0016_01.row.prog w) (Au dp un fr gd) (call (.ref 98) [p0]) Q E s := by
  revert X; k_fill; intro X
  refine' wpAny_call (make_h (fI := 95) (X.keeps st) ?m1 ?m2 ?m3 ?_)
  case m1 => k_is
  case m2 => k_is
  case m3 => k_is
  intro x dx h0 kp0 hx0 hdx0 hdl hdlt
  rw [under_mk]
  have hBd : B.get? dx = none := of_no st (fresh_of hdl)
  have hBx : x ≠ dx := by rw [hdlt]; exact Nat.succ_ne_self dx
  refine' enterC (binds := [("self", .ref x), ("things", p0)]) X T (fun b o e => kp0 b o (st b o e)) [(dx, dictOf [] 0)] ?hm ?hroom ?ho ?hcd ?hbind ?hloc ?_ ?c1 ?c2 ?c3 ?c4
  case hm => exact List.forall_mem_cons.mpr ⟨⟨hdx0, hBd⟩, fun _ h => nomatch h⟩
  (((case hroom => lia); (case ho => k_is); (case hcd => k_is); (case hbind => exact BindsTo.of_eq rfl); (case hloc => exact locs rfl); (case c1 => exact rfl); (case c2 => exact rfl); (case c3 => exact rfl); (case c4 => decide)))
  intro g L' h₁ tk F N X' T' st' gs lt kp
  have hx' := gs _ _ hx0 (by simp [hBx])
  clear X T
  (repeat' (first | ((((fail_if_success (with_reducible show wpAny _ _ (pyIter (Value.ref _)) _ _ _)); (fail_if_success (with_reducible show wpAny _ _ (call (Value.ref _) _) _ _ _)); (fail_if_success (with_reducible show wpAny _ _ (exec (Stmt.While _ _ _ _) _) _ _ _)); (fail_if_success (with_reducible show wpAny _ _ (exec (Stmt.For _ _ _ _ _) _) _ _ _)); (fail_if_success (with_reducible show wpAny _ _ (call (Value.builtin "list.pop") _) _ _ _)); (fail_if_success (with_reducible show wpAny _ _ (compareOp _ (Value.ref _) (Value.ref _)) _ _ _)); (fail_if_success (with_reducible show wpAny _ _ (compareOp CmpOp.NotIn _ (Value.ref _)) _ _ _)); (fail_if_success (with_reducible show wpAny _ _ (subscriptTail _ _ (Value.ref _) (Value.int _ _)) _ _ _)))); walk1) | ((((fail_if_success (with_reducible show wpAny _ _ (pyIter (Value.ref _)) _ _ _)); (fail_if_success (with_reducible show wpAny _ _ (call (Value.ref _) _) _ _ _)); (fail_if_success (with_reducible show wpAny _ _ (exec (Stmt.While _ _ _ _) _) _ _ _)); (fail_if_success (with_reducible show wpAny _ _ (exec (Stmt.For _ _ _ _ _) _) _ _ _)); (fail_if_success (with_reducible show wpAny _ _ (call (Value.builtin "list.pop") _) _ _ _)); (fail_if_success (with_reducible show wpAny _ _ (compareOp _ (Value.ref _) (Value.ref _)) _ _ _)); (fail_if_success (with_reducible show wpAny _ _ (compareOp CmpOp.NotIn _ (Value.ref _)) _ _ _)); (fail_if_success (with_reducible show wpAny _ _ (subscriptTail _ _ (Value.ref _) (Value.int _ _)) _ _ _)))); dsimp only; (((fail_if_success (with_reducible show wpAny _ _ (pyIter (Value.ref _)) _ _ _)); (fail_if_success (with_reducible show wpAny _ _ (call (Value.ref _) _) _ _ _)); (fail_if_success (with_reducible show wpAny _ _ (exec (Stmt.While _ _ _ _) _) _ _ _)); (fail_if_success (with_reducible show wpAny _ _ (exec (Stmt.For _ _ _ _ _) _) _ _ _)); (fail_if_success (with_reducible show wpAny _ _ (call (Value.builtin "list.pop") _) _ _ _)); (fail_if_success (with_reducible show wpAny _ _ (compareOp _ (Value.ref _) (Value.ref _)) _ _ _)); (fail_if_success (with_reducible show wpAny _ _ (compareOp CmpOp.NotIn _ (Value.ref _)) _ _ _)); (fail_if_success (with_reducible show wpAny _ _ (subscriptTail _ _ (Value.ref _) (Value.int _ _)) _ _ _)))); walk1)))
  rename Fr _ _ _ _ => F; rename News _ _ _ _ => N
  exact ⟨rfl, h x dx _ _ (fun b o e => F.keep _ _ (gs _ _ (kp0 b o e) (by simpa using ne_old e hdl))) (F.keep _ _ hx') ⟨_, _, N.get (.head _)⟩ hdl hdlt⟩
theorem c_sym {w : World} {B : Heap} {mean : ExcName → Option Value} {mg mb : Str → Option Value} (X : (hd.heap_39 w.params).In B) (T : Top hd.view_39 (looseW hd.view_39 [Str.ofString "NIL"]) mean mg mb B)
    {dp un : Nat} {fr : Option (List Env)} {gd : Option (List Code)} {s : Shared} {E Q : Value → Shared → Prop} (st : B.StaysIn s.heap) (hd : dp + 4 < recursionLimit) (hu : un + 20 < cLine)
    {p0 p1 : Value} 
    (h : ∀ x dx h' tk, s.heap.StaysIn h' → h'.get? x = some (instObj 31 dx) → (∃ es n, h'.get? dx = some (dictOf es n)) → s.heap.objs.size ≤ dx → x = dx + 1 → Q (.ref x) { s with heap := h', toks := tk }) :
    wpAny (model PySem.Challenge.rw_oj0016_01.row.prog w) (Au dp un fr gd) (call (.ref 31) [p0, p1]) Q E s := by
  revert X; k_fill; intro X
  refine' wpAny_call (make_h (fI := 28) (X.keeps st) ?m1 ?m2 ?m3 ?_)
  case m1 => k_is
  case m2 => k_is
  case m3 => k_is
  intro x dx h0 kp0 hx0 hdx0 hdl hdlt
  rw [under_mk]
  have hBd : B.get? dx = none := of_no st (fresh_of hdl)
  have hBx : x ≠ dx := by rw [hdlt]; exact Nat.succ_ne_self dx
  refine' enterC (binds := [("self", .ref x), ("number", p0), ("name", p1)]) X T (fun b o e => kp0 b o (st b o e)) [(dx, dictOf [] 0)] ?hm ?hroom ?ho ?hcd ?hbind ?hloc ?_ ?c1 ?c2 ?c3 ?c4
  case hm => exact List.forall_mem_cons.mpr ⟨⟨hdx0, hBd⟩, fun _ h => nomatch h⟩
  (((case hroom => lia); (case ho => k_is); (case hcd => k_is); (case hbind => exact BindsTo.of_eq rfl); (case hloc => exact locs rfl); (case c1 => exact rfl); (case c2 => exact rfl); (case c3 => exact rfl); (case c4 => decide)))
  intro g L' h₁ tk F N X' T' st' gs lt kp
  have hx' := gs _ _ hx0 (by simp [hBx])
  clear X T
  (repeat' (first | ((((fail_if_success (with_reducible show wpAny _ _ (pyIter (Value.ref _)) _ _ _)); (fail_if_success (with_reducible show wpAny _ _ (call (Value.ref _) _) _ _ _)); (fail_if_success (with_reducible show wpAny _ _ (exec (Stmt.While _ _ _ _) _) _ _ _)); (fail_if_success (with_reducible show wpAny _ _ (exec (Stmt.For _ _ _ _ _) _) _ _ _)); (fail_if_success (with_reducible show wpAny _ _ (call (Value.builtin "list.pop") _) _ _ _)); (fail_if_success (with_reducible show wpAny _ _ (compareOp _ (Value.ref _) (Value.ref _)) _ _ _)); (fail_if_success (with_reducible show wpAny _ _ (compareOp CmpOp.NotIn _ (Value.ref _)) _ _ _)); (fail_if_success (with_reducible show wpAny _ _ (subscriptTail _ _ (Value.ref _) (Value.int _ _)) _ _ _)))); walk1) | ((((fail_if_success (with_reducible show wpAny _ _ (pyIter (Value.ref _)) _ _ _)); (fail_if_success (with_reducible show wpAny _ _ (call (Value.ref _) _) _ _ _)); (fail_if_success (with_reducible show wpAny _ _ (exec (Stmt.While _ _ _ _) _) _ _ _)); (fail_if_success (with_reducible show wpAny _ _ (exec (Stmt.For _ _ _ _ _) _) _ _ _)); (fail_if_success (with_reducible show wpAny _ _ (call (Value.builtin "list.pop") _) _ _ _)); (fail_if_success (with_reducible show wpAny _ _ (compareOp _ (Value.ref _) (Value.ref _)) _ _ _)); (fail_if_success (with_reducible show wpAny _ _ (compareOp CmpOp.NotIn _ (Value.ref _)) _ _ _)); (fail_if_success (with_reducible show wpAny _ _ (subscriptTail _ _ (Value.ref _) (Value.int _ _)) _ _ _)))); dsimp only; (((fail_if_success (with_reducible show wpAny _ _ (pyIter (Value.ref _)) _ _ _)); (fail_if_success (with_reducible show wpAny _ _ (call (Value.ref _) _) _ _ _)); (fail_if_success (with_reducible show wpAny _ _ (exec (Stmt.While _ _ _ _) _) _ _ _)); (fail_if_success (with_reducible show wpAny _ _ (exec (Stmt.For _ _ _ _ _) _) _ _ _)); (fail_if_success (with_reducible show wpAny _ _ (call (Value.builtin "list.pop") _) _ _ _)); (fail_if_success (with_reducible show wpAny _ _ (compareOp _ (Value.ref _) (Value.ref _)) _ _ _)); (fail_if_success (with_reducible show wpAny _ _ (compareOp CmpOp.NotIn _ (Value.ref _)) _ _ _)); (fail_if_success (with_reducible show wpAny _ _ (subscriptTail _ _ (Value.ref _) (Value.int _ _)) _ _ _)))); walk1)))
  rename Fr _ _ _ _ => F; rename News _ _ _ _ => N
  exact ⟨rfl, h x dx _ _ (fun b o e => F.keep _ _ (gs _ _ (kp0 b o e) (by simpa using ne_old e hdl))) (F.keep _ _ hx') ⟨_, _, N.get (.head _)⟩ hdl hdlt⟩
theorem c_text {w : World} {B : Heap} {mean : ExcName → Option Value} {mg mb : Str → Option Value} (X : (hd.heap_39 w.params).In B) (T : Top hd.view_39 (looseW hd.view_39 [Str.ofString "NIL"]) mean mg mb B)
    {dp un : Nat} {fr : Option (List Env)} {gd : Option (List Code)} {s : Shared} {E Q : Value → Shared → Prop} (st : B.StaysIn s.heap) (hd : dp + 4 < recursionLimit) (hu : un + 20 < cLine)
    {p0 : Value} 
    (h : ∀ x dx h' tk, s.heap.StaysIn h' → h'.get? x = some (instObj 77 dx) → (∃ es n, h'.get? dx = some (dictOf es n)) → s.heap.objs.size ≤ dx → x = dx + 1 → Q (.ref x) { s with heap := h', toks := tk }) :
    wpAny (model PySem.Challenge.rw_oj0016_01.row.prog w) (Au dp un fr gd) (call (.ref 77) [p0]) Q E s := by
  revert X; k_fill; intro X
  refine' wpAny_call (make_h (fI := 74) (X.keeps st) ?m1 ?m2 ?m3 ?_)
  case m1 => k_is
  case m2 => k_is
  case m3 => k_is
  intro x dx h0 kp0 hx0 hdx0 hdl hdlt
  rw [under_mk]
  have hBd : B.get? dx = none := of_no st (fresh_of hdl)
  have hBx : x ≠ dx := by rw [hdlt]; exact Nat.succ_ne_self dx
  refine' enterC (binds := [("self", .ref x), ("codes", p0), ("spans", .none)]) X T (fun b o e => kp0 b o (st b o e)) [(dx, dictOf [] 0)] ?hm ?hroom ?ho ?hcd ?hbind ?hloc ?_ ?c1 ?c2 ?c3 ?c4
  case hm => exact List.forall_mem_cons.mpr ⟨⟨hdx0, hBd⟩, fun _ h => nomatch h⟩
  (case hroom => lia); (case ho => k_is); (case hcd => k_is); (case hbind => exact binds_K (X.keeps (fun b o e => kp0 b o (st b o e))) rfl (by k_is) rfl rfl rfl); (case hloc => exact locs rfl); (case c1 => exact rfl); (case c2 => exact rfl); (case c3 => exact rfl); (case c4 => decide)
  intro g L' h₁ tk F N X' T' st' gs lt kp
  have hx' := gs _ _ hx0 (by simp [hBx])
  clear X T
  (repeat' (first | ((((fail_if_success (with_reducible show wpAny _ _ (pyIter (Value.ref _)) _ _ _)); (fail_if_success (with_reducible show wpAny _ _ (call (Value.ref _) _) _ _ _)); (fail_if_success (with_reducible show wpAny _ _ (exec (Stmt.While _ _ _ _) _) _ _ _)); (fail_if_success (with_reducible show wpAny _ _ (exec (Stmt.For _ _ _ _ _) _) _ _ _)); (fail_if_success (with_reducible show wpAny _ _ (call (Value.builtin "list.pop") _) _ _ _)); (fail_if_success (with_reducible show wpAny _ _ (compareOp _ (Value.ref _) (Value.ref _)) _ _ _)); (fail_if_success (with_reducible show wpAny _ _ (compareOp CmpOp.NotIn _ (Value.ref _)) _ _ _)); (fail_if_success (with_reducible show wpAny _ _ (subscriptTail _ _ (Value.ref _) (Value.int _ _)) _ _ _)))); walk1) | ((((fail_if_success (with_reducible show wpAny _ _ (pyIter (Value.ref _)) _ _ _)); (fail_if_success (with_reducible show wpAny _ _ (call (Value.ref _) _) _ _ _)); (fail_if_success (with_reducible show wpAny _ _ (exec (Stmt.While _ _ _ _) _) _ _ _)); (fail_if_success (with_reducible show wpAny _ _ (exec (Stmt.For _ _ _ _ _) _) _ _ _)); (fail_if_success (with_reducible show wpAny _ _ (call (Value.builtin "list.pop") _) _ _ _)); (fail_if_success (with_reducible show wpAny _ _ (compareOp _ (Value.ref _) (Value.ref _)) _ _ _)); (fail_if_success (with_reducible show wpAny _ _ (compareOp CmpOp.NotIn _ (Value.ref _)) _ _ _)); (fail_if_success (with_reducible show wpAny _ _ (subscriptTail _ _ (Value.ref _) (Value.int _ _)) _ _ _)))); dsimp only; (((fail_if_success (with_reducible show wpAny _ _ (pyIter (Value.ref _)) _ _ _)); (fail_if_success (with_reducible show wpAny _ _ (call (Value.ref _) _) _ _ _)); (fail_if_success (with_reducible show wpAny _ _ (exec (Stmt.While _ _ _ _) _) _ _ _)); (fail_if_success (with_reducible show wpAny _ _ (exec (Stmt.For _ _ _ _ _) _) _ _ _)); (fail_if_success (with_reducible show wpAny _ _ (call (Value.builtin "list.pop") _) _ _ _)); (fail_if_success (with_reducible show wpAny _ _ (compareOp _ (Value.ref _) (Value.ref _)) _ _ _)); (fail_if_success (with_reducible show wpAny _ _ (compareOp CmpOp.NotIn _ (Value.ref _)) _ _ _)); (fail_if_success (with_reducible show wpAny _ _ (subscriptTail _ _ (Value.ref _) (Value.int _ _)) _ _ _)))); walk1)))
  rename Fr _ _ _ _ => F; rename News _ _ _ _ => N
  exact ⟨rfl, h x dx _ _ (fun b o e => F.keep _ _ (gs _ _ (kp0 b o e) (by simpa using ne_old e hdl))) (F.keep _ _ hx') ⟨_, _, N.get (.head _)⟩ hdl hdlt⟩
end Mine
end

section
open PySem PySem.W PySem.Calls PyProof.Rows
set_option maxHeartbeats 4000000
namespace Mine
/-! ledgers with a part that is only known by its members -/
def Above (b : Addr) (objs : List (Addr × Obj)) : Prop := ∀ p ∈ objs, b < p.1
theorem apart_of {b d : Addr} {objs : List (Addr × Obj)} (z1 : Above b objs) (z2 : @LE.le Nat _ d b) : ∀ p ∈ objs, p.1 ≠ d := fun p hp e => by
  have h1 : b < p.1 := z1 p hp
  rw [e] at h1
  exact Nat.lt_irrefl _ (Nat.lt_of_lt_of_le h1 z2)
theorem Above.cons {b a : Addr} {o : Obj} {objs : List (Addr × Obj)} (h : Above b objs) (ha : b < a) : Above b ((a, o) :: objs) := List.forall_mem_cons.mpr ⟨ha, h⟩
section
variable {g h h' : Heap} {L a d : Addr} {o o' : Obj} {m : Str → Option Value} {news news' : List (Addr × Obj)}
theorem news_add (F : Fr g L h m) (N : News g L h news) (kp : h.StaysIn h') (e : h'.get? a = some o) (hs : h.objs.size ≤ a) : News g L h' ((a, o) :: news) := by
  have hL : L < a := Nat.lt_of_lt_of_le F.ns.lt hs
  refine List.forall_mem_cons.mpr ⟨⟨e, Nat.ne_of_gt hL, fresh_of (Nat.le_of_lt (Nat.lt_of_le_of_lt F.above hL))⟩, fun p hp => ⟨kp _ _ (N p hp).1, (N p hp).2⟩⟩
theorem news_add2 {x dx : Addr} {ox od : Obj} (F : Fr g L h m) (N : News g L h news) (kp : h.StaysIn h') (ex : h'.get? x = some ox) (ed : h'.get? dx = some od) (hs : h.objs.size ≤ dx) (hx : x = dx + 1) :
    News g L h' ((x, ox) :: (dx, od) :: news) := by
  have hs2 : h.objs.size ≤ x := by rw [hx]; exact Nat.le_succ_of_le hs
  have hL : L < x := Nat.lt_of_lt_of_le F.ns.lt hs2
  exact List.forall_mem_cons.mpr ⟨⟨ex, Nat.ne_of_gt hL, fresh_of (Nat.le_of_lt (Nat.lt_of_le_of_lt F.above hL))⟩, news_add F N kp ed hs⟩
theorem lt_new (N : News g L h news) (hs : h.objs.size ≤ a) : ∀ p ∈ news, p.1 < a := fun p hp => Nat.lt_of_lt_of_le (Heap.lt_size (N p hp).1) hs
theorem fr_mod (F : Fr g L h m) (N : News g L h news) (hm : (d, o) ∈ news) (hk : ∀ b o, b ≠ d → h.get? b = some o → h'.get? b = some o) : Fr g L h' m :=
  fr_at F fun b x hb e => hk b x (fun q => by
    rcases hb with hb | ⟨o', hb⟩
    · exact (N _ hm).2.1 (q.symm.trans hb)
    · rw [q, (N _ hm).2.2] at hb; cases hb) e
theorem news_upd (N : News g L h news) (U : Upd d o o' news news') (hk : ∀ b o, b ≠ d → h.get? b = some o → h'.get? b = some o) (e : h'.get? d = some o') : News g L h' news' := by
  obtain ⟨pre, post, rfl, rfl, h1, h2⟩ := U.split
  intro p hp
  rcases List.mem_append.mp hp with hp | hp
  · have := N p (List.mem_append_left _ hp)
    exact ⟨hk _ _ (h1 p hp) this.1, this.2⟩
  · rcases List.mem_cons.mp hp with rfl | hp
    · exact ⟨e, (N (d, o) (List.mem_append_right _ (.head _))).2⟩
    · have := N p (List.mem_append_right _ (.tail _ hp))
      exact ⟨hk _ _ (h2 p hp) this.1, this.2⟩
theorem upd_mem {p : Addr × Obj} (U : Upd d o o' news news') (hp : p ∈ news) (hn : p.1 ≠ d) : p ∈ news' := by
  obtain ⟨pre, post, rfl, rfl, h1, h2⟩ := U.split
  rcases List.mem_append.mp hp with hp | hp
  · exact List.mem_append_left _ hp
  · rcases List.mem_cons.mp hp with rfl | hp
    · exact absurd rfl hn
    · exact List.mem_append_right _ (.tail _ hp)
end
/-! the nodes in a ledger -/
def InL (objs : List (Addr × Obj)) (b : Addr) (o : Obj) : Prop := (b, o) ∈ objs
inductive InitN (P : Addr → Obj → Prop) : Int → Addr → Prop
  | cons {a dx : Addr} {H1 H2 : Int} {k1 k2 : Tok} {v1 v2 : Value} : P a (instObj 55 dx) → P dx (dictOf [⟨H1, .str (Str.ofString "car") k1, v1⟩, ⟨H2, .str (Str.ofString "cdr") k2, v2⟩] 2) → a = dx + 1 → InitN P 0 a
  | vec {a dx l : Addr} {H : Int} {k : Tok} : P a (instObj 98 dx) → P dx (dictOf [⟨H, .str (Str.ofString "things") k, .ref l⟩] 1) → a = dx + 1 → InitN P 1 a
  | text {a dx : Addr} {es : List DictEntry} {n : Nat} : P a (instObj 77 dx) → P dx (dictOf es n) → a = dx + 1 → InitN P 2 a
theorem InitN.mono {P P' : Addr → Obj → Prop} {r : Int} {a : Addr} (x : InitN P r a) (h : ∀ b o, P b o → P' b o) : InitN P' r a := by
  cases x with
  | cons h1 h2 h3 => exact .cons (h _ _ h1) (h _ _ h2) h3
  | vec h1 h2 h3 => exact .vec (h _ _ h1) (h _ _ h2) h3
  | text h1 h2 h3 => exact .text (h _ _ h1) (h _ _ h2) h3
inductive DoneN (P : Addr → Obj → Prop) : Int → Addr → List Value → Prop
  | cons {a dx : Addr} {H1 H2 : Int} {k1 k2 : Tok} {p0 p1 : Value} : P a (instObj 55 dx) → P dx (dictOf [⟨H1, .str (Str.ofString "car") k1, p0⟩, ⟨H2, .str (Str.ofString "cdr") k2, p1⟩] 2) → a = dx + 1 → DoneN P 0 a [p0, p1]
  | vec {a dx l : Addr} {H : Int} {k : Tok} {ps : List Value} {c : Nat} : P a (instObj 98 dx) → P dx (dictOf [⟨H, .str (Str.ofString "things") k, .ref l⟩] 1) → P l (listOf ps.toArray c) → a = dx + 1 → DoneN P 1 a ps
  | text {a dx : Addr} {es : List DictEntry} {n : Nat} : P a (instObj 77 dx) → P dx (dictOf es n) → a = dx + 1 → DoneN P 2 a []
structure LeadOk (P : Addr → Obj → Prop) (many r : Int) (la : Addr) (l : List Int) : Prop where
  inl : ∃ vs c, P la (listOf (List.toArray vs) c) ∧ IntsAre vs l
  few : l.length ≤ 3
  two : r = 0 → l.length = 2
  none : r = 2 → l = []
  ends : ∀ e ∈ l, -1 ≤ e ∧ e < many
theorem LeadOk.mono {P P' : Addr → Obj → Prop} {many r : Int} {la : Addr} {l : List Int} (x : LeadOk P many r la l) (h : ∀ b o, P b o → P' b o) : LeadOk P' many r la l :=
  ⟨let ⟨vs, c, a, b⟩ := x.inl; ⟨vs, c, h _ _ a, b⟩, x.few, x.two, x.none, x.ends⟩
theorem pickc {r d : Int} {t1 t2 t3 : Tok} (h0 : 0 ≤ r) (h3 : r < 3) (d0 : 0 ≤ d) (d4 : d < 4) : ∃ c t, [Value.int 2 t1, .int d t2, .int 0 t3][r.toNat]? = some (.int c t) ∧ 0 ≤ c ∧ c ≤ 3 ∧ (r = 0 → c = 2) ∧ (r = 2 → c = 0) := by
  have : r = 0 ∨ r = 1 ∨ r = 2 := by lia
  rcases this with rfl | rfl | rfl
  · exact ⟨2, t1, rfl, by lia, by lia, fun _ => rfl, fun e => by lia⟩
  · exact ⟨d, t2, rfl, by lia, by lia, fun e => by lia, fun e => by lia⟩
  · exact ⟨0, t3, rfl, by lia, by lia, fun e => by lia, fun _ => rfl⟩
theorem pick3 {P : Addr → Obj → Prop} {r : Int} {x1 x2 x3 : Addr} (h0 : 0 ≤ r) (h3 : r < 3) (i1 : InitN P 0 x1) (i2 : InitN P 1 x2) (i3 : InitN P 2 x3) :
    ∃ a, [Value.ref x1, .ref x2, .ref x3][r.toNat]? = some (.ref a) ∧ InitN P r a ∧ (a = x1 ∨ a = x2 ∨ a = x3) := by
  have : r = 0 ∨ r = 1 ∨ r = 2 := by lia
  rcases this with rfl | rfl | rfl
  · exact ⟨x1, rfl, i1, .inl rfl⟩
  · exact ⟨x2, rfl, i2, .inr (.inl rfl)⟩
  · exact ⟨x3, rfl, i3, .inr (.inr rfl)⟩
end Mine
end

section
open PySem PySem.W PySem.Calls PyProof.Rows
set_option maxHeartbeats 4000000
namespace Mine
theorem IsPot.at {h h' : Heap} {pot cl : Addr} (x : IsPot h pot cl) (k : ∀ o, h.get? pot = some o → h'.get? pot = some o) : IsPot h' pot cl :=
  let ⟨a, b, c, d, e, f, r⟩ := x; ⟨a, b, c, d, e, k _ f, r⟩
theorem IsPot.lt {h : Heap} {pot cl : Addr} (x : IsPot h pot cl) : pot < h.objs.size := let ⟨_, _, _, _, _, f, _⟩ := x; Heap.lt_size f
theorem comp_range_pot {prog : Program} {w : World} {A : Around} {env : Env} {scope : Scope} {cl : List (Str × Addr)} {x : Str} {elt : PySem.Expr} {s : Shared} {cnt : Int} {pot c0 : Addr} {lim : Int}
    (hh : A.handled = none) (h0 : 0 ≤ cnt) (h3 : cnt ≤ 1000) (hp : IsPot s.heap pot c0)
    (helt : ∀ C s₃ m₃, s.heap.objs.size ≤ C → IsPot s₃.heap pot c0 → s₃.heap.Ns C m₃ → (∃ h tk, s₃ = { s with heap := h, toks := tk }) → (∀ b o, b ≠ pot → s.heap.get? b = some o → s₃.heap.get? b = some o) →
      wpAny (model prog w) A (eval elt (compEnvC scope cl C env)) (fun y s₄ => ∃ h' tk e t, s₄ = { s₃ with heap := h', toks := tk } ∧ y = .int e t ∧ (∀ b o, b ≠ pot → s₃.heap.get? b = some o → h'.get? b = some o) ∧ IsPot h' pot c0 ∧ 0 ≤ e ∧ e < lim) (fun _ _ => False) s₃) :
    CompM prog w A env scope cl x elt s.heap.objs.size [s.heap.objs.size] cnt.toNat (fun i v => ∃ t, v = .int (0 + (i : Nat) * 1) t) (fun i h => IsRangeIter h s.heap.objs.size (0 + (i : Nat) * 1) ((cnt.toNat : Int) - (i : Nat)) 1) [pot]
      (fun _ _ _ ys h => IsPot h pot c0 ∧ ∃ es, IntsAre ys es ∧ ∀ e ∈ es, 0 ≤ e ∧ e < lim)
      { s with heap := s.heap.push { cls := .type "range_iterator", data := .fields #[rawInt 0, rawInt (Builtin.Range.rangeSize 0 cnt 1), rawInt 1] } } := by
  obtain ⟨hA, gg, dd, tt, os⟩ := s
  dsimp only at *
  have hsz : Builtin.Range.rangeSize 0 cnt 1 = (cnt.toNat : Int) := by rw [rangeSize_one]; split <;> lia
  have hpl := hp.lt
  refine ⟨Walks.range hh _ 0 1 cnt.toNat, by lia, ?st, ?fpl, fun i h e => ⟨_, e⟩, ?mods, ?init, ?stab, ?elt⟩
  case st =>
    have e1 : (0 + ((0 : Nat) : Int) * 1) = 0 := by simp
    have e2 : ((cnt.toNat : Int) - ((0 : Nat) : Int)) = Builtin.Range.rangeSize 0 cnt 1 := by rw [hsz]; simp
    rw [e1, e2]
    exact Heap.get?_push_size _ rfl
  case fpl => intro b hb; rw [List.mem_singleton.mp hb, Heap.size_push]; exact Nat.lt_succ_self _
  case mods =>
    intro b hb; rw [List.mem_singleton.mp hb, Heap.size_push]
    exact ⟨fun q => Nat.ne_of_lt hpl (List.mem_singleton.mp q), Nat.lt_succ_of_lt hpl⟩
  case init => exact fun C D _ _ => ⟨hp.at fun o e => Heap.get?_push_of_some _ e, [], .nil, fun _ h => nomatch h⟩
  case stab =>
    intro C D i ys h h' hC hD ⟨h1, h2⟩ k
    rw [Heap.size_push] at hC hD
    exact ⟨h1.at fun o e => k _ _ (Nat.ne_of_lt hpl) (Nat.ne_of_lt (Nat.lt_trans hpl hC)) (Nat.ne_of_lt (Nat.lt_trans hpl hD)) e, h2⟩
  case elt =>
    intro C D i v ys s₃ m₃ hC hD hi hv hlen ⟨hI1, es, hes, hesb⟩ hn hm hD' hI' ⟨h, tk, hs3⟩ hk
    rw [Heap.size_push] at hC
    refine wpAny_mono (helt C s₃ m₃ (Nat.le_of_succ_le hC) hI1 hn ⟨h, tk, hs3⟩ fun b o hb e => hk b o (Nat.ne_of_lt (Heap.lt_size e)) (by simpa using hb) (Heap.get?_push_of_some _ e)) (fun y s₄ h₄ => ?_) fun _ _ e => e
    obtain ⟨h', tk', e, t, rfl, rfl, hk4, hp4, he0, he1⟩ := h₄
    exact ⟨h', tk', rfl, fun b o hb e => hk4 b o (by simpa using hb) e, hp4, es ++ [e], hes.append (.cons _ _ .nil), fun e' he' => (List.mem_append.mp he').elim (hesb e') fun q => (List.mem_singleton.mp q) ▸ ⟨he0, he1⟩⟩
theorem news_updL {g h h' : Heap} {L d : Addr} {o o' : Obj} {news news' : List (Addr × Obj)} (N : News g L h news) (U : Upd d o o' news news') (hk : ∀ b o, b ≠ L → b ≠ d → h.get? b = some o → h'.get? b = some o) (e : h'.get? d = some o') : News g L h' news' := by
  obtain ⟨pre, post, rfl, rfl, h1, h2⟩ := U.split
  intro p hp
  rcases List.mem_append.mp hp with hp | hp
  · have := N p (List.mem_append_left _ hp)
    exact ⟨hk _ _ this.2.1 (h1 p hp) this.1, this.2⟩
  · rcases List.mem_cons.mp hp with rfl | hp
    · exact ⟨e, (N (d, o) (List.mem_append_right _ (.head _))).2⟩
    · have := N p (List.mem_append_right _ (.tail _ hp))
      exact ⟨hk _ _ this.2.1 (h2 p hp) this.1, this.2⟩
theorem fr_modL {g h h' : Heap} {L d : Addr} {m m' : Str → Option Value} (F : Fr g L h m) (hd : g.get? d = none) (hn : h'.Ns L m') (hk : ∀ b o, b ≠ L → b ≠ d → h.get? b = some o → h'.get? b = some o) : Fr g L h' m' :=
  ⟨hn, fun b o e => hk b o (fun q => by rw [q] at e; exact absurd (Nat.lt_of_lt_of_le (Heap.lt_size e) F.above) (Nat.lt_irrefl _)) (fun q => by rw [q, hd] at e; cases e) (F.keep b o e), F.above⟩
theorem news_at {g h' : Heap} {L a : Addr} {o : Obj} {n : Nat} {news : List (Addr × Obj)} (N : News g L h' news) (e : h'.get? a = some o) (hs : n ≤ a) (hg : g.objs.size ≤ L) (hL : L < n) : News g L h' ((a, o) :: news) :=
  List.forall_mem_cons.mpr ⟨⟨e, Nat.ne_of_gt (Nat.lt_of_lt_of_le hL hs), fresh_of (Nat.le_trans hg (Nat.le_of_lt (Nat.lt_of_lt_of_le hL hs)))⟩, N⟩
end Mine
end

section
open PySem PySem.W PySem.Calls PyProof.Rows Mine
local macro_rules | `(tactic| k_all) => `(tactic| first | assumption | (apply apart_of <;> first | assumption | lia))
local macro_rules | `(tactic| k_ne) => `(tactic| first | assumption | (symm; assumption) | (apply Nat.ne_of_lt; assumption) | (apply Nat.ne_of_gt; assumption))
local macro_rules | `(tactic| k_mem) => `(tactic| assumption)

section
open PySem PySem.W PySem.Calls PyProof.Rows
set_option maxHeartbeats 4000000
namespace Mine
section
variable {α : Type} {D x3 d3 l9 x2 d2 lv x1 d1 I ca ld th oa ot om op po dx a : α} {objs objs2 rest : List α}
theorem sub_np : ∀ z ∈ [oa, ld, th, ot, om, op, po], z ∈ [D, ld, th, oa, ot, om, op, po] :=
  List.forall_mem_cons.mpr ⟨(.tail _ (.tail _ (.tail _ (.head _)))), List.forall_mem_cons.mpr ⟨(.tail _ (.head _)), List.forall_mem_cons.mpr ⟨(.tail _ (.tail _ (.head _))), List.forall_mem_cons.mpr ⟨(.tail _ (.tail _ (.tail _ (.tail _ (.head _))))), List.forall_mem_cons.mpr ⟨(.tail _ (.tail _ (.tail _ (.tail _ (.tail _ (.head _)))))), List.forall_mem_cons.mpr ⟨(.tail _ (.tail _ (.tail _ (.tail _ (.tail _ (.tail _ (.head _))))))), List.forall_mem_cons.mpr ⟨(.tail _ (.tail _ (.tail _ (.tail _ (.tail _ (.tail _ (.tail _ (.head _)))))))), fun _ h => nomatch h⟩⟩⟩⟩⟩⟩⟩
theorem sub_c (h : objs2 = x3 :: d3 :: x2 :: d2 :: lv :: x1 :: d1 :: objs) : ∀ z ∈ I :: ca :: ld :: th :: ot :: om :: op :: po :: objs2, z ∈ D :: x3 :: d3 :: l9 :: x2 :: d2 :: lv :: x1 :: d1 :: I :: ca :: ld :: th :: ot :: om :: op :: po :: objs := by
  subst h
  exact List.forall_mem_cons.mpr ⟨(.tail _ (.tail _ (.tail _ (.tail _ (.tail _ (.tail _ (.tail _ (.tail _ (.tail _ (.head _)))))))))), List.forall_mem_cons.mpr ⟨(.tail _ (.tail _ (.tail _ (.tail _ (.tail _ (.tail _ (.tail _ (.tail _ (.tail _ (.tail _ (.head _))))))))))), List.forall_mem_cons.mpr ⟨(.tail _ (.tail _ (.tail _ (.tail _ (.tail _ (.tail _ (.tail _ (.tail _ (.tail _ (.tail _ (.tail _ (.head _)))))))))))), List.forall_mem_cons.mpr ⟨(.tail _ (.tail _ (.tail _ (.tail _ (.tail _ (.tail _ (.tail _ (.tail _ (.tail _ (.tail _ (.tail _ (.tail _ (.head _))))))))))))), List.forall_mem_cons.mpr ⟨(.tail _ (.tail _ (.tail _ (.tail _ (.tail _ (.tail _ (.tail _ (.tail _ (.tail _ (.tail _ (.tail _ (.tail _ (.tail _ (.head _)))))))))))))), List.forall_mem_cons.mpr ⟨(.tail _ (.tail _ (.tail _ (.tail _ (.tail _ (.tail _ (.tail _ (.tail _ (.tail _ (.tail _ (.tail _ (.tail _ (.tail _ (.tail _ (.head _))))))))))))))), List.forall_mem_cons.mpr ⟨(.tail _ (.tail _ (.tail _ (.tail _ (.tail _ (.tail _ (.tail _ (.tail _ (.tail _ (.tail _ (.tail _ (.tail _ (.tail _ (.tail _ (.tail _ (.head _)))))))))))))))), List.forall_mem_cons.mpr ⟨(.tail _ (.tail _ (.tail _ (.tail _ (.tail _ (.tail _ (.tail _ (.tail _ (.tail _ (.tail _ (.tail _ (.tail _ (.tail _ (.tail _ (.tail _ (.tail _ (.head _))))))))))))))))), List.forall_mem_cons.mpr ⟨(.tail _ (.head _)), List.forall_mem_cons.mpr ⟨(.tail _ (.tail _ (.head _))), List.forall_mem_cons.mpr ⟨(.tail _ (.tail _ (.tail _ (.tail _ (.head _))))), List.forall_mem_cons.mpr ⟨(.tail _ (.tail _ (.tail _ (.tail _ (.tail _ (.head _)))))), List.forall_mem_cons.mpr ⟨(.tail _ (.tail _ (.tail _ (.tail _ (.tail _ (.tail _ (.head _))))))), List.forall_mem_cons.mpr ⟨(.tail _ (.tail _ (.tail _ (.tail _ (.tail _ (.tail _ (.tail _ (.head _)))))))), List.forall_mem_cons.mpr ⟨(.tail _ (.tail _ (.tail _ (.tail _ (.tail _ (.tail _ (.tail _ (.tail _ (.head _))))))))), fun z hz => (.tail _ (.tail _ (.tail _ (.tail _ (.tail _ (.tail _ (.tail _ (.tail _ (.tail _ (.tail _ (.tail _ (.tail _ (.tail _ (.tail _ (.tail _ (.tail _ (.tail _ (hz))))))))))))))))))⟩⟩⟩⟩⟩⟩⟩⟩⟩⟩⟩⟩⟩⟩⟩
theorem sub_d : ∀ z ∈ I :: ca :: ld :: th :: ot :: om :: op :: po :: D :: objs, z ∈ D :: I :: ca :: ld :: th :: ot :: om :: op :: po :: objs :=
  List.forall_mem_cons.mpr ⟨(.tail _ (.head _)), List.forall_mem_cons.mpr ⟨(.tail _ (.tail _ (.head _))), List.forall_mem_cons.mpr ⟨(.tail _ (.tail _ (.tail _ (.head _)))), List.forall_mem_cons.mpr ⟨(.tail _ (.tail _ (.tail _ (.tail _ (.head _))))), List.forall_mem_cons.mpr ⟨(.tail _ (.tail _ (.tail _ (.tail _ (.tail _ (.head _)))))), List.forall_mem_cons.mpr ⟨(.tail _ (.tail _ (.tail _ (.tail _ (.tail _ (.tail _ (.head _))))))), List.forall_mem_cons.mpr ⟨(.tail _ (.tail _ (.tail _ (.tail _ (.tail _ (.tail _ (.tail _ (.head _)))))))), List.forall_mem_cons.mpr ⟨(.tail _ (.tail _ (.tail _ (.tail _ (.tail _ (.tail _ (.tail _ (.tail _ (.head _))))))))), List.forall_mem_cons.mpr ⟨(.head _), fun z hz => (.tail _ (.tail _ (.tail _ (.tail _ (.tail _ (.tail _ (.tail _ (.tail _ (.tail _ (hz))))))))))⟩⟩⟩⟩⟩⟩⟩⟩⟩
theorem sub_e : ∀ z ∈ I :: ca :: ld :: th :: ot :: om :: op :: po :: dx :: a :: D :: rest, z ∈ dx :: a :: D :: I :: ca :: ld :: th :: ot :: om :: op :: po :: rest :=
  List.forall_mem_cons.mpr ⟨(.tail _ (.tail _ (.tail _ (.head _)))), List.forall_mem_cons.mpr ⟨(.tail _ (.tail _ (.tail _ (.tail _ (.head _))))), List.forall_mem_cons.mpr ⟨(.tail _ (.tail _ (.tail _ (.tail _ (.tail _ (.head _)))))), List.forall_mem_cons.mpr ⟨(.tail _ (.tail _ (.tail _ (.tail _ (.tail _ (.tail _ (.head _))))))), List.forall_mem_cons.mpr ⟨(.tail _ (.tail _ (.tail _ (.tail _ (.tail _ (.tail _ (.tail _ (.head _)))))))), List.forall_mem_cons.mpr ⟨(.tail _ (.tail _ (.tail _ (.tail _ (.tail _ (.tail _ (.tail _ (.tail _ (.head _))))))))), List.forall_mem_cons.mpr ⟨(.tail _ (.tail _ (.tail _ (.tail _ (.tail _ (.tail _ (.tail _ (.tail _ (.tail _ (.head _)))))))))), List.forall_mem_cons.mpr ⟨(.tail _ (.tail _ (.tail _ (.tail _ (.tail _ (.tail _ (.tail _ (.tail _ (.tail _ (.tail _ (.head _))))))))))), List.forall_mem_cons.mpr ⟨(.head _), List.forall_mem_cons.mpr ⟨(.tail _ (.head _)), List.forall_mem_cons.mpr ⟨(.tail _ (.tail _ (.head _))), fun z hz => (.tail _ (.tail _ (.tail _ (.tail _ (.tail _ (.tail _ (.tail _ (.tail _ (.tail _ (.tail _ (.tail _ (hz))))))))))))⟩⟩⟩⟩⟩⟩⟩⟩⟩⟩⟩
theorem sub_g : ∀ z ∈ ld :: th :: objs, z ∈ ca :: ld :: th :: ot :: om :: op :: po :: objs :=
  List.forall_mem_cons.mpr ⟨(.tail _ (.head _)), List.forall_mem_cons.mpr ⟨(.tail _ (.tail _ (.head _))), fun z hz => (.tail _ (.tail _ (.tail _ (.tail _ (.tail _ (.tail _ (.tail _ (hz))))))))⟩⟩
theorem mk_e {P : α → Prop} {q : α → Bool} (h : ∀ z ∈ I :: ca :: ld :: th :: ot :: om :: op :: po :: objs, P z) (h1 : dx ∈ objs) (h2 : a ∈ objs) (h3 : P D) (h4 : ∀ z ∈ objs2, P z) :
    ∀ z ∈ dx :: a :: D :: I :: ca :: ld :: th :: ot :: om :: op :: po :: (objs2 ++ objs.filter q), P z :=
  List.forall_mem_cons.mpr ⟨h _ (.tail _ (.tail _ (.tail _ (.tail _ (.tail _ (.tail _ (.tail _ (.tail _ (h1))))))))), List.forall_mem_cons.mpr ⟨h _ (.tail _ (.tail _ (.tail _ (.tail _ (.tail _ (.tail _ (.tail _ (.tail _ (h2))))))))), List.forall_mem_cons.mpr ⟨h3, List.forall_mem_cons.mpr ⟨h _ (.head _), List.forall_mem_cons.mpr ⟨h _ (.tail _ (.head _)), List.forall_mem_cons.mpr ⟨h _ (.tail _ (.tail _ (.head _))), List.forall_mem_cons.mpr ⟨h _ (.tail _ (.tail _ (.tail _ (.head _)))), List.forall_mem_cons.mpr ⟨h _ (.tail _ (.tail _ (.tail _ (.tail _ (.head _))))), List.forall_mem_cons.mpr ⟨h _ (.tail _ (.tail _ (.tail _ (.tail _ (.tail _ (.head _)))))), List.forall_mem_cons.mpr ⟨h _ (.tail _ (.tail _ (.tail _ (.tail _ (.tail _ (.tail _ (.head _))))))), List.forall_mem_cons.mpr ⟨h _ (.tail _ (.tail _ (.tail _ (.tail _ (.tail _ (.tail _ (.tail _ (.head _)))))))), fun z hz => (List.mem_append.mp hz).elim (h4 z) fun e => h z (.tail _ (.tail _ (.tail _ (.tail _ (.tail _ (.tail _ (.tail _ (.tail _ ((List.mem_filter.mp e).1)))))))))⟩⟩⟩⟩⟩⟩⟩⟩⟩⟩⟩
end
theorem at8 {α : Type} {I ca ld th ot om op po x : α} {objs : List α} (h : x ∈ objs) : x ∈ I :: ca :: ld :: th :: ot :: om :: op :: po :: objs := (.tail _ (.tail _ (.tail _ (.tail _ (.tail _ (.tail _ (.tail _ (.tail _ (h)))))))))
/-- what _law_things gives back: the things, their parts, the leads -/
structure Built (h₀ h : Heap) (many : Int) (th ld : Addr) (nodes : List Addr) (parts : List (List Value)) (lead : List (List Int)) : Prop where
  th : h.IsList th (nodes.map Value.ref).toArray
  ld : LeadsAt h ld lead
  len : (nodes.length : Int) = many
  lenp : parts.length = nodes.length
  lenl : lead.length = nodes.length
  nd : nodes.Nodup
  new : ∀ a ∈ nodes, h₀.get? a = none
  at_ : ∀ (i : Nat) (a : Addr) (ps : List Value), nodes[i]? = some a → parts[i]? = some ps → NodeAt h a ps
  few : ∀ ps ∈ parts, ps.length ≤ 3
  ok : ∀ (i : Nat) (ps : List Value) (l : List Int), parts[i]? = some ps → lead[i]? = some l → ps.length = l.length ∧ ∀ (k : Nat) (v : Value) (e : Int), ps[k]? = some v → l[k]? = some e →
    (0 ≤ e ∧ ∃ b, nodes[e.toNat]? = some b ∧ v = .ref b) ∨ (e < 0 ∧ LeafAt h v ∧ ∀ b ∈ nodes, v ≠ .ref b)
noncomputable def FX (L ldl thl pot cl : Addr) (ot om op : Obj) (lrefs nodes : List Addr) (c1 c2 c3 : Nat) (at_ z : Int) (ta tz : Tok) (objs : List (Addr × Obj)) : List (Addr × Obj) :=
  (ldl, listOf (lrefs.map Value.ref).toArray c1) :: (thl, listOf (nodes.map Value.ref).toArray c2) :: (L + 1 + 1 + 1, ot) :: (L + 1 + 1, om) :: (L + 1, op) :: (pot, listOf #[.ref cl, .int at_ ta, .int z tz] c3) :: objs
/-- the ledger's facts about the nodes made so far -/
structure Made (P : Addr → Obj → Prop) (many : Int) (nodes lrefs : List Addr) (lead : List (List Int)) : Prop where
  nd : nodes.Nodup
  inn : ∀ a ∈ nodes, ∃ C dx, P a (instObj C dx)
  ok : ∀ (j : Nat) (a la : Addr) (l : List Int), nodes[j]? = some a → lrefs[j]? = some la → lead[j]? = some l → ∃ r, InitN P r a ∧ LeadOk P many r la l
def J1 (M0 : Str → Option Value) (L ldl thl pot cl : Addr) (ot om op : Obj) (many : Int) (i : Nat) (m : Str → Option Value) (news : List (Addr × Obj)) : Prop :=
  ∃ us ue nodes lrefs lead c1 c2 c3 at_ z ta tz objs, m = (fun y => if y = Str.ofString "ends" then ue else if y = Str.ofString "sort" then us else M0 y) ∧ news = FX L ldl thl pot cl ot om op lrefs nodes c1 c2 c3 at_ z ta tz objs ∧
    (0 ≤ at_ ∧ 0 ≤ z ∧ z ≤ 70000) ∧ (nodes.length = i ∧ lrefs.length = i ∧ lead.length = i) ∧ Above ldl objs ∧ Made (InL objs) many nodes lrefs lead
theorem ispot_led {g h : Heap} {L pot cl : Addr} {at_ z : Int} {ta tz : Tok} {c : Nat} {news : List (Addr × Obj)} (N : News g L h news) (hm : (pot, listOf #[.ref cl, .int at_ ta, .int z tz] c) ∈ news) (h0 : 0 ≤ at_) (h1 : 0 ≤ z) (h2 : z ≤ 70000) : IsPot h pot cl :=
  ⟨_, _, _, _, _, N.get hm, h0, h1, h2⟩
theorem Made.snoc {P P' : Addr → Obj → Prop} {many r : Int} {nodes lrefs : List Addr} {lead : List (List Int)} {a la : Addr} {l : List Int} (x : Made P many nodes lrefs lead) (hsub : ∀ b o, P b o → P' b o) (hia : InitN P' r a) (hno : a ∉ nodes)
    (h1 : lrefs.length = nodes.length) (h2 : lead.length = nodes.length) (hlead : LeadOk P' many r la l) : Made P' many (nodes ++ [a]) (lrefs ++ [la]) (lead ++ [l]) where
  nd := List.nodup_append.mpr ⟨x.nd, List.pairwise_singleton _ _, fun y hy z hz e => hno (by rw [List.mem_singleton.mp hz] at e; exact e ▸ hy)⟩
  inn := fun b hb => by
    rcases List.mem_append.mp hb with hb | hb
    · obtain ⟨C, o, ho⟩ := x.inn b hb; exact ⟨C, o, hsub _ _ ho⟩
    · rw [List.mem_singleton.mp hb]
      cases hia with
      | cons h _ _ => exact ⟨_, _, h⟩
      | vec h _ _ => exact ⟨_, _, h⟩
      | text h _ _ => exact ⟨_, _, h⟩
  ok := fun j b lb m e1 e2 e3 => by
    by_cases hj : j < nodes.length
    · rw [List.getElem?_append_left hj] at e1
      rw [List.getElem?_append_left (by lia)] at e2 e3
      obtain ⟨r, hr, hl⟩ := x.ok j b lb m e1 e2 e3
      exact ⟨r, hr.mono hsub, hl.mono hsub⟩
    · have hj2 : j = nodes.length := by
        have := (List.getElem?_eq_some_iff.mp e1).1
        simp at this; lia
      subst hj2
      rw [List.getElem?_append_right (Nat.le_refl _), Nat.sub_self] at e1
      rw [List.getElem?_append_right (by lia), h1, Nat.sub_self] at e2
      rw [List.getElem?_append_right (by lia), h2, Nat.sub_self] at e3
      cases e1; cases e2; cases e3
      exact ⟨r, hia, hlead⟩
/-! the second loop -/
def LeafL (P : Addr → Obj → Prop) (nodes : List Addr) (v : Value) : Prop := (∃ i t, v = .int i t) ∨ ∃ a dx es n, v = .ref a ∧ a = dx + 1 ∧ a ∉ nodes ∧ P a (instObj 31 dx) ∧ P dx (dictOf es n)
def PartOk (P : Addr → Obj → Prop) (nodes : List Addr) (v : Value) (e : Int) : Prop := (0 ≤ e ∧ ∃ b, nodes[e.toNat]? = some b ∧ v = .ref b) ∨ (e < 0 ∧ LeafL P nodes v)
def PartsOk (P : Addr → Obj → Prop) (nodes : List Addr) (l : List Int) (ps : List Value) : Prop := ps.length = l.length ∧ ∀ (k : Nat) (v : Value) (e : Int), ps[k]? = some v → l[k]? = some e → PartOk P nodes v e
theorem PartOk.mono {P P' : Addr → Obj → Prop} {nodes : List Addr} {v : Value} {e : Int} (x : PartOk P nodes v e) (h : ∀ b o, P b o → P' b o) : PartOk P' nodes v e := by
  rcases x with x | ⟨h1, x | ⟨a, dx, es, n, e1, e2, e3, e4, e5⟩⟩
  · exact .inl x
  · exact .inr ⟨h1, .inl x⟩
  · exact .inr ⟨h1, .inr ⟨a, dx, es, n, e1, e2, e3, h _ _ e4, h _ _ e5⟩⟩
theorem PartsOk.mono {P P' : Addr → Obj → Prop} {nodes : List Addr} {l : List Int} {ps : List Value} (x : PartsOk P nodes l ps) (h : ∀ b o, P b o → P' b o) : PartsOk P' nodes l ps := ⟨x.1, fun k v e h1 h2 => (x.2 k v e h1 h2).mono h⟩
structure Half (P : Addr → Obj → Prop) (many : Int) (i : Nat) (nodes lrefs : List Addr) (lead : List (List Int)) (parts : List (List Value)) : Prop where
  inn : ∀ a ∈ nodes, ∃ C dx, P a (instObj C dx)
  len : parts.length = i
  old : ∀ (j : Nat) (a la : Addr) (l : List Int), nodes[j]? = some a → lrefs[j]? = some la → lead[j]? = some l → i ≤ j → ∃ r, LeadOk P many r la l ∧ InitN P r a
  new : ∀ (j : Nat) (a la : Addr) (l : List Int) (ps : List Value), nodes[j]? = some a → lrefs[j]? = some la → lead[j]? = some l → parts[j]? = some ps → ∃ r, LeadOk P many r la l ∧ DoneN P r a ps ∧ PartsOk P nodes l ps
def J2 (M0 : Str → Option Value) (L ldl thl pot cl : Addr) (ot om op : Obj) (many : Int) (nodes lrefs : List Addr) (lead : List (List Int)) (c1 c2 c3 : Nat) (at_ z : Int) (ta tz : Tok) (i : Nat) (m : Str → Option Value) (news : List (Addr × Obj)) : Prop :=
  ∃ up parts objs, m = (fun y => if y = Str.ofString "parts_here" then up else M0 y) ∧ news = FX L ldl thl pot cl ot om op lrefs nodes c1 c2 c3 at_ z ta tz objs ∧ Above ldl objs ∧ Half (InL objs) many i nodes lrefs lead parts
/-- the comprehension's invariant -/
def VS (nodes : List Addr) (l : List Int) (n0 : Nat) (G : Addr → Prop) (k : Nat) (ys : List Value) (h : Heap) : Prop :=
  ∃ syms : List (Addr × Obj), (∀ p ∈ syms, n0 ≤ p.1 ∧ G p.1 ∧ h.get? p.1 = some p.2) ∧ ys.length = k ∧ ∀ (q : Nat) (v : Value) (e : Int), ys[q]? = some v → l[q]? = some e → PartOk (InL syms) nodes v e
theorem VS.stab {nodes : List Addr} {l : List Int} {n0 : Nat} {G : Addr → Prop} {k : Nat} {ys : List Value} {h h' : Heap} (x : VS nodes l n0 G k ys h) (kp : ∀ b o, G b → h.get? b = some o → h'.get? b = some o) : VS nodes l n0 G k ys h' :=
  let ⟨syms, h1, h2, h3⟩ := x; ⟨syms, fun p hp => ⟨(h1 p hp).1, (h1 p hp).2.1, kp _ _ (h1 p hp).2.1 (h1 p hp).2.2⟩, h2, h3⟩
theorem VS.snoc {nodes : List Addr} {l : List Int} {n0 : Nat} {G : Addr → Prop} {k : Nat} {ys : List Value} {h h' : Heap} (x : VS nodes l n0 G k ys h) (kp : h.StaysIn h') {v : Value} {e : Int} (he : l[k]? = some e) (more : List (Addr × Obj))
    (hm : ∀ p ∈ more, n0 ≤ p.1 ∧ G p.1 ∧ h'.get? p.1 = some p.2) (hv : PartOk (InL more) nodes v e) : VS nodes l n0 G (k + 1) (ys ++ [v]) h' := by
  obtain ⟨syms, h1, h2, h3⟩ := x
  refine ⟨more ++ syms, fun p hp => (List.mem_append.mp hp).elim (hm p) fun q => ⟨(h1 p q).1, (h1 p q).2.1, kp _ _ (h1 p q).2.2⟩, by simp [h2], fun q u f hu hf => ?_⟩
  by_cases hq : q < ys.length
  · rw [List.getElem?_append_left hq] at hu
    exact (h3 q u f hu hf).mono fun b o z => List.mem_append_right _ z
  · have hq2 : q = ys.length := by
      have := (List.getElem?_eq_some_iff.mp hu).1
      simp at this; lia
    subst hq2
    rw [List.getElem?_append_right (Nat.le_refl _), Nat.sub_self] at hu
    cases hu
    rw [h2, he] at hf
    cases hf
    exact hv.mono fun b o z => List.mem_append_left _ z
section
variable {P P' : Addr → Obj → Prop} {dx : Addr} {es0 : List DictEntry} {n0 : Nat} (uniq : ∀ b o o', P b o → P b o' → o = o') (hd : P dx (dictOf es0 n0)) (sub : ∀ b o, b ≠ dx → P b o → P' b o)
include uniq hd in
theorem ne_inst {b C d : Addr} (h : P b (instObj C d)) : b ≠ dx := by
  rintro rfl
  have := congrArg Obj.cls (uniq _ _ _ h hd)
  exact absurd this (fun z => by cases z)
include uniq hd in
theorem ne_list {b : Addr} {vs : Array Value} {c : Nat} (h : P b (listOf vs c)) : b ≠ dx := by
  rintro rfl
  have := congrArg Obj.cls (uniq _ _ _ h hd)
  exact absurd (Value.type.inj this) (by decide)
include uniq hd sub in
theorem InitN.shift {r : Int} {a : Addr} (x : InitN P r a) (ha : a ≠ dx + 1) : InitN P' r a := by
  cases x with
  | cons h1 h2 h3 => exact .cons (sub _ _ (ne_inst uniq hd h1) h1) (sub _ _ (fun q => ha (h3.trans (by rw [q]))) h2) h3
  | vec h1 h2 h3 => exact .vec (sub _ _ (ne_inst uniq hd h1) h1) (sub _ _ (fun q => ha (h3.trans (by rw [q]))) h2) h3
  | text h1 h2 h3 => exact .text (sub _ _ (ne_inst uniq hd h1) h1) (sub _ _ (fun q => ha (h3.trans (by rw [q]))) h2) h3
include uniq hd sub in
theorem DoneN.shift {r : Int} {a : Addr} {ps : List Value} (x : DoneN P r a ps) (ha : a ≠ dx + 1) : DoneN P' r a ps := by
  cases x with
  | cons h1 h2 h3 => exact .cons (sub _ _ (ne_inst uniq hd h1) h1) (sub _ _ (fun q => ha (h3.trans (by rw [q]))) h2) h3
  | vec h1 h2 h4 h3 => exact .vec (sub _ _ (ne_inst uniq hd h1) h1) (sub _ _ (fun q => ha (h3.trans (by rw [q]))) h2) (sub _ _ (ne_list uniq hd h4) h4) h3
  | text h1 h2 h3 => exact .text (sub _ _ (ne_inst uniq hd h1) h1) (sub _ _ (fun q => ha (h3.trans (by rw [q]))) h2) h3
include uniq hd sub in
theorem LeadOk.shift {many r : Int} {la : Addr} {l : List Int} (x : LeadOk P many r la l) : LeadOk P' many r la l :=
  ⟨let ⟨vs, c, a, b⟩ := x.inl; ⟨vs, c, sub _ _ (ne_list uniq hd a) a, b⟩, x.few, x.two, x.none, x.ends⟩
include uniq hd sub in
theorem PartOk.shift {nodes : List Addr} {v : Value} {e : Int} (x : PartOk P nodes v e) (hn : dx + 1 ∈ nodes) : PartOk P' nodes v e := by
  rcases x with x | ⟨h1, x | ⟨a, d, es, n, e1, e2, e3, e4, e5⟩⟩
  · exact .inl x
  · exact .inr ⟨h1, .inl x⟩
  · exact .inr ⟨h1, .inr ⟨a, d, es, n, e1, e2, e3, sub _ _ (ne_inst uniq hd e4) e4, sub _ _ (fun q => e3 (by rw [e2, q]; exact hn)) e5⟩⟩
include uniq hd sub in
theorem Half.step {many : Int} {i : Nat} {nodes lrefs : List Addr} {lead : List (List Int)} {parts : List (List Value)} (x : Half P many i nodes lrefs lead parts) (hnd : nodes.Nodup) (hi : nodes[i]? = some (dx + 1))
    {r : Int} {la : Addr} {l : List Int} {ps : List Value} (hla : lrefs[i]? = some la) (hl : lead[i]? = some l) (h1 : LeadOk P many r la l) (h2 : DoneN P' r (dx + 1) ps) (h3 : PartsOk P' nodes l ps) :
    Half P' many (i + 1) nodes lrefs lead (parts ++ [ps]) where
  inn := fun a ha => let ⟨C, d, h⟩ := x.inn a ha; ⟨C, d, sub _ _ (ne_inst uniq hd h) h⟩
  len := by rw [List.length_append, x.len]; rfl
  old := fun j a lb m e1 e2 e3 hj => by
    obtain ⟨r', q1, q2⟩ := x.old j a lb m e1 e2 e3 (Nat.le_of_succ_le hj)
    refine ⟨r', q1.shift uniq hd sub, q2.shift uniq hd sub fun q => ?_⟩
    rw [q] at e1
    have := (List.getElem?_inj (List.getElem?_eq_some_iff.mp hi).1 hnd).mp (hi.trans e1.symm)
    lia
  new := fun j a lb m qs e1 e2 e3 e4 => by
    by_cases hj : j < parts.length
    · rw [List.getElem?_append_left hj] at e4
      obtain ⟨r', q1, q2, q3⟩ := x.new j a lb m qs e1 e2 e3 e4
      refine ⟨r', q1.shift uniq hd sub, q2.shift uniq hd sub fun q => ?_, q3.1, fun k v e f1 f2 => (q3.2 k v e f1 f2).shift uniq hd sub (List.mem_of_getElem? hi)⟩
      rw [q] at e1
      have := (List.getElem?_inj (List.getElem?_eq_some_iff.mp hi).1 hnd).mp (hi.trans e1.symm)
      have := x.len
      lia
    · have hj2 : j = parts.length := by
        have := (List.getElem?_eq_some_iff.mp e4).1
        simp at this; lia
      subst hj2
      rw [List.getElem?_append_right (Nat.le_refl _), Nat.sub_self] at e4
      cases e4
      rw [x.len] at e1 e2 e3
      rw [hi] at e1; rw [hla] at e2; rw [hl] at e3
      cases e1; cases e2; cases e3
      exact ⟨r, h1.shift uniq hd sub, h2, h3⟩
end
theorem handed_part {P : Addr → Obj → Prop} {nodes : List Addr} {v : Value} {e : Int} (x : PartOk P nodes v e) : handedIn v = true := by
  rcases x with ⟨_, b, _, rfl⟩ | ⟨_, ⟨i, t, rfl⟩ | ⟨a, _, _, _, rfl, _⟩⟩ <;> rfl
theorem built_of {h₀ h : Heap} {th ld : Addr} {many : Int} {nodes lrefs : List Addr} {lead : List (List Int)} {parts : List (List Value)} {P : Addr → Obj → Prop} (hP : ∀ b o, P b o → h.get? b = some o) (hfresh : ∀ b o, P b o → h₀.get? b = none)
    (hth : h.IsList th (nodes.map Value.ref).toArray) (hld : h.IsList ld (lrefs.map Value.ref).toArray) (hlen : (nodes.length : Int) = many) (hlr : lrefs.length = nodes.length) (hll : lead.length = nodes.length) (h7 : many ≤ 7) (hnd : nodes.Nodup)
    (x : Half P many nodes.length nodes lrefs lead parts) : Built h₀ h many th ld nodes parts lead := by
  have get : ∀ (i : Nat), i < nodes.length → ∃ a la l ps r, nodes[i]? = some a ∧ lrefs[i]? = some la ∧ lead[i]? = some l ∧ parts[i]? = some ps ∧ LeadOk P many r la l ∧ DoneN P r a ps ∧ PartsOk P nodes l ps := fun i hi => by
    have h1 := List.getElem?_eq_getElem hi
    have h2 := List.getElem?_eq_getElem (l := lrefs) (i := i) (by lia)
    have h3 := List.getElem?_eq_getElem (l := lead) (i := i) (by lia)
    have h4 := List.getElem?_eq_getElem (l := parts) (i := i) (by have := x.len; lia)
    obtain ⟨r, q1, q2, q3⟩ := x.new i _ _ _ _ h1 h2 h3 h4
    exact ⟨_, _, _, _, r, h1, h2, h3, h4, q1, q2, q3⟩
  have at_lead : ∀ l ∈ lead, ∃ r la, LeadOk P many r la l := fun l hl => by
    obtain ⟨i, hi, e⟩ := List.getElem_of_mem hl
    obtain ⟨a, la, l', ps, r, _, _, h3, _, h5, _⟩ := get i (by lia)
    rw [List.getElem?_eq_getElem hi, e] at h3
    cases h3
    exact ⟨r, la, h5⟩
  refine ⟨hth, ⟨⟨lrefs, hld, by lia, fun i a l e1 e2 => ?_⟩, by lia, fun l hl => ?_, fun l hl e he => ?_⟩, hlen, x.len, hll, hnd, fun a ha => ?_, fun i a ps e1 e2 => ?_, fun ps hps => ?_, fun i ps l e1 e2 => ?_⟩
  · obtain ⟨a', la, l', ps, r, _, h2, h3, _, h5, _⟩ := get i (by have := (List.getElem?_eq_some_iff.mp e2).1; lia)
    rw [e1] at h2; rw [e2] at h3; cases h2; cases h3
    obtain ⟨vs, c, q1, q2⟩ := h5.inl
    exact ⟨vs, ⟨_, hP _ _ q1, rfl, _, rfl⟩, q2⟩
  · obtain ⟨r, la, q⟩ := at_lead l hl; exact q.few
  · obtain ⟨r, la, q⟩ := at_lead l hl; have := (q.ends e he).2; lia
  · obtain ⟨C, d, q⟩ := x.inn a ha; exact hfresh _ _ q
  · obtain ⟨a', la, l', ps', r, h1, h2, h3, h4, h5, h6, h7⟩ := get i (List.getElem?_eq_some_iff.mp e1).1
    rw [e1] at h1; rw [e2] at h4; cases h1; cases h4
    cases h6 with
    | cons q1 q2 q3 =>
      have hl2 : l'.length = 2 := h5.two rfl
      refine .cons (hP _ _ q1) (hP _ _ q2) ?_ ?_
      · exact handed_part (h7.2 0 _ l'[0] rfl (List.getElem?_eq_getElem (by lia)))
      · exact handed_part (h7.2 1 _ l'[1] rfl (List.getElem?_eq_getElem (by lia)))
    | vec q1 q2 q4 q3 => exact .vec (hP _ _ q1) (hP _ _ q2) ⟨_, hP _ _ q4, rfl, _, rfl⟩
    | text q1 q2 q3 => exact .text (hP _ _ q1) (hP _ _ q2)
  · obtain ⟨i, hi, e⟩ := List.getElem_of_mem hps
    obtain ⟨a', la, l', ps', r, h1, h2, h3, h4, h5, h6, h7⟩ := get i (by have := x.len; lia)
    rw [List.getElem?_eq_getElem hi, e] at h4
    cases h4
    rw [h7.1]; exact h5.few
  · obtain ⟨a', la, l', ps', r, h1, h2, h3, h4, h5, h6, h7⟩ := get i (by have := (List.getElem?_eq_some_iff.mp e1).1; have := x.len; lia)
    rw [e1] at h4; rw [e2] at h3; cases h4; cases h3
    refine ⟨h7.1, fun k v e f1 f2 => ?_⟩
    rcases h7.2 k v e f1 f2 with q | ⟨q, ⟨i, t, rfl⟩ | ⟨b, dx, es, n, rfl, w2, w3, w4, w5⟩⟩
    · exact .inl q
    · exact .inr ⟨q, .inl ⟨_, _, rfl⟩, fun b _ z => nomatch z⟩
    · exact .inr ⟨q, .inr ⟨b, rfl, dx, es, n, hP _ _ w4, hP _ _ w5⟩, fun c hc z => w3 (by cases z; exact hc)⟩
theorem len_two {α : Type} : ∀ {l : List α}, l.length = 2 → ∃ a b, l = [a, b]
  | [], h => nomatch h
  | a :: r, h => by
    cases r with
    | nil => cases h
    | cons b q =>
      cases q with
      | nil => exact ⟨a, b, rfl⟩
      | cons c q => simp at h
theorem ne_succ {a b : Nat} (h : a = b + 1) : a ≠ b := by lia
theorem a63m {e m : Int} (h : e < m) (hm : m ≤ 7) : e < 2 ^ 63 := by lia
theorem a_in {i n : Nat} {m : Int} (h : (n : Int) = m) (h2 : (i : Int) < m) : i < n := by lia
theorem a_lo {m : Int} (h : 0 ≤ m) : -(2 ^ 62) ≤ m := by lia
theorem a_lo1 {m : Int} (h : 1 ≤ m) : -(2 ^ 62) ≤ m := by lia
theorem a_hi {m : Int} (h : m ≤ 7) : m < 2 ^ 62 := by lia
theorem a_hi3 {m : Int} (h : m ≤ 3) : m < 2 ^ 62 := by lia
theorem a_th {m : Int} (h : m ≤ 3) : m ≤ 1000 := by lia
theorem a_3 {n m : Nat} (h : n = m) (h2 : m ≤ 3) : n ≤ 1000 := by lia
theorem a_et {e m : Int} {n : Nat} (h0 : 0 ≤ e) (h : e < m) (h2 : (n : Int) = m) : e.toNat < n := by lia
theorem a_m2 {x : Int} (h0 : 0 ≤ x) (h : x < 2) : x = 0 ∨ x = 1 := by lia
theorem a_hno {x1 dx1 x2 dx2 x3 dx3 a : Nat} (e1 : x1 = dx1 + 1) (e2 : x2 = dx2 + 1) (e3 : x3 = dx3 + 1) (m3 : x1 < dx2) (m4 : x2 < dx3) (haa : a = x1 ∨ a = x2 ∨ a = x3) (h1 : a < dx1) : False := by lia
theorem a_new {x1 dx1 x2 dx2 x3 dx3 lv : Nat} (e1 : x1 = dx1 + 1) (e2 : x2 = dx2 + 1) (e3 : x3 = dx3 + 1) (m3 : x1 < dx2) (m4 : x2 < dx3) (m5 : x1 < lv) : dx1 ≤ x3 ∧ dx1 ≤ dx3 ∧ dx1 ≤ x2 ∧ dx1 ≤ dx2 ∧ dx1 ≤ lv ∧ dx1 ≤ x1 ∧ dx1 ≤ dx1 := by
  subst e1 e2 e3
  have h1 : dx1 ≤ dx2 := Nat.le_of_lt (Nat.lt_of_succ_lt m3)
  have h2 : dx1 ≤ dx3 := Nat.le_trans (Nat.le_succ_of_le h1) (Nat.le_of_lt m4)
  exact ⟨Nat.le_succ_of_le h2, h2, Nat.le_succ_of_le h1, h1, Nat.le_of_lt (Nat.lt_of_succ_lt m5), Nat.le_succ _, Nat.le_refl _⟩
theorem a_p1 {m : Int} (h : 1 ≤ m) : 1 ≤ m + 2 := by lia
theorem a_p2 {m : Int} (h : m ≤ 7) : m + 2 ≤ 100 := by lia
theorem a_ys {n : Nat} {c : Int} (h : n = c.toNat) (h2 : c ≤ 3) : n ≤ 1000 := by lia

theorem c_things {w : World} {B : Heap} {mean : ExcName → Option Value} {mg mb : Str → Option Value} (X : (hd.heap_39 w.params).In B) (T : Top hd.view_39 (looseW hd.view_39 [Str.ofString "NIL"]) mean mg mb B)
    {dp un : Nat} {fr : Option (List Env)} {gd : Option (List Code)} {s : Shared} {E Q : Value → Shared → Prop} (st : B.StaysIn s.heap) (hd : dp + 7 < recursionLimit) (hu : un + 100 < cLine)
    {pot cl : Addr} {many : Int} {tm : Tok} (hp : IsPot s.heap pot cl) (hB : B.get? pot = none) (hc : Cells s.heap cl) (hm1 : 1 ≤ many) (hm2 : many ≤ 7)
    (h : ∀ h' tk tp th ld nodes parts lead (objs : List (Addr × Obj)), (∀ b o, b ≠ pot → s.heap.get? b = some o → h'.get? b = some o) → IsPot h' pot cl → h'.get? tp = some { cls := .type "tuple", data := .seq #[.ref th, .ref ld] } → s.heap.get? tp = none →
      (∀ p ∈ objs, s.heap.get? p.1 = none ∧ h'.get? p.1 = some p.2) → (∀ h'' : Heap, (∀ p ∈ objs, h''.get? p.1 = some p.2) → Built s.heap h'' many th ld nodes parts lead) →
      Q (.ref tp) { s with heap := h', toks := tk }) :
    wpAny (model PySem.Challenge.rw_oj0016_01.row.prog w) (Au dp un fr gd) (call (.ref 196) [.ref pot, .int many tm]) Q E s := by
  revert X; k_fill; intro X
  have hne := hc.ne hp
  obtain ⟨at0, ta0, z0, tz0, c0, hp, ha0, hz0, hz1⟩ := hp
  refine' enterGC (binds := [("pot", .ref pot), ("many", .int many tm)]) X T st [(pot, listOf #[.ref cl, .int at0 ta0, .int z0 tz0] c0)] ?hm ?hroom ?ho ?hcd ?hbind ?hkind ?hnd ?_ ?c1 ?c2 ?c3
  case hm => exact List.forall_mem_cons.mpr ⟨⟨hp, hB⟩, fun _ h => nomatch h⟩
  case hroom => lia
  case ho => k_is
  case hcd => k_is
  case hbind => exact BindsTo.of_eq rfl
  case hkind => exact rfl
  case hnd => decide +kernel
  case c1 => exact rfl
  case c2 => exact rfl
  case c3 => exact rfl
  intro g L' h₁ tk cells F N Y X' T' st' gs lt kp
  have hcg : Cells g cl := by
    obtain ⟨vs, ns, ⟨o, ho, r⟩, b⟩ := hc
    exact ⟨vs, ns, ⟨o, gs _ _ ho (by simpa using hne), r⟩, b⟩
  have hpotL : @LT.lt Nat _ pot L' := lt _ (.head _)
  have gk : ∀ b o, b ≠ pot → s.heap.get? b = some o → g.get? b = some o := fun b o hb e => gs b o e (by simpa using hb)
  clear X T
  obtain ⟨oa, ot, om, op, hE, da, dt, dm, dpo⟩ := CellsAre.four Y
  subst hE
  simp only [List.cons_append, List.nil_append] at N
  replace dpo : op.data = .cell (some (.ref pot)) := dpo
  replace dm : om.data = .cell (some (.int many tm)) := dm
  replace dt : ot.data = .cell none := dt
  replace da : oa.data = .cell none := da
  clear Y
  replace F : Fr g L' h₁ (fun _ => none) := F
  (repeat' (first | ((((fail_if_success (with_reducible show wpAny _ _ (pyIter (Value.ref _)) _ _ _)); (fail_if_success (with_reducible show wpAny _ _ (call (Value.ref _) _) _ _ _)); (fail_if_success (with_reducible show wpAny _ _ (exec (Stmt.While _ _ _ _) _) _ _ _)); (fail_if_success (with_reducible show wpAny _ _ (exec (Stmt.For _ _ _ _ _) _) _ _ _)); (fail_if_success (with_reducible show wpAny _ _ (call (Value.builtin "list.pop") _) _ _ _)); (fail_if_success (with_reducible show wpAny _ _ (compareOp _ (Value.ref _) (Value.ref _)) _ _ _)); (fail_if_success (with_reducible show wpAny _ _ (compareOp CmpOp.NotIn _ (Value.ref _)) _ _ _)); (fail_if_success (with_reducible show wpAny _ _ (subscriptTail _ _ (Value.ref _) (Value.int _ _)) _ _ _)); (fail_if_success (with_reducible show wpAny _ _ (eval (PySem.Expr.ListComp _ _ _ _) _) _ _ _)); (fail_if_success (with_reducible show wpAny _ _ (exec (Stmt.Assign _ (PySem.Expr.ListComp _ _ _ _) _) _) _ _ _)); (fail_if_success (with_reducible show wpAny _ _ (call (Value.builtin "isinstance") _) _ _ _)))); walk1) | ((((fail_if_success (with_reducible show wpAny _ _ (pyIter (Value.ref _)) _ _ _)); (fail_if_success (with_reducible show wpAny _ _ (call (Value.ref _) _) _ _ _)); (fail_if_success (with_reducible show wpAny _ _ (exec (Stmt.While _ _ _ _) _) _ _ _)); (fail_if_success (with_reducible show wpAny _ _ (exec (Stmt.For _ _ _ _ _) _) _ _ _)); (fail_if_success (with_reducible show wpAny _ _ (call (Value.builtin "list.pop") _) _ _ _)); (fail_if_success (with_reducible show wpAny _ _ (compareOp _ (Value.ref _) (Value.ref _)) _ _ _)); (fail_if_success (with_reducible show wpAny _ _ (compareOp CmpOp.NotIn _ (Value.ref _)) _ _ _)); (fail_if_success (with_reducible show wpAny _ _ (subscriptTail _ _ (Value.ref _) (Value.int _ _)) _ _ _)); (fail_if_success (with_reducible show wpAny _ _ (eval (PySem.Expr.ListComp _ _ _ _) _) _ _ _)); (fail_if_success (with_reducible show wpAny _ _ (exec (Stmt.Assign _ (PySem.Expr.ListComp _ _ _ _) _) _) _ _ _)); (fail_if_success (with_reducible show wpAny _ _ (call (Value.builtin "isinstance") _) _ _ _)))); dsimp only; (((fail_if_success (with_reducible show wpAny _ _ (pyIter (Value.ref _)) _ _ _)); (fail_if_success (with_reducible show wpAny _ _ (call (Value.ref _) _) _ _ _)); (fail_if_success (with_reducible show wpAny _ _ (exec (Stmt.While _ _ _ _) _) _ _ _)); (fail_if_success (with_reducible show wpAny _ _ (exec (Stmt.For _ _ _ _ _) _) _ _ _)); (fail_if_success (with_reducible show wpAny _ _ (call (Value.builtin "list.pop") _) _ _ _)); (fail_if_success (with_reducible show wpAny _ _ (compareOp _ (Value.ref _) (Value.ref _)) _ _ _)); (fail_if_success (with_reducible show wpAny _ _ (compareOp CmpOp.NotIn _ (Value.ref _)) _ _ _)); (fail_if_success (with_reducible show wpAny _ _ (subscriptTail _ _ (Value.ref _) (Value.int _ _)) _ _ _)); (fail_if_success (with_reducible show wpAny _ _ (eval (PySem.Expr.ListComp _ _ _ _) _) _ _ _)); (fail_if_success (with_reducible show wpAny _ _ (exec (Stmt.Assign _ (PySem.Expr.ListComp _ _ _ _) _) _) _ _ _)); (fail_if_success (with_reducible show wpAny _ _ (call (Value.builtin "isinstance") _) _ _ _)))); walk1)))
  rename_i thl h5 lA ldl h4 lB D h3 lC h2 h1 ot2 dt2 h0 F N
  have hthl : @LT.lt Nat _ (L' + 1 + 1 + 1 + 1) thl ∧ @LT.lt Nat _ pot thl := ⟨lA.1, lA.2.2.2.2⟩
  have hldl : @LT.lt Nat _ thl ldl := lB.1
  clear lA lB lC dt ot
  have hdA : dp + 1 + 2 < recursionLimit := by lia
  have hdB : dp + 1 + 4 < recursionLimit := by lia
  have huA : un + 3 + 30 < cLine := by lia
  have huB : un + 3 + 20 < cLine := by lia
  have nl1 : @Ne Nat (L' + 1) ldl := by lia
  have nl2 : @Ne Nat (L' + 1 + 1) ldl := by lia
  have nl3 : @Ne Nat (L' + 1 + 1 + 1) ldl := by lia
  have nt1 : @Ne Nat (L' + 1) thl := by lia
  have nt2 : @Ne Nat (L' + 1 + 1) thl := by lia
  have nt3 : @Ne Nat (L' + 1 + 1 + 1) thl := by lia
  have np1 : @Ne Nat (L' + 1) pot := by lia
  have np2 : @Ne Nat (L' + 1 + 1) pot := by lia
  have np3 : @Ne Nat (L' + 1 + 1 + 1) pot := by lia
  have nlp : @Ne Nat ldl pot := by lia
  have ntp : @Ne Nat thl pot := by lia
  have ntl : @Ne Nat thl ldl := by lia
  have hcal : @LT.lt Nat _ (L' + 1 + 1 + 1 + 1) ldl := by lia
  have nca1 : @Ne Nat ldl (L' + 1 + 1 + 1 + 1) := by lia
  have nca2 : @Ne Nat thl (L' + 1 + 1 + 1 + 1) := by lia
  have nca3 : @Ne Nat (L' + 1 + 1 + 1) (L' + 1 + 1 + 1 + 1) := by lia
  have nca4 : @Ne Nat (L' + 1 + 1) (L' + 1 + 1 + 1 + 1) := by lia
  have nca5 : @Ne Nat (L' + 1) (L' + 1 + 1 + 1 + 1) := by lia
  have nca6 : @Ne Nat pot (L' + 1 + 1 + 1 + 1) := by lia
  refine wpAny_For ?_
  (repeat' (first | ((((fail_if_success (with_reducible show wpAny _ _ (pyIter (Value.ref _)) _ _ _)); (fail_if_success (with_reducible show wpAny _ _ (call (Value.ref _) _) _ _ _)); (fail_if_success (with_reducible show wpAny _ _ (exec (Stmt.While _ _ _ _) _) _ _ _)); (fail_if_success (with_reducible show wpAny _ _ (exec (Stmt.For _ _ _ _ _) _) _ _ _)); (fail_if_success (with_reducible show wpAny _ _ (call (Value.builtin "list.pop") _) _ _ _)); (fail_if_success (with_reducible show wpAny _ _ (compareOp _ (Value.ref _) (Value.ref _)) _ _ _)); (fail_if_success (with_reducible show wpAny _ _ (compareOp CmpOp.NotIn _ (Value.ref _)) _ _ _)); (fail_if_success (with_reducible show wpAny _ _ (subscriptTail _ _ (Value.ref _) (Value.int _ _)) _ _ _)); (fail_if_success (with_reducible show wpAny _ _ (eval (PySem.Expr.ListComp _ _ _ _) _) _ _ _)); (fail_if_success (with_reducible show wpAny _ _ (exec (Stmt.Assign _ (PySem.Expr.ListComp _ _ _ _) _) _) _ _ _)); (fail_if_success (with_reducible show wpAny _ _ (call (Value.builtin "isinstance") _) _ _ _)))); walk1) | ((((fail_if_success (with_reducible show wpAny _ _ (pyIter (Value.ref _)) _ _ _)); (fail_if_success (with_reducible show wpAny _ _ (call (Value.ref _) _) _ _ _)); (fail_if_success (with_reducible show wpAny _ _ (exec (Stmt.While _ _ _ _) _) _ _ _)); (fail_if_success (with_reducible show wpAny _ _ (exec (Stmt.For _ _ _ _ _) _) _ _ _)); (fail_if_success (with_reducible show wpAny _ _ (call (Value.builtin "list.pop") _) _ _ _)); (fail_if_success (with_reducible show wpAny _ _ (compareOp _ (Value.ref _) (Value.ref _)) _ _ _)); (fail_if_success (with_reducible show wpAny _ _ (compareOp CmpOp.NotIn _ (Value.ref _)) _ _ _)); (fail_if_success (with_reducible show wpAny _ _ (subscriptTail _ _ (Value.ref _) (Value.int _ _)) _ _ _)); (fail_if_success (with_reducible show wpAny _ _ (eval (PySem.Expr.ListComp _ _ _ _) _) _ _ _)); (fail_if_success (with_reducible show wpAny _ _ (exec (Stmt.Assign _ (PySem.Expr.ListComp _ _ _ _) _) _) _ _ _)); (fail_if_success (with_reducible show wpAny _ _ (call (Value.builtin "isinstance") _) _ _ _)))); dsimp only; (((fail_if_success (with_reducible show wpAny _ _ (pyIter (Value.ref _)) _ _ _)); (fail_if_success (with_reducible show wpAny _ _ (call (Value.ref _) _) _ _ _)); (fail_if_success (with_reducible show wpAny _ _ (exec (Stmt.While _ _ _ _) _) _ _ _)); (fail_if_success (with_reducible show wpAny _ _ (exec (Stmt.For _ _ _ _ _) _) _ _ _)); (fail_if_success (with_reducible show wpAny _ _ (call (Value.builtin "list.pop") _) _ _ _)); (fail_if_success (with_reducible show wpAny _ _ (compareOp _ (Value.ref _) (Value.ref _)) _ _ _)); (fail_if_success (with_reducible show wpAny _ _ (compareOp CmpOp.NotIn _ (Value.ref _)) _ _ _)); (fail_if_success (with_reducible show wpAny _ _ (subscriptTail _ _ (Value.ref _) (Value.int _ _)) _ _ _)); (fail_if_success (with_reducible show wpAny _ _ (eval (PySem.Expr.ListComp _ _ _ _) _) _ _ _)); (fail_if_success (with_reducible show wpAny _ _ (exec (Stmt.Assign _ (PySem.Expr.ListComp _ _ _ _) _) _) _ _ _)); (fail_if_success (with_reducible show wpAny _ _ (call (Value.builtin "isinstance") _) _ _ _)))); walk1)))
  rename IsRange _ _ _ _ _ _ _ _ => R
  rename Fr _ _ _ _ => F; rename News _ _ _ _ => N
  obtain ⟨M0, hM0, F⟩ : ∃ M, M = _ ∧ Fr g L' _ M := ⟨_, rfl, F⟩
  have Np : News g L' _ ((L' + 1 + 1 + 1 + 1, oa) :: FX L' ldl thl pot cl ot2 om op [] [] 0 0 c0 at0 z0 ta0 tz0 []) := fun p hp => N p (sub_np p hp)
  refine iter_range_C (ca := L' + 1 + 1 + 1 + 1) (J1 M0 L' ldl thl pot cl ot2 om op many) rfl rfl rfl rfl R (a_lo1 hm1) (a_hi hm2) F Np ⟨_, da⟩ ?hnc ?hj ?turn ?done
  case hnc =>
    exact List.forall_mem_cons.mpr ⟨nca1, List.forall_mem_cons.mpr ⟨nca2, List.forall_mem_cons.mpr ⟨nca3, List.forall_mem_cons.mpr ⟨nca4, List.forall_mem_cons.mpr ⟨nca5, List.forall_mem_cons.mpr ⟨nca6, fun _ h => nomatch h⟩⟩⟩⟩⟩⟩
  case hj =>
    refine ⟨M0 (Str.ofString "sort"), M0 (Str.ofString "ends"), [], [], [], 0, 0, c0, at0, z0, ta0, tz0, [], ?_, rfl, ⟨ha0, hz0, hz1⟩, ⟨rfl, rfl, rfl⟩, (fun _ h => nomatch h), ⟨List.nodup_nil, (fun _ h => nomatch h), fun j a la l e => nomatch e⟩⟩
    funext y
    by_cases y1 : y = Str.ofString "ends"
    · simp [y1]
    · have hse : Str.ofString "sort" ≠ Str.ofString "ends" := by decide
      by_cases y2 : y = Str.ofString "sort" <;> simp [y1, y2, hse]
  case turn =>
    clear N Np R F
    rintro i tv m₁ news₁ h2 tk2 I oI oc hi ⟨us, ue, nodes, lrefs, lead, c1, c2, c3, at_, z, ta, tz, objs, rfl, rfl, ⟨hat0, hz0', hz1'⟩, ⟨hln, hlr, hll⟩, hab, hmade⟩ hoc F N hne hcaI
    subst hM0
    simp only [FX] at N hne
    simp only [List.forall_mem_cons] at hne
    obtain ⟨⟨q1, q1'⟩, ⟨q2, q2'⟩, ⟨q3, q3'⟩, ⟨q4, q4'⟩, ⟨q5, q5'⟩, ⟨q6, q6'⟩, hob⟩ := hne
    replace q1 := neN q1; replace q2 := neN q2; replace q3 := neN q3; replace q4 := neN q4; replace q5 := neN q5; replace q6 := neN q6
    have hcaI' : @LT.lt Nat _ (L' + 1 + 1 + 1 + 1) I := hcaI
    have hobI : ∀ p ∈ objs, p.1 ≠ I := fun p hp => (hob p hp).1
    clear hcaI q1' q2' q3' q4' q5' q6'
    try dsimp only
    (repeat' (first | ((((fail_if_success (with_reducible show wpAny _ _ (pyIter (Value.ref _)) _ _ _)); (fail_if_success (with_reducible show wpAny _ _ (call (Value.ref _) _) _ _ _)); (fail_if_success (with_reducible show wpAny _ _ (exec (Stmt.While _ _ _ _) _) _ _ _)); (fail_if_success (with_reducible show wpAny _ _ (exec (Stmt.For _ _ _ _ _) _) _ _ _)); (fail_if_success (with_reducible show wpAny _ _ (call (Value.builtin "list.pop") _) _ _ _)); (fail_if_success (with_reducible show wpAny _ _ (compareOp _ (Value.ref _) (Value.ref _)) _ _ _)); (fail_if_success (with_reducible show wpAny _ _ (compareOp CmpOp.NotIn _ (Value.ref _)) _ _ _)); (fail_if_success (with_reducible show wpAny _ _ (subscriptTail _ _ (Value.ref _) (Value.int _ _)) _ _ _)); (fail_if_success (with_reducible show wpAny _ _ (eval (PySem.Expr.ListComp _ _ _ _) _) _ _ _)); (fail_if_success (with_reducible show wpAny _ _ (exec (Stmt.Assign _ (PySem.Expr.ListComp _ _ _ _) _) _) _ _ _)); (fail_if_success (with_reducible show wpAny _ _ (call (Value.builtin "isinstance") _) _ _ _)))); walk1) | ((((fail_if_success (with_reducible show wpAny _ _ (pyIter (Value.ref _)) _ _ _)); (fail_if_success (with_reducible show wpAny _ _ (call (Value.ref _) _) _ _ _)); (fail_if_success (with_reducible show wpAny _ _ (exec (Stmt.While _ _ _ _) _) _ _ _)); (fail_if_success (with_reducible show wpAny _ _ (exec (Stmt.For _ _ _ _ _) _) _ _ _)); (fail_if_success (with_reducible show wpAny _ _ (call (Value.builtin "list.pop") _) _ _ _)); (fail_if_success (with_reducible show wpAny _ _ (compareOp _ (Value.ref _) (Value.ref _)) _ _ _)); (fail_if_success (with_reducible show wpAny _ _ (compareOp CmpOp.NotIn _ (Value.ref _)) _ _ _)); (fail_if_success (with_reducible show wpAny _ _ (subscriptTail _ _ (Value.ref _) (Value.int _ _)) _ _ _)); (fail_if_success (with_reducible show wpAny _ _ (eval (PySem.Expr.ListComp _ _ _ _) _) _ _ _)); (fail_if_success (with_reducible show wpAny _ _ (exec (Stmt.Assign _ (PySem.Expr.ListComp _ _ _ _) _) _) _ _ _)); (fail_if_success (with_reducible show wpAny _ _ (call (Value.builtin "isinstance") _) _ _ _)))); dsimp only; (((fail_if_success (with_reducible show wpAny _ _ (pyIter (Value.ref _)) _ _ _)); (fail_if_success (with_reducible show wpAny _ _ (call (Value.ref _) _) _ _ _)); (fail_if_success (with_reducible show wpAny _ _ (exec (Stmt.While _ _ _ _) _) _ _ _)); (fail_if_success (with_reducible show wpAny _ _ (exec (Stmt.For _ _ _ _ _) _) _ _ _)); (fail_if_success (with_reducible show wpAny _ _ (call (Value.builtin "list.pop") _) _ _ _)); (fail_if_success (with_reducible show wpAny _ _ (compareOp _ (Value.ref _) (Value.ref _)) _ _ _)); (fail_if_success (with_reducible show wpAny _ _ (compareOp CmpOp.NotIn _ (Value.ref _)) _ _ _)); (fail_if_success (with_reducible show wpAny _ _ (subscriptTail _ _ (Value.ref _) (Value.int _ _)) _ _ _)); (fail_if_success (with_reducible show wpAny _ _ (eval (PySem.Expr.ListComp _ _ _ _) _) _ _ _)); (fail_if_success (with_reducible show wpAny _ _ (exec (Stmt.Assign _ (PySem.Expr.ListComp _ _ _ _) _) _) _ _ _)); (fail_if_success (with_reducible show wpAny _ _ (call (Value.builtin "isinstance") _) _ _ _)))); walk1)))
    rename Fr _ _ _ _ => F; rename News _ _ _ _ => N
    have hmp : (pot, listOf #[Value.ref cl, .int at_ ta, .int z tz] c3) ∈ (I, oI) :: (L' + 1 + 1 + 1 + 1, oc) :: (ldl, listOf (lrefs.map Value.ref).toArray c1) :: (thl, listOf (nodes.map Value.ref).toArray c2) :: (L' + 1 + 1 + 1, ot2) :: (L' + 1 + 1, om) :: (L' + 1, op) :: (pot, listOf #[.ref cl, .int at_ ta, .int z tz] c3) :: objs := (.tail _ (.tail _ (.tail _ (.tail _ (.tail _ (.tail _ (.tail _ (.head _))))))))
    have hgp : g.get? pot = none := N.fresh hmp
    refine c_dip (dp := dp + 1) (pot := pot) (cl := cl) X' T' (by exact F.keep) hdA huA (by exact ispot_led N hmp hat0 hz0' hz1') hgp (by exact hcg.keeps F.keep) (by decide) (by decide) ?_
    intro h3 tk3 r tr hk3 hP hr0 hr3
    have F3 := fr_mod F N hmp hk3
    obtain ⟨at3, ta3, z3, tz3, c33, hpe, hat3, hz3, hz3'⟩ := hP
    have N3 := news_upd N (o' := listOf #[.ref cl, .int at3 ta3, .int z3 tz3] c33) (by k_upd) hk3 hpe
    clear F N hmp hat0 hz0' hz1' hk3 hpe
    try dsimp only
    (repeat' (first | ((((fail_if_success (with_reducible show wpAny _ _ (pyIter (Value.ref _)) _ _ _)); (fail_if_success (with_reducible show wpAny _ _ (call (Value.ref _) _) _ _ _)); (fail_if_success (with_reducible show wpAny _ _ (exec (Stmt.While _ _ _ _) _) _ _ _)); (fail_if_success (with_reducible show wpAny _ _ (exec (Stmt.For _ _ _ _ _) _) _ _ _)); (fail_if_success (with_reducible show wpAny _ _ (call (Value.builtin "list.pop") _) _ _ _)); (fail_if_success (with_reducible show wpAny _ _ (compareOp _ (Value.ref _) (Value.ref _)) _ _ _)); (fail_if_success (with_reducible show wpAny _ _ (compareOp CmpOp.NotIn _ (Value.ref _)) _ _ _)); (fail_if_success (with_reducible show wpAny _ _ (subscriptTail _ _ (Value.ref _) (Value.int _ _)) _ _ _)); (fail_if_success (with_reducible show wpAny _ _ (eval (PySem.Expr.ListComp _ _ _ _) _) _ _ _)); (fail_if_success (with_reducible show wpAny _ _ (exec (Stmt.Assign _ (PySem.Expr.ListComp _ _ _ _) _) _) _ _ _)); (fail_if_success (with_reducible show wpAny _ _ (call (Value.builtin "isinstance") _) _ _ _)))); walk1) | ((((fail_if_success (with_reducible show wpAny _ _ (pyIter (Value.ref _)) _ _ _)); (fail_if_success (with_reducible show wpAny _ _ (call (Value.ref _) _) _ _ _)); (fail_if_success (with_reducible show wpAny _ _ (exec (Stmt.While _ _ _ _) _) _ _ _)); (fail_if_success (with_reducible show wpAny _ _ (exec (Stmt.For _ _ _ _ _) _) _ _ _)); (fail_if_success (with_reducible show wpAny _ _ (call (Value.builtin "list.pop") _) _ _ _)); (fail_if_success (with_reducible show wpAny _ _ (compareOp _ (Value.ref _) (Value.ref _)) _ _ _)); (fail_if_success (with_reducible show wpAny _ _ (compareOp CmpOp.NotIn _ (Value.ref _)) _ _ _)); (fail_if_success (with_reducible show wpAny _ _ (subscriptTail _ _ (Value.ref _) (Value.int _ _)) _ _ _)); (fail_if_success (with_reducible show wpAny _ _ (eval (PySem.Expr.ListComp _ _ _ _) _) _ _ _)); (fail_if_success (with_reducible show wpAny _ _ (exec (Stmt.Assign _ (PySem.Expr.ListComp _ _ _ _) _) _) _ _ _)); (fail_if_success (with_reducible show wpAny _ _ (call (Value.builtin "isinstance") _) _ _ _)))); dsimp only; (((fail_if_success (with_reducible show wpAny _ _ (pyIter (Value.ref _)) _ _ _)); (fail_if_success (with_reducible show wpAny _ _ (call (Value.ref _) _) _ _ _)); (fail_if_success (with_reducible show wpAny _ _ (exec (Stmt.While _ _ _ _) _) _ _ _)); (fail_if_success (with_reducible show wpAny _ _ (exec (Stmt.For _ _ _ _ _) _) _ _ _)); (fail_if_success (with_reducible show wpAny _ _ (call (Value.builtin "list.pop") _) _ _ _)); (fail_if_success (with_reducible show wpAny _ _ (compareOp _ (Value.ref _) (Value.ref _)) _ _ _)); (fail_if_success (with_reducible show wpAny _ _ (compareOp CmpOp.NotIn _ (Value.ref _)) _ _ _)); (fail_if_success (with_reducible show wpAny _ _ (subscriptTail _ _ (Value.ref _) (Value.int _ _)) _ _ _)); (fail_if_success (with_reducible show wpAny _ _ (eval (PySem.Expr.ListComp _ _ _ _) _) _ _ _)); (fail_if_success (with_reducible show wpAny _ _ (exec (Stmt.Assign _ (PySem.Expr.ListComp _ _ _ _) _) _) _ _ _)); (fail_if_success (with_reducible show wpAny _ _ (call (Value.builtin "isinstance") _) _ _ _)))); walk1)))
    rename Fr _ _ _ _ => F; rename News _ _ _ _ => N
    refine c_cons (dp := dp + 1) X' T' (by exact F.keep) hdB huB ?_
    rintro x1 dx1 h4 tk4 kp4 hx1 ⟨H11, H12, k11, k12, hd1⟩ hs1 he1
    have F4 := F.keeps kp4
    have N4 := news_add2 F N kp4 hx1 hd1 hs1 he1
    have l4 := lt_new N hs1
    clear F N hx1 hd1
    try dsimp only
    (repeat' (first | ((((fail_if_success (with_reducible show wpAny _ _ (pyIter (Value.ref _)) _ _ _)); (fail_if_success (with_reducible show wpAny _ _ (call (Value.ref _) _) _ _ _)); (fail_if_success (with_reducible show wpAny _ _ (exec (Stmt.While _ _ _ _) _) _ _ _)); (fail_if_success (with_reducible show wpAny _ _ (exec (Stmt.For _ _ _ _ _) _) _ _ _)); (fail_if_success (with_reducible show wpAny _ _ (call (Value.builtin "list.pop") _) _ _ _)); (fail_if_success (with_reducible show wpAny _ _ (compareOp _ (Value.ref _) (Value.ref _)) _ _ _)); (fail_if_success (with_reducible show wpAny _ _ (compareOp CmpOp.NotIn _ (Value.ref _)) _ _ _)); (fail_if_success (with_reducible show wpAny _ _ (subscriptTail _ _ (Value.ref _) (Value.int _ _)) _ _ _)); (fail_if_success (with_reducible show wpAny _ _ (eval (PySem.Expr.ListComp _ _ _ _) _) _ _ _)); (fail_if_success (with_reducible show wpAny _ _ (exec (Stmt.Assign _ (PySem.Expr.ListComp _ _ _ _) _) _) _ _ _)); (fail_if_success (with_reducible show wpAny _ _ (call (Value.builtin "isinstance") _) _ _ _)))); walk1) | ((((fail_if_success (with_reducible show wpAny _ _ (pyIter (Value.ref _)) _ _ _)); (fail_if_success (with_reducible show wpAny _ _ (call (Value.ref _) _) _ _ _)); (fail_if_success (with_reducible show wpAny _ _ (exec (Stmt.While _ _ _ _) _) _ _ _)); (fail_if_success (with_reducible show wpAny _ _ (exec (Stmt.For _ _ _ _ _) _) _ _ _)); (fail_if_success (with_reducible show wpAny _ _ (call (Value.builtin "list.pop") _) _ _ _)); (fail_if_success (with_reducible show wpAny _ _ (compareOp _ (Value.ref _) (Value.ref _)) _ _ _)); (fail_if_success (with_reducible show wpAny _ _ (compareOp CmpOp.NotIn _ (Value.ref _)) _ _ _)); (fail_if_success (with_reducible show wpAny _ _ (subscriptTail _ _ (Value.ref _) (Value.int _ _)) _ _ _)); (fail_if_success (with_reducible show wpAny _ _ (eval (PySem.Expr.ListComp _ _ _ _) _) _ _ _)); (fail_if_success (with_reducible show wpAny _ _ (exec (Stmt.Assign _ (PySem.Expr.ListComp _ _ _ _) _) _) _ _ _)); (fail_if_success (with_reducible show wpAny _ _ (call (Value.builtin "isinstance") _) _ _ _)))); dsimp only; (((fail_if_success (with_reducible show wpAny _ _ (pyIter (Value.ref _)) _ _ _)); (fail_if_success (with_reducible show wpAny _ _ (call (Value.ref _) _) _ _ _)); (fail_if_success (with_reducible show wpAny _ _ (exec (Stmt.While _ _ _ _) _) _ _ _)); (fail_if_success (with_reducible show wpAny _ _ (exec (Stmt.For _ _ _ _ _) _) _ _ _)); (fail_if_success (with_reducible show wpAny _ _ (call (Value.builtin "list.pop") _) _ _ _)); (fail_if_success (with_reducible show wpAny _ _ (compareOp _ (Value.ref _) (Value.ref _)) _ _ _)); (fail_if_success (with_reducible show wpAny _ _ (compareOp CmpOp.NotIn _ (Value.ref _)) _ _ _)); (fail_if_success (with_reducible show wpAny _ _ (subscriptTail _ _ (Value.ref _) (Value.int _ _)) _ _ _)); (fail_if_success (with_reducible show wpAny _ _ (eval (PySem.Expr.ListComp _ _ _ _) _) _ _ _)); (fail_if_success (with_reducible show wpAny _ _ (exec (Stmt.Assign _ (PySem.Expr.ListComp _ _ _ _) _) _) _ _ _)); (fail_if_success (with_reducible show wpAny _ _ (call (Value.builtin "isinstance") _) _ _ _)))); walk1)))
    rename Fr _ _ _ _ => F; rename News _ _ _ _ => N
    rename_i lv _ lvA
    have hlv : @LT.lt Nat _ ldl lv ∧ @LT.lt Nat _ I lv ∧ @LT.lt Nat _ x1 lv := ⟨lvA.2.2.2.2.1, lvA.2.2.1, lvA.1⟩
    refine c_vec (dp := dp + 1) X' T' (by exact F.keep) hdB huB ?_
    rintro x2 dx2 h5 tk5 kp5 hx2 ⟨H21, k21, hd2⟩ hs2 he2
    have F5 := F.keeps kp5
    have N5 := news_add2 F N kp5 hx2 hd2 hs2 he2
    have l5 := lt_new N hs2
    clear F N hx2 hd2
    try dsimp only
    (repeat' (first | ((((fail_if_success (with_reducible show wpAny _ _ (pyIter (Value.ref _)) _ _ _)); (fail_if_success (with_reducible show wpAny _ _ (call (Value.ref _) _) _ _ _)); (fail_if_success (with_reducible show wpAny _ _ (exec (Stmt.While _ _ _ _) _) _ _ _)); (fail_if_success (with_reducible show wpAny _ _ (exec (Stmt.For _ _ _ _ _) _) _ _ _)); (fail_if_success (with_reducible show wpAny _ _ (call (Value.builtin "list.pop") _) _ _ _)); (fail_if_success (with_reducible show wpAny _ _ (compareOp _ (Value.ref _) (Value.ref _)) _ _ _)); (fail_if_success (with_reducible show wpAny _ _ (compareOp CmpOp.NotIn _ (Value.ref _)) _ _ _)); (fail_if_success (with_reducible show wpAny _ _ (subscriptTail _ _ (Value.ref _) (Value.int _ _)) _ _ _)); (fail_if_success (with_reducible show wpAny _ _ (eval (PySem.Expr.ListComp _ _ _ _) _) _ _ _)); (fail_if_success (with_reducible show wpAny _ _ (exec (Stmt.Assign _ (PySem.Expr.ListComp _ _ _ _) _) _) _ _ _)); (fail_if_success (with_reducible show wpAny _ _ (call (Value.builtin "isinstance") _) _ _ _)))); walk1) | ((((fail_if_success (with_reducible show wpAny _ _ (pyIter (Value.ref _)) _ _ _)); (fail_if_success (with_reducible show wpAny _ _ (call (Value.ref _) _) _ _ _)); (fail_if_success (with_reducible show wpAny _ _ (exec (Stmt.While _ _ _ _) _) _ _ _)); (fail_if_success (with_reducible show wpAny _ _ (exec (Stmt.For _ _ _ _ _) _) _ _ _)); (fail_if_success (with_reducible show wpAny _ _ (call (Value.builtin "list.pop") _) _ _ _)); (fail_if_success (with_reducible show wpAny _ _ (compareOp _ (Value.ref _) (Value.ref _)) _ _ _)); (fail_if_success (with_reducible show wpAny _ _ (compareOp CmpOp.NotIn _ (Value.ref _)) _ _ _)); (fail_if_success (with_reducible show wpAny _ _ (subscriptTail _ _ (Value.ref _) (Value.int _ _)) _ _ _)); (fail_if_success (with_reducible show wpAny _ _ (eval (PySem.Expr.ListComp _ _ _ _) _) _ _ _)); (fail_if_success (with_reducible show wpAny _ _ (exec (Stmt.Assign _ (PySem.Expr.ListComp _ _ _ _) _) _) _ _ _)); (fail_if_success (with_reducible show wpAny _ _ (call (Value.builtin "isinstance") _) _ _ _)))); dsimp only; (((fail_if_success (with_reducible show wpAny _ _ (pyIter (Value.ref _)) _ _ _)); (fail_if_success (with_reducible show wpAny _ _ (call (Value.ref _) _) _ _ _)); (fail_if_success (with_reducible show wpAny _ _ (exec (Stmt.While _ _ _ _) _) _ _ _)); (fail_if_success (with_reducible show wpAny _ _ (exec (Stmt.For _ _ _ _ _) _) _ _ _)); (fail_if_success (with_reducible show wpAny _ _ (call (Value.builtin "list.pop") _) _ _ _)); (fail_if_success (with_reducible show wpAny _ _ (compareOp _ (Value.ref _) (Value.ref _)) _ _ _)); (fail_if_success (with_reducible show wpAny _ _ (compareOp CmpOp.NotIn _ (Value.ref _)) _ _ _)); (fail_if_success (with_reducible show wpAny _ _ (subscriptTail _ _ (Value.ref _) (Value.int _ _)) _ _ _)); (fail_if_success (with_reducible show wpAny _ _ (eval (PySem.Expr.ListComp _ _ _ _) _) _ _ _)); (fail_if_success (with_reducible show wpAny _ _ (exec (Stmt.Assign _ (PySem.Expr.ListComp _ _ _ _) _) _) _ _ _)); (fail_if_success (with_reducible show wpAny _ _ (call (Value.builtin "isinstance") _) _ _ _)))); walk1)))
    rename Fr _ _ _ _ => F; rename News _ _ _ _ => N
    refine c_text (dp := dp + 1) X' T' (by exact F.keep) hdB huB ?_
    rintro x3 dx3 h6 tk6 kp6 hx3 ⟨es3, n3, hd3⟩ hs3 he3
    have F6 := F.keeps kp6
    have N6 := news_add2 F N kp6 hx3 hd3 hs3 he3
    have l6 := lt_new N hs3
    clear F N hx3 hd3
    try dsimp only
    (repeat' (first | ((((fail_if_success (with_reducible show wpAny _ _ (pyIter (Value.ref _)) _ _ _)); (fail_if_success (with_reducible show wpAny _ _ (call (Value.ref _) _) _ _ _)); (fail_if_success (with_reducible show wpAny _ _ (exec (Stmt.While _ _ _ _) _) _ _ _)); (fail_if_success (with_reducible show wpAny _ _ (exec (Stmt.For _ _ _ _ _) _) _ _ _)); (fail_if_success (with_reducible show wpAny _ _ (call (Value.builtin "list.pop") _) _ _ _)); (fail_if_success (with_reducible show wpAny _ _ (compareOp _ (Value.ref _) (Value.ref _)) _ _ _)); (fail_if_success (with_reducible show wpAny _ _ (compareOp CmpOp.NotIn _ (Value.ref _)) _ _ _)); (fail_if_success (with_reducible show wpAny _ _ (subscriptTail _ _ (Value.ref _) (Value.int _ _)) _ _ _)); (fail_if_success (with_reducible show wpAny _ _ (eval (PySem.Expr.ListComp _ _ _ _) _) _ _ _)); (fail_if_success (with_reducible show wpAny _ _ (exec (Stmt.Assign _ (PySem.Expr.ListComp _ _ _ _) _) _) _ _ _)); (fail_if_success (with_reducible show wpAny _ _ (call (Value.builtin "isinstance") _) _ _ _)))); walk1) | ((((fail_if_success (with_reducible show wpAny _ _ (pyIter (Value.ref _)) _ _ _)); (fail_if_success (with_reducible show wpAny _ _ (call (Value.ref _) _) _ _ _)); (fail_if_success (with_reducible show wpAny _ _ (exec (Stmt.While _ _ _ _) _) _ _ _)); (fail_if_success (with_reducible show wpAny _ _ (exec (Stmt.For _ _ _ _ _) _) _ _ _)); (fail_if_success (with_reducible show wpAny _ _ (call (Value.builtin "list.pop") _) _ _ _)); (fail_if_success (with_reducible show wpAny _ _ (compareOp _ (Value.ref _) (Value.ref _)) _ _ _)); (fail_if_success (with_reducible show wpAny _ _ (compareOp CmpOp.NotIn _ (Value.ref _)) _ _ _)); (fail_if_success (with_reducible show wpAny _ _ (subscriptTail _ _ (Value.ref _) (Value.int _ _)) _ _ _)); (fail_if_success (with_reducible show wpAny _ _ (eval (PySem.Expr.ListComp _ _ _ _) _) _ _ _)); (fail_if_success (with_reducible show wpAny _ _ (exec (Stmt.Assign _ (PySem.Expr.ListComp _ _ _ _) _) _) _ _ _)); (fail_if_success (with_reducible show wpAny _ _ (call (Value.builtin "isinstance") _) _ _ _)))); dsimp only; (((fail_if_success (with_reducible show wpAny _ _ (pyIter (Value.ref _)) _ _ _)); (fail_if_success (with_reducible show wpAny _ _ (call (Value.ref _) _) _ _ _)); (fail_if_success (with_reducible show wpAny _ _ (exec (Stmt.While _ _ _ _) _) _ _ _)); (fail_if_success (with_reducible show wpAny _ _ (exec (Stmt.For _ _ _ _ _) _) _ _ _)); (fail_if_success (with_reducible show wpAny _ _ (call (Value.builtin "list.pop") _) _ _ _)); (fail_if_success (with_reducible show wpAny _ _ (compareOp _ (Value.ref _) (Value.ref _)) _ _ _)); (fail_if_success (with_reducible show wpAny _ _ (compareOp CmpOp.NotIn _ (Value.ref _)) _ _ _)); (fail_if_success (with_reducible show wpAny _ _ (subscriptTail _ _ (Value.ref _) (Value.int _ _)) _ _ _)); (fail_if_success (with_reducible show wpAny _ _ (eval (PySem.Expr.ListComp _ _ _ _) _) _ _ _)); (fail_if_success (with_reducible show wpAny _ _ (exec (Stmt.Assign _ (PySem.Expr.ListComp _ _ _ _) _) _) _ _ _)); (fail_if_success (with_reducible show wpAny _ _ (call (Value.builtin "isinstance") _) _ _ _)))); walk1)))
    rename Fr _ _ _ _ => F; rename News _ _ _ _ => N
    rename_i Dl _ lD5
    obtain ⟨a, hra, hia, haa⟩ := pick3 (P := InL [(x3, instObj 77 dx3), (dx3, dictOf es3 n3), (x2, instObj 98 dx2), (dx2, dictOf [⟨H21, .str (Str.ofString "things") k21, .ref lv⟩] 1), (lv, listOf #[] 0), (x1, instObj 55 dx1), (dx1, dictOf [⟨H11, .str (Str.ofString "car") k11, .ref 37⟩, ⟨H12, .str (Str.ofString "cdr") k12, .ref 37⟩] 2)]) hr0 hr3
      (.cons (List.mem_of_getElem? (i := 5) rfl) (List.mem_of_getElem? (i := 6) rfl) he1) (.vec (List.mem_of_getElem? (i := 2) rfl) (List.mem_of_getElem? (i := 3) rfl) he2) (.text (List.mem_of_getElem? (i := 0) rfl) (List.mem_of_getElem? (i := 1) rfl) he3)
    have e1 : @Eq Nat x1 (dx1 + 1) := he1
    have e2 : @Eq Nat x2 (dx2 + 1) := he2
    have e3 : @Eq Nat x3 (dx3 + 1) := he3
    have m1 : @LT.lt Nat _ ldl dx1 := l4 (ldl, listOf (lrefs.map Value.ref).toArray c1) (.tail _ (.tail _ (.head _)))
    have m2 : @LT.lt Nat _ I dx1 := l4 (I, oI) (.head _)
    have m3 : @LT.lt Nat _ x1 dx2 := l5 (x1, instObj 55 dx1) (.tail _ (.head _))
    have m4 : @LT.lt Nat _ x2 dx3 := l6 (x2, instObj 98 dx2) (.tail _ (.head _))
    have m5 : @LT.lt Nat _ lv dx2 := l5 (lv, listOf #[] 0) (.head _)
    have hob1 : ∀ p ∈ objs, @LT.lt Nat _ p.1 dx1 := fun p hp => l4 p (at8 hp)
    have hno : a ∉ nodes := fun hm => by
      obtain ⟨C, o, ho⟩ := hmade.inn a hm
      have h1 : @LT.lt Nat _ a dx1 := hob1 _ ho
      exact a_hno e1 e2 e3 m3 m4 haa h1
    refine item_at (k := r) (News.isList (a := Dl) N (.head _)) hr0 (a63m hr3 (by decide)) (v := .ref a) (by simpa using hra) ?_ (by with_unfolding_all rfl)
    obtain ⟨objs2, ho2⟩ : ∃ o2, o2 = [(x3, instObj 77 dx3), (dx3, dictOf es3 n3), (x2, instObj 98 dx2), (dx2, dictOf [⟨H21, .str (Str.ofString "things") k21, .ref lv⟩] 1), (lv, listOf #[] 0), (x1, instObj 55 dx1), (dx1, dictOf [⟨H11, .str (Str.ofString "car") k11, .ref 37⟩, ⟨H12, .str (Str.ofString "cdr") k12, .ref 37⟩] 2)] ++ objs := ⟨_, rfl⟩
    have hh := a_new e1 e2 e3 m3 m4 hlv.2.2
    have hnew : ∀ p ∈ objs2, p ∉ objs → @LE.le Nat _ dx1 p.1 := fun p hp hn => by
      subst ho2
      simp only [List.cons_append, List.nil_append, List.mem_cons] at hp
      rcases hp with rfl | rfl | rfl | rfl | rfl | rfl | rfl | hp
      · exact hh.1
      · exact hh.2.1
      · exact hh.2.2.1
      · exact hh.2.2.2.1
      · exact hh.2.2.2.2.1
      · exact hh.2.2.2.2.2.1
      · exact hh.2.2.2.2.2.2
      · exact absurd hp hn
    have hab2 : Above ldl objs2 := fun p hp => by
      by_cases q : p ∈ objs
      · exact hab p q
      · exact Nat.lt_of_lt_of_le m1 (hnew p hp q)
    have hob2 : ∀ p ∈ objs2, p.1 ≠ I ∧ p.1 ≠ L' + 1 + 1 + 1 + 1 := fun p hp => by
      by_cases q : p ∈ objs
      · exact hob p q
      · exact ⟨Nat.ne_of_gt (Nat.lt_of_lt_of_le m2 (hnew p hp q)), Nat.ne_of_gt (Nat.lt_of_lt_of_le (Nat.lt_trans hthl.1 (Nat.lt_trans hldl m1)) (hnew p hp q))⟩
    have hsub2 : ∀ b o, InL objs b o → InL objs2 b o := fun b o e => ho2 ▸ List.mem_append_right _ e
    have hia2 : InitN (InL objs2) r a := hia.mono fun b o e => ho2 ▸ List.mem_append_left _ e
    have N2 : News g L' _ ((I, oI) :: (L' + 1 + 1 + 1 + 1, oc) :: (ldl, listOf (lrefs.map Value.ref).toArray c1) :: (thl, listOf (nodes.map Value.ref).toArray c2) :: (L' + 1 + 1 + 1, ot2) :: (L' + 1 + 1, om) :: (L' + 1, op) :: (pot, listOf #[.ref cl, .int at3 ta3, .int z3 tz3] c33) :: objs2) := fun p hp => N p (sub_c ho2 p hp)
    clear hh ho2 hnew hia hra haa l4 l5 l6 m1 m2 m3 m4 m5 hlv hob1 e1 e2 e3 he1 he2 he3 hs1 hs2 hs3 N lD5

    clear hob hobI hab
    have hobI2 : ∀ p ∈ objs2, p.1 ≠ I := fun p hp => (hob2 p hp).1
    (repeat' (first | ((((fail_if_success (with_reducible show wpAny _ _ (pyIter (Value.ref _)) _ _ _)); (fail_if_success (with_reducible show wpAny _ _ (call (Value.ref _) _) _ _ _)); (fail_if_success (with_reducible show wpAny _ _ (exec (Stmt.While _ _ _ _) _) _ _ _)); (fail_if_success (with_reducible show wpAny _ _ (exec (Stmt.For _ _ _ _ _) _) _ _ _)); (fail_if_success (with_reducible show wpAny _ _ (call (Value.builtin "list.pop") _) _ _ _)); (fail_if_success (with_reducible show wpAny _ _ (compareOp _ (Value.ref _) (Value.ref _)) _ _ _)); (fail_if_success (with_reducible show wpAny _ _ (compareOp CmpOp.NotIn _ (Value.ref _)) _ _ _)); (fail_if_success (with_reducible show wpAny _ _ (subscriptTail _ _ (Value.ref _) (Value.int _ _)) _ _ _)); (fail_if_success (with_reducible show wpAny _ _ (eval (PySem.Expr.ListComp _ _ _ _) _) _ _ _)); (fail_if_success (with_reducible show wpAny _ _ (exec (Stmt.Assign _ (PySem.Expr.ListComp _ _ _ _) _) _) _ _ _)); (fail_if_success (with_reducible show wpAny _ _ (call (Value.builtin "isinstance") _) _ _ _)))); walk1) | ((((fail_if_success (with_reducible show wpAny _ _ (pyIter (Value.ref _)) _ _ _)); (fail_if_success (with_reducible show wpAny _ _ (call (Value.ref _) _) _ _ _)); (fail_if_success (with_reducible show wpAny _ _ (exec (Stmt.While _ _ _ _) _) _ _ _)); (fail_if_success (with_reducible show wpAny _ _ (exec (Stmt.For _ _ _ _ _) _) _ _ _)); (fail_if_success (with_reducible show wpAny _ _ (call (Value.builtin "list.pop") _) _ _ _)); (fail_if_success (with_reducible show wpAny _ _ (compareOp _ (Value.ref _) (Value.ref _)) _ _ _)); (fail_if_success (with_reducible show wpAny _ _ (compareOp CmpOp.NotIn _ (Value.ref _)) _ _ _)); (fail_if_success (with_reducible show wpAny _ _ (subscriptTail _ _ (Value.ref _) (Value.int _ _)) _ _ _)); (fail_if_success (with_reducible show wpAny _ _ (eval (PySem.Expr.ListComp _ _ _ _) _) _ _ _)); (fail_if_success (with_reducible show wpAny _ _ (exec (Stmt.Assign _ (PySem.Expr.ListComp _ _ _ _) _) _) _ _ _)); (fail_if_success (with_reducible show wpAny _ _ (call (Value.builtin "isinstance") _) _ _ _)))); dsimp only; (((fail_if_success (with_reducible show wpAny _ _ (pyIter (Value.ref _)) _ _ _)); (fail_if_success (with_reducible show wpAny _ _ (call (Value.ref _) _) _ _ _)); (fail_if_success (with_reducible show wpAny _ _ (exec (Stmt.While _ _ _ _) _) _ _ _)); (fail_if_success (with_reducible show wpAny _ _ (exec (Stmt.For _ _ _ _ _) _) _ _ _)); (fail_if_success (with_reducible show wpAny _ _ (call (Value.builtin "list.pop") _) _ _ _)); (fail_if_success (with_reducible show wpAny _ _ (compareOp _ (Value.ref _) (Value.ref _)) _ _ _)); (fail_if_success (with_reducible show wpAny _ _ (compareOp CmpOp.NotIn _ (Value.ref _)) _ _ _)); (fail_if_success (with_reducible show wpAny _ _ (subscriptTail _ _ (Value.ref _) (Value.int _ _)) _ _ _)); (fail_if_success (with_reducible show wpAny _ _ (eval (PySem.Expr.ListComp _ _ _ _) _) _ _ _)); (fail_if_success (with_reducible show wpAny _ _ (exec (Stmt.Assign _ (PySem.Expr.ListComp _ _ _ _) _) _) _ _ _)); (fail_if_success (with_reducible show wpAny _ _ (call (Value.builtin "isinstance") _) _ _ _)))); walk1)))
    rename Fr _ _ _ _ => F; rename News _ _ _ _ => N
    have hnp : (nodes.map Value.ref).toArray.push (.ref a) = ((nodes ++ [a]).map Value.ref).toArray := by simp
    rw [hnp] at N
    refine' Assign_ListCompM ?b1 ?b2 ?b3 ?b4 ?b5 ?b6 ?b7 ?b8 ?_ ?b9
    case b1 => with_unfolding_all rfl
    case b2 => with_unfolding_all rfl
    case b3 => decide
    case b4 => rfl
    case b5 => decide
    case b6 => rfl
    case b7 => rfl
    case b8 => rfl
    case b9 => with_unfolding_all (intro _; rfl)
    (repeat' (first | ((((fail_if_success (with_reducible show wpAny _ _ (pyIter (Value.ref _)) _ _ _)); (fail_if_success (with_reducible show wpAny _ _ (call (Value.ref _) _) _ _ _)); (fail_if_success (with_reducible show wpAny _ _ (exec (Stmt.While _ _ _ _) _) _ _ _)); (fail_if_success (with_reducible show wpAny _ _ (exec (Stmt.For _ _ _ _ _) _) _ _ _)); (fail_if_success (with_reducible show wpAny _ _ (call (Value.builtin "list.pop") _) _ _ _)); (fail_if_success (with_reducible show wpAny _ _ (compareOp _ (Value.ref _) (Value.ref _)) _ _ _)); (fail_if_success (with_reducible show wpAny _ _ (compareOp CmpOp.NotIn _ (Value.ref _)) _ _ _)); (fail_if_success (with_reducible show wpAny _ _ (subscriptTail _ _ (Value.ref _) (Value.int _ _)) _ _ _)); (fail_if_success (with_reducible show wpAny _ _ (eval (PySem.Expr.ListComp _ _ _ _) _) _ _ _)); (fail_if_success (with_reducible show wpAny _ _ (exec (Stmt.Assign _ (PySem.Expr.ListComp _ _ _ _) _) _) _ _ _)); (fail_if_success (with_reducible show wpAny _ _ (call (Value.builtin "isinstance") _) _ _ _)))); walk1) | ((((fail_if_success (with_reducible show wpAny _ _ (pyIter (Value.ref _)) _ _ _)); (fail_if_success (with_reducible show wpAny _ _ (call (Value.ref _) _) _ _ _)); (fail_if_success (with_reducible show wpAny _ _ (exec (Stmt.While _ _ _ _) _) _ _ _)); (fail_if_success (with_reducible show wpAny _ _ (exec (Stmt.For _ _ _ _ _) _) _ _ _)); (fail_if_success (with_reducible show wpAny _ _ (call (Value.builtin "list.pop") _) _ _ _)); (fail_if_success (with_reducible show wpAny _ _ (compareOp _ (Value.ref _) (Value.ref _)) _ _ _)); (fail_if_success (with_reducible show wpAny _ _ (compareOp CmpOp.NotIn _ (Value.ref _)) _ _ _)); (fail_if_success (with_reducible show wpAny _ _ (subscriptTail _ _ (Value.ref _) (Value.int _ _)) _ _ _)); (fail_if_success (with_reducible show wpAny _ _ (eval (PySem.Expr.ListComp _ _ _ _) _) _ _ _)); (fail_if_success (with_reducible show wpAny _ _ (exec (Stmt.Assign _ (PySem.Expr.ListComp _ _ _ _) _) _) _ _ _)); (fail_if_success (with_reducible show wpAny _ _ (call (Value.builtin "isinstance") _) _ _ _)))); dsimp only; (((fail_if_success (with_reducible show wpAny _ _ (pyIter (Value.ref _)) _ _ _)); (fail_if_success (with_reducible show wpAny _ _ (call (Value.ref _) _) _ _ _)); (fail_if_success (with_reducible show wpAny _ _ (exec (Stmt.While _ _ _ _) _) _ _ _)); (fail_if_success (with_reducible show wpAny _ _ (exec (Stmt.For _ _ _ _ _) _) _ _ _)); (fail_if_success (with_reducible show wpAny _ _ (call (Value.builtin "list.pop") _) _ _ _)); (fail_if_success (with_reducible show wpAny _ _ (compareOp _ (Value.ref _) (Value.ref _)) _ _ _)); (fail_if_success (with_reducible show wpAny _ _ (compareOp CmpOp.NotIn _ (Value.ref _)) _ _ _)); (fail_if_success (with_reducible show wpAny _ _ (subscriptTail _ _ (Value.ref _) (Value.int _ _)) _ _ _)); (fail_if_success (with_reducible show wpAny _ _ (eval (PySem.Expr.ListComp _ _ _ _) _) _ _ _)); (fail_if_success (with_reducible show wpAny _ _ (exec (Stmt.Assign _ (PySem.Expr.ListComp _ _ _ _) _) _) _ _ _)); (fail_if_success (with_reducible show wpAny _ _ (call (Value.builtin "isinstance") _) _ _ _)))); walk1)))
    rename Fr _ _ _ _ => F; rename News _ _ _ _ => N
    have hmp : (pot, listOf #[Value.ref cl, .int at3 ta3, .int z3 tz3] c33) ∈ (I, oI) :: (L' + 1 + 1 + 1 + 1, oc) :: (ldl, listOf (lrefs.map Value.ref).toArray c1) :: (thl, listOf ((nodes ++ [a]).map Value.ref).toArray (c2 + 1)) :: (L' + 1 + 1 + 1, ot2) :: (L' + 1 + 1, om) :: (L' + 1, op) :: (pot, listOf #[.ref cl, .int at3 ta3, .int z3 tz3] c33) :: objs2 := (.tail _ (.tail _ (.tail _ (.tail _ (.tail _ (.tail _ (.tail _ (.head _))))))))
    refine c_dip (dp := dp + 1) (pot := pot) (cl := cl) X' T' (by exact F.keep) hdA huA (by exact ispot_led N hmp hat3 hz3 hz3') hgp (by exact hcg.keeps F.keep) (by decide) (by decide) ?_
    intro h7 tk7 d td hk7 hP hd0 hd4
    have F7 := fr_mod F N hmp hk7
    obtain ⟨at4, ta4, z4, tz4, c34, hpe, hat4, hz4, hz4'⟩ := hP
    have N7 := news_upd N (o' := listOf #[.ref cl, .int at4 ta4, .int z4 tz4] c34) (by k_upd) hk7 hpe
    clear F N hmp hat3 hz3 hz3' hk7 hpe
    try dsimp only
    (repeat' (first | ((((fail_if_success (with_reducible show wpAny _ _ (pyIter (Value.ref _)) _ _ _)); (fail_if_success (with_reducible show wpAny _ _ (call (Value.ref _) _) _ _ _)); (fail_if_success (with_reducible show wpAny _ _ (exec (Stmt.While _ _ _ _) _) _ _ _)); (fail_if_success (with_reducible show wpAny _ _ (exec (Stmt.For _ _ _ _ _) _) _ _ _)); (fail_if_success (with_reducible show wpAny _ _ (call (Value.builtin "list.pop") _) _ _ _)); (fail_if_success (with_reducible show wpAny _ _ (compareOp _ (Value.ref _) (Value.ref _)) _ _ _)); (fail_if_success (with_reducible show wpAny _ _ (compareOp CmpOp.NotIn _ (Value.ref _)) _ _ _)); (fail_if_success (with_reducible show wpAny _ _ (subscriptTail _ _ (Value.ref _) (Value.int _ _)) _ _ _)); (fail_if_success (with_reducible show wpAny _ _ (eval (PySem.Expr.ListComp _ _ _ _) _) _ _ _)); (fail_if_success (with_reducible show wpAny _ _ (exec (Stmt.Assign _ (PySem.Expr.ListComp _ _ _ _) _) _) _ _ _)); (fail_if_success (with_reducible show wpAny _ _ (call (Value.builtin "isinstance") _) _ _ _)))); walk1) | ((((fail_if_success (with_reducible show wpAny _ _ (pyIter (Value.ref _)) _ _ _)); (fail_if_success (with_reducible show wpAny _ _ (call (Value.ref _) _) _ _ _)); (fail_if_success (with_reducible show wpAny _ _ (exec (Stmt.While _ _ _ _) _) _ _ _)); (fail_if_success (with_reducible show wpAny _ _ (exec (Stmt.For _ _ _ _ _) _) _ _ _)); (fail_if_success (with_reducible show wpAny _ _ (call (Value.builtin "list.pop") _) _ _ _)); (fail_if_success (with_reducible show wpAny _ _ (compareOp _ (Value.ref _) (Value.ref _)) _ _ _)); (fail_if_success (with_reducible show wpAny _ _ (compareOp CmpOp.NotIn _ (Value.ref _)) _ _ _)); (fail_if_success (with_reducible show wpAny _ _ (subscriptTail _ _ (Value.ref _) (Value.int _ _)) _ _ _)); (fail_if_success (with_reducible show wpAny _ _ (eval (PySem.Expr.ListComp _ _ _ _) _) _ _ _)); (fail_if_success (with_reducible show wpAny _ _ (exec (Stmt.Assign _ (PySem.Expr.ListComp _ _ _ _) _) _) _ _ _)); (fail_if_success (with_reducible show wpAny _ _ (call (Value.builtin "isinstance") _) _ _ _)))); dsimp only; (((fail_if_success (with_reducible show wpAny _ _ (pyIter (Value.ref _)) _ _ _)); (fail_if_success (with_reducible show wpAny _ _ (call (Value.ref _) _) _ _ _)); (fail_if_success (with_reducible show wpAny _ _ (exec (Stmt.While _ _ _ _) _) _ _ _)); (fail_if_success (with_reducible show wpAny _ _ (exec (Stmt.For _ _ _ _ _) _) _ _ _)); (fail_if_success (with_reducible show wpAny _ _ (call (Value.builtin "list.pop") _) _ _ _)); (fail_if_success (with_reducible show wpAny _ _ (compareOp _ (Value.ref _) (Value.ref _)) _ _ _)); (fail_if_success (with_reducible show wpAny _ _ (compareOp CmpOp.NotIn _ (Value.ref _)) _ _ _)); (fail_if_success (with_reducible show wpAny _ _ (subscriptTail _ _ (Value.ref _) (Value.int _ _)) _ _ _)); (fail_if_success (with_reducible show wpAny _ _ (eval (PySem.Expr.ListComp _ _ _ _) _) _ _ _)); (fail_if_success (with_reducible show wpAny _ _ (exec (Stmt.Assign _ (PySem.Expr.ListComp _ _ _ _) _) _) _ _ _)); (fail_if_success (with_reducible show wpAny _ _ (call (Value.builtin "isinstance") _) _ _ _)))); walk1)))
    rename Fr _ _ _ _ => F; rename News _ _ _ _ => N
    obtain ⟨cnt, tc, hrc, hcn0, hcn3, hcnr0, hcnr2⟩ := pickc (t1 := tk) (t2 := td) (t3 := tk7) hr0 hr3 hd0 hd4
    refine item_at (k := r) (News.isList N (.head _)) hr0 (a63m hr3 (by decide)) hrc ?_ (by with_unfolding_all rfl)
    replace N := N.tail'
    clear hrc hd0 hd4
    try dsimp only
    (repeat' (first | ((((fail_if_success (with_reducible show wpAny _ _ (pyIter (Value.ref _)) _ _ _)); (fail_if_success (with_reducible show wpAny _ _ (call (Value.ref _) _) _ _ _)); (fail_if_success (with_reducible show wpAny _ _ (exec (Stmt.While _ _ _ _) _) _ _ _)); (fail_if_success (with_reducible show wpAny _ _ (exec (Stmt.For _ _ _ _ _) _) _ _ _)); (fail_if_success (with_reducible show wpAny _ _ (call (Value.builtin "list.pop") _) _ _ _)); (fail_if_success (with_reducible show wpAny _ _ (compareOp _ (Value.ref _) (Value.ref _)) _ _ _)); (fail_if_success (with_reducible show wpAny _ _ (compareOp CmpOp.NotIn _ (Value.ref _)) _ _ _)); (fail_if_success (with_reducible show wpAny _ _ (subscriptTail _ _ (Value.ref _) (Value.int _ _)) _ _ _)); (fail_if_success (with_reducible show wpAny _ _ (eval (PySem.Expr.ListComp _ _ _ _) _) _ _ _)); (fail_if_success (with_reducible show wpAny _ _ (exec (Stmt.Assign _ (PySem.Expr.ListComp _ _ _ _) _) _) _ _ _)); (fail_if_success (with_reducible show wpAny _ _ (call (Value.builtin "isinstance") _) _ _ _)))); walk1) | ((((fail_if_success (with_reducible show wpAny _ _ (pyIter (Value.ref _)) _ _ _)); (fail_if_success (with_reducible show wpAny _ _ (call (Value.ref _) _) _ _ _)); (fail_if_success (with_reducible show wpAny _ _ (exec (Stmt.While _ _ _ _) _) _ _ _)); (fail_if_success (with_reducible show wpAny _ _ (exec (Stmt.For _ _ _ _ _) _) _ _ _)); (fail_if_success (with_reducible show wpAny _ _ (call (Value.builtin "list.pop") _) _ _ _)); (fail_if_success (with_reducible show wpAny _ _ (compareOp _ (Value.ref _) (Value.ref _)) _ _ _)); (fail_if_success (with_reducible show wpAny _ _ (compareOp CmpOp.NotIn _ (Value.ref _)) _ _ _)); (fail_if_success (with_reducible show wpAny _ _ (subscriptTail _ _ (Value.ref _) (Value.int _ _)) _ _ _)); (fail_if_success (with_reducible show wpAny _ _ (eval (PySem.Expr.ListComp _ _ _ _) _) _ _ _)); (fail_if_success (with_reducible show wpAny _ _ (exec (Stmt.Assign _ (PySem.Expr.ListComp _ _ _ _) _) _) _ _ _)); (fail_if_success (with_reducible show wpAny _ _ (call (Value.builtin "isinstance") _) _ _ _)))); dsimp only; (((fail_if_success (with_reducible show wpAny _ _ (pyIter (Value.ref _)) _ _ _)); (fail_if_success (with_reducible show wpAny _ _ (call (Value.ref _) _) _ _ _)); (fail_if_success (with_reducible show wpAny _ _ (exec (Stmt.While _ _ _ _) _) _ _ _)); (fail_if_success (with_reducible show wpAny _ _ (exec (Stmt.For _ _ _ _ _) _) _ _ _)); (fail_if_success (with_reducible show wpAny _ _ (call (Value.builtin "list.pop") _) _ _ _)); (fail_if_success (with_reducible show wpAny _ _ (compareOp _ (Value.ref _) (Value.ref _)) _ _ _)); (fail_if_success (with_reducible show wpAny _ _ (compareOp CmpOp.NotIn _ (Value.ref _)) _ _ _)); (fail_if_success (with_reducible show wpAny _ _ (subscriptTail _ _ (Value.ref _) (Value.int _ _)) _ _ _)); (fail_if_success (with_reducible show wpAny _ _ (eval (PySem.Expr.ListComp _ _ _ _) _) _ _ _)); (fail_if_success (with_reducible show wpAny _ _ (exec (Stmt.Assign _ (PySem.Expr.ListComp _ _ _ _) _) _) _ _ _)); (fail_if_success (with_reducible show wpAny _ _ (call (Value.builtin "isinstance") _) _ _ _)))); walk1)))
    rename IsRange _ _ _ _ _ _ _ _ => R
    rename Fr _ _ _ _ => F; rename News _ _ _ _ => N
    rename_i hA _ _ _ _ _
    obtain ⟨mf, hmf, F⟩ : ∃ M, M = _ ∧ Fr g L' _ M := ⟨_, rfl, F⟩
    have hIP : IsPot hA pot cl := ⟨_, _, _, _, _, N.get (a := pot) (o := listOf #[.ref cl, .int at4 ta4, .int z4 tz4] c34) (.tail _ (.tail _ (.tail _ (.tail _ (.tail _ (.tail _ (.tail _ (.head _)))))))), hat4, hz4, hz4'⟩
    refine wpAny_pyIter_range R (small_one (by decide) (by decide) (a_lo hcn0) (a_hi3 hcn3)) ?_
    clear R
    dsimp only
    refine ⟨hA.objs.size, _, _, _, _, _, _, mf, rfl, comp_range_pot (lim := many + 2) (pot := pot) (c0 := cl) (s := { s with heap := hA, toks := _ }) rfl hcn0 (a_th hcn3) hIP ?elt, ?a1, ?a2, ?ns, ?stL, ?fin⟩
    case a1 => exact fun q => Nat.ne_of_gt hpotL (List.mem_singleton.mp q)
    case a2 => exact Nat.ne_of_lt F.ns.lt
    case ns => exact (F.push _).ns
    case stL =>
      rintro C D h h' hC hD ys ⟨h1, h2⟩ k
      exact ⟨h1.at fun o e => k _ _ (Nat.ne_of_lt hpotL) e, h2⟩
    case elt =>
      rintro C s₃ m₃ hC hI3 hn3 ⟨h9, tk9, rfl⟩ hk9
      dsimp only at *
      have F9 : Fr g L' h9 mf := fr_mod F N (d := pot) (o := listOf #[.ref cl, .int at4 ta4, .int z4 tz4] c34) (.tail _ (.tail _ (.tail _ (.tail _ (.tail _ (.tail _ (.tail _ (.head _)))))))) hk9
      have hop : h9.get? (L' + 1) = some op := hk9 _ _ (Nat.ne_of_gt (Nat.lt_succ_of_lt hpotL)) (N.get (a := L' + 1) (o := op) (.tail _ (.tail _ (.tail _ (.tail _ (.tail _ (.tail _ (.head _))))))))
      have hom : h9.get? (L' + 1 + 1) = some om := hk9 _ _ (Nat.ne_of_gt (Nat.lt_succ_of_lt (Nat.lt_succ_of_lt hpotL))) (N.get (a := L' + 1 + 1) (o := om) (.tail _ (.tail _ (.tail _ (.tail _ (.tail _ (.head _)))))))
      clear F N
      try dsimp only
      (repeat' (first | ((((fail_if_success (with_reducible show wpAny _ _ (call (Value.ref _) _) _ _ _)); (fail_if_success (with_reducible show wpAny _ _ (eval (PySem.Expr.Name _ _) _) _ _ _)); (fail_if_success (with_reducible show wpAny _ _ (subscriptTail _ _ (Value.ref _) (Value.int _ _)) _ _ _)); (fail_if_success (with_reducible show wpAny _ _ (newList _) _ _ _)); (fail_if_success (with_reducible show Exists _)))); walk1) | ((((fail_if_success (with_reducible show wpAny _ _ (call (Value.ref _) _) _ _ _)); (fail_if_success (with_reducible show wpAny _ _ (eval (PySem.Expr.Name _ _) _) _ _ _)); (fail_if_success (with_reducible show wpAny _ _ (subscriptTail _ _ (Value.ref _) (Value.int _ _)) _ _ _)); (fail_if_success (with_reducible show wpAny _ _ (newList _) _ _ _)); (fail_if_success (with_reducible show Exists _)))); dsimp only; (((fail_if_success (with_reducible show wpAny _ _ (call (Value.ref _) _) _ _ _)); (fail_if_success (with_reducible show wpAny _ _ (eval (PySem.Expr.Name _ _) _) _ _ _)); (fail_if_success (with_reducible show wpAny _ _ (subscriptTail _ _ (Value.ref _) (Value.int _ _)) _ _ _)); (fail_if_success (with_reducible show wpAny _ _ (newList _) _ _ _)); (fail_if_success (with_reducible show Exists _)))); walk1)))
      refine nameB_K (v := .ref 191) X' (topRead_of T') (by exact F9.keep) (by k_is) ?_ rfl rfl rfl rfl
      (repeat' (first | ((((fail_if_success (with_reducible show wpAny _ _ (call (Value.ref _) _) _ _ _)); (fail_if_success (with_reducible show wpAny _ _ (eval (PySem.Expr.Name _ _) _) _ _ _)); (fail_if_success (with_reducible show wpAny _ _ (subscriptTail _ _ (Value.ref _) (Value.int _ _)) _ _ _)); (fail_if_success (with_reducible show wpAny _ _ (newList _) _ _ _)); (fail_if_success (with_reducible show Exists _)))); walk1) | ((((fail_if_success (with_reducible show wpAny _ _ (call (Value.ref _) _) _ _ _)); (fail_if_success (with_reducible show wpAny _ _ (eval (PySem.Expr.Name _ _) _) _ _ _)); (fail_if_success (with_reducible show wpAny _ _ (subscriptTail _ _ (Value.ref _) (Value.int _ _)) _ _ _)); (fail_if_success (with_reducible show wpAny _ _ (newList _) _ _ _)); (fail_if_success (with_reducible show Exists _)))); dsimp only; (((fail_if_success (with_reducible show wpAny _ _ (call (Value.ref _) _) _ _ _)); (fail_if_success (with_reducible show wpAny _ _ (eval (PySem.Expr.Name _ _) _) _ _ _)); (fail_if_success (with_reducible show wpAny _ _ (subscriptTail _ _ (Value.ref _) (Value.int _ _)) _ _ _)); (fail_if_success (with_reducible show wpAny _ _ (newList _) _ _ _)); (fail_if_success (with_reducible show Exists _)))); walk1)))
      refine nameB_C (c := L' + 1) rfl hop dpo ?_ rfl rfl rfl
      (repeat' (first | ((((fail_if_success (with_reducible show wpAny _ _ (call (Value.ref _) _) _ _ _)); (fail_if_success (with_reducible show wpAny _ _ (eval (PySem.Expr.Name _ _) _) _ _ _)); (fail_if_success (with_reducible show wpAny _ _ (subscriptTail _ _ (Value.ref _) (Value.int _ _)) _ _ _)); (fail_if_success (with_reducible show wpAny _ _ (newList _) _ _ _)); (fail_if_success (with_reducible show Exists _)))); walk1) | ((((fail_if_success (with_reducible show wpAny _ _ (call (Value.ref _) _) _ _ _)); (fail_if_success (with_reducible show wpAny _ _ (eval (PySem.Expr.Name _ _) _) _ _ _)); (fail_if_success (with_reducible show wpAny _ _ (subscriptTail _ _ (Value.ref _) (Value.int _ _)) _ _ _)); (fail_if_success (with_reducible show wpAny _ _ (newList _) _ _ _)); (fail_if_success (with_reducible show Exists _)))); dsimp only; (((fail_if_success (with_reducible show wpAny _ _ (call (Value.ref _) _) _ _ _)); (fail_if_success (with_reducible show wpAny _ _ (eval (PySem.Expr.Name _ _) _) _ _ _)); (fail_if_success (with_reducible show wpAny _ _ (subscriptTail _ _ (Value.ref _) (Value.int _ _)) _ _ _)); (fail_if_success (with_reducible show wpAny _ _ (newList _) _ _ _)); (fail_if_success (with_reducible show Exists _)))); walk1)))
      refine nameB_C (c := L' + 1 + 1) rfl hom dm ?_ rfl rfl rfl
      (repeat' (first | ((((fail_if_success (with_reducible show wpAny _ _ (call (Value.ref _) _) _ _ _)); (fail_if_success (with_reducible show wpAny _ _ (eval (PySem.Expr.Name _ _) _) _ _ _)); (fail_if_success (with_reducible show wpAny _ _ (subscriptTail _ _ (Value.ref _) (Value.int _ _)) _ _ _)); (fail_if_success (with_reducible show wpAny _ _ (newList _) _ _ _)); (fail_if_success (with_reducible show Exists _)))); walk1) | ((((fail_if_success (with_reducible show wpAny _ _ (call (Value.ref _) _) _ _ _)); (fail_if_success (with_reducible show wpAny _ _ (eval (PySem.Expr.Name _ _) _) _ _ _)); (fail_if_success (with_reducible show wpAny _ _ (subscriptTail _ _ (Value.ref _) (Value.int _ _)) _ _ _)); (fail_if_success (with_reducible show wpAny _ _ (newList _) _ _ _)); (fail_if_success (with_reducible show Exists _)))); dsimp only; (((fail_if_success (with_reducible show wpAny _ _ (call (Value.ref _) _) _ _ _)); (fail_if_success (with_reducible show wpAny _ _ (eval (PySem.Expr.Name _ _) _) _ _ _)); (fail_if_success (with_reducible show wpAny _ _ (subscriptTail _ _ (Value.ref _) (Value.int _ _)) _ _ _)); (fail_if_success (with_reducible show wpAny _ _ (newList _) _ _ _)); (fail_if_success (with_reducible show Exists _)))); walk1)))
      refine c_dip (dp := dp + 1) (pot := pot) (cl := cl) X' T' (by exact F9.keep) hdA huA (by exact hI3) hgp (by exact hcg.keeps F9.keep) (a_p1 hm1) (a_p2 hm2) ?_
      intro h10 tk10 e te hk10 hP10 he0 he1
      exact ⟨_, _, e, te, rfl, rfl, hk10, hP10, he0, he1⟩
    case fin =>
      rintro D2 C2 h9 tk9 ys c9 hD2 hC2 hget9 hlen9 ⟨hI9, es, hes, hesb⟩ hns9 hk9
      rw [Heap.size_push] at hD2 hC2
      have hkA : ∀ b o, b ≠ L' → b ≠ pot → hA.get? b = some o → h9.get? b = some o := fun b o h1 h2 e => hk9 b o h1 (Nat.ne_of_lt (Heap.lt_size e)) (by simpa using h2) (Heap.get?_push_of_some _ e)
      have F9 := fr_modL F hgp hns9 hkA
      obtain ⟨at5, ta5, z5, tz5, c35, hpe, hat5, hz5, hz5'⟩ := hI9
      have N9 := news_updL N (o' := listOf #[.ref cl, .int at5 ta5, .int z5 tz5] c35) (by k_upd) hkA hpe
      have N9 := news_at N9 hget9 (Nat.le_of_succ_le hD2) F.above F.ns.lt
      have lD := lt_new N (Nat.le_of_succ_le hD2)
      clear F N hk9 hkA hns9 hget9 hIP hat4 hz4 hz4' hpe
      subst hmf
      (repeat' (first | ((((fail_if_success (with_reducible show wpAny _ _ (pyIter (Value.ref _)) _ _ _)); (fail_if_success (with_reducible show wpAny _ _ (call (Value.ref _) _) _ _ _)); (fail_if_success (with_reducible show wpAny _ _ (exec (Stmt.While _ _ _ _) _) _ _ _)); (fail_if_success (with_reducible show wpAny _ _ (exec (Stmt.For _ _ _ _ _) _) _ _ _)); (fail_if_success (with_reducible show wpAny _ _ (call (Value.builtin "list.pop") _) _ _ _)); (fail_if_success (with_reducible show wpAny _ _ (compareOp _ (Value.ref _) (Value.ref _)) _ _ _)); (fail_if_success (with_reducible show wpAny _ _ (compareOp CmpOp.NotIn _ (Value.ref _)) _ _ _)); (fail_if_success (with_reducible show wpAny _ _ (subscriptTail _ _ (Value.ref _) (Value.int _ _)) _ _ _)); (fail_if_success (with_reducible show wpAny _ _ (eval (PySem.Expr.ListComp _ _ _ _) _) _ _ _)); (fail_if_success (with_reducible show wpAny _ _ (exec (Stmt.Assign _ (PySem.Expr.ListComp _ _ _ _) _) _) _ _ _)); (fail_if_success (with_reducible show wpAny _ _ (call (Value.builtin "isinstance") _) _ _ _)))); walk1) | ((((fail_if_success (with_reducible show wpAny _ _ (pyIter (Value.ref _)) _ _ _)); (fail_if_success (with_reducible show wpAny _ _ (call (Value.ref _) _) _ _ _)); (fail_if_success (with_reducible show wpAny _ _ (exec (Stmt.While _ _ _ _) _) _ _ _)); (fail_if_success (with_reducible show wpAny _ _ (exec (Stmt.For _ _ _ _ _) _) _ _ _)); (fail_if_success (with_reducible show wpAny _ _ (call (Value.builtin "list.pop") _) _ _ _)); (fail_if_success (with_reducible show wpAny _ _ (compareOp _ (Value.ref _) (Value.ref _)) _ _ _)); (fail_if_success (with_reducible show wpAny _ _ (compareOp CmpOp.NotIn _ (Value.ref _)) _ _ _)); (fail_if_success (with_reducible show wpAny _ _ (subscriptTail _ _ (Value.ref _) (Value.int _ _)) _ _ _)); (fail_if_success (with_reducible show wpAny _ _ (eval (PySem.Expr.ListComp _ _ _ _) _) _ _ _)); (fail_if_success (with_reducible show wpAny _ _ (exec (Stmt.Assign _ (PySem.Expr.ListComp _ _ _ _) _) _) _ _ _)); (fail_if_success (with_reducible show wpAny _ _ (call (Value.builtin "isinstance") _) _ _ _)))); dsimp only; (((fail_if_success (with_reducible show wpAny _ _ (pyIter (Value.ref _)) _ _ _)); (fail_if_success (with_reducible show wpAny _ _ (call (Value.ref _) _) _ _ _)); (fail_if_success (with_reducible show wpAny _ _ (exec (Stmt.While _ _ _ _) _) _ _ _)); (fail_if_success (with_reducible show wpAny _ _ (exec (Stmt.For _ _ _ _ _) _) _ _ _)); (fail_if_success (with_reducible show wpAny _ _ (call (Value.builtin "list.pop") _) _ _ _)); (fail_if_success (with_reducible show wpAny _ _ (compareOp _ (Value.ref _) (Value.ref _)) _ _ _)); (fail_if_success (with_reducible show wpAny _ _ (compareOp CmpOp.NotIn _ (Value.ref _)) _ _ _)); (fail_if_success (with_reducible show wpAny _ _ (subscriptTail _ _ (Value.ref _) (Value.int _ _)) _ _ _)); (fail_if_success (with_reducible show wpAny _ _ (eval (PySem.Expr.ListComp _ _ _ _) _) _ _ _)); (fail_if_success (with_reducible show wpAny _ _ (exec (Stmt.Assign _ (PySem.Expr.ListComp _ _ _ _) _) _) _ _ _)); (fail_if_success (with_reducible show wpAny _ _ (call (Value.builtin "isinstance") _) _ _ _)))); walk1)))
      rename Fr _ _ _ _ => F; rename News _ _ _ _ => N
      refine ListComp_list (by with_unfolding_all rfl) (by decide) rfl (by decide) rfl rfl ?_ (by with_unfolding_all (intro _; rfl))
      refine nameB_L (v := .ref D2) F.ns rfl ?_ rfl rfl rfl rfl
      refine ⟨D2, ys, fun _ k zs _ => IntsAre zs ((es.take k).map fun e => if e < many then e else -1), rfl, News.isList N (.head _), ⟨a_ys hlen9 hcn3, fun _ _ _ _ _ h _ => h, fun _ => .nil, ?elt2⟩, ?fin2⟩
      case elt2 =>
        rintro C G k v zs s₃ m₃ hC hv hlen hi3 hn3 hmx ⟨h10, tk10, rfl⟩ hk10 hG
        obtain ⟨e, te, rfl, hle⟩ := hes.at k v hv
        have hom : h10.get? (L' + 1 + 1) = some om := hk10 _ _ (N.get (a := L' + 1 + 1) (o := om) (.tail _ (.tail _ (.tail _ (.tail _ (.tail _ (.tail _ (.head _))))))))
        have htk : es.take (k + 1) = es.take k ++ [e] := by rw [List.take_add_one, hle]; rfl
        clear F N
        try dsimp only
        (repeat' (first | ((((fail_if_success (with_reducible show wpAny _ _ (call (Value.ref _) _) _ _ _)); (fail_if_success (with_reducible show wpAny _ _ (eval (PySem.Expr.Name _ _) _) _ _ _)); (fail_if_success (with_reducible show wpAny _ _ (subscriptTail _ _ (Value.ref _) (Value.int _ _)) _ _ _)); (fail_if_success (with_reducible show wpAny _ _ (newList _) _ _ _)); (fail_if_success (with_reducible show Exists _)))); walk1) | ((((fail_if_success (with_reducible show wpAny _ _ (call (Value.ref _) _) _ _ _)); (fail_if_success (with_reducible show wpAny _ _ (eval (PySem.Expr.Name _ _) _) _ _ _)); (fail_if_success (with_reducible show wpAny _ _ (subscriptTail _ _ (Value.ref _) (Value.int _ _)) _ _ _)); (fail_if_success (with_reducible show wpAny _ _ (newList _) _ _ _)); (fail_if_success (with_reducible show Exists _)))); dsimp only; (((fail_if_success (with_reducible show wpAny _ _ (call (Value.ref _) _) _ _ _)); (fail_if_success (with_reducible show wpAny _ _ (eval (PySem.Expr.Name _ _) _) _ _ _)); (fail_if_success (with_reducible show wpAny _ _ (subscriptTail _ _ (Value.ref _) (Value.int _ _)) _ _ _)); (fail_if_success (with_reducible show wpAny _ _ (newList _) _ _ _)); (fail_if_success (with_reducible show Exists _)))); walk1)))
        refine nameB_L hn3 hmx ?_ rfl rfl rfl rfl
        (repeat' (first | ((((fail_if_success (with_reducible show wpAny _ _ (call (Value.ref _) _) _ _ _)); (fail_if_success (with_reducible show wpAny _ _ (eval (PySem.Expr.Name _ _) _) _ _ _)); (fail_if_success (with_reducible show wpAny _ _ (subscriptTail _ _ (Value.ref _) (Value.int _ _)) _ _ _)); (fail_if_success (with_reducible show wpAny _ _ (newList _) _ _ _)); (fail_if_success (with_reducible show Exists _)))); walk1) | ((((fail_if_success (with_reducible show wpAny _ _ (call (Value.ref _) _) _ _ _)); (fail_if_success (with_reducible show wpAny _ _ (eval (PySem.Expr.Name _ _) _) _ _ _)); (fail_if_success (with_reducible show wpAny _ _ (subscriptTail _ _ (Value.ref _) (Value.int _ _)) _ _ _)); (fail_if_success (with_reducible show wpAny _ _ (newList _) _ _ _)); (fail_if_success (with_reducible show Exists _)))); dsimp only; (((fail_if_success (with_reducible show wpAny _ _ (call (Value.ref _) _) _ _ _)); (fail_if_success (with_reducible show wpAny _ _ (eval (PySem.Expr.Name _ _) _) _ _ _)); (fail_if_success (with_reducible show wpAny _ _ (subscriptTail _ _ (Value.ref _) (Value.int _ _)) _ _ _)); (fail_if_success (with_reducible show wpAny _ _ (newList _) _ _ _)); (fail_if_success (with_reducible show Exists _)))); walk1)))
        refine nameB_C (c := L' + 1 + 1) rfl hom dm ?_ rfl rfl rfl
        (repeat' (first | ((((fail_if_success (with_reducible show wpAny _ _ (call (Value.ref _) _) _ _ _)); (fail_if_success (with_reducible show wpAny _ _ (eval (PySem.Expr.Name _ _) _) _ _ _)); (fail_if_success (with_reducible show wpAny _ _ (subscriptTail _ _ (Value.ref _) (Value.int _ _)) _ _ _)); (fail_if_success (with_reducible show wpAny _ _ (newList _) _ _ _)); (fail_if_success (with_reducible show Exists _)))); walk1) | ((((fail_if_success (with_reducible show wpAny _ _ (call (Value.ref _) _) _ _ _)); (fail_if_success (with_reducible show wpAny _ _ (eval (PySem.Expr.Name _ _) _) _ _ _)); (fail_if_success (with_reducible show wpAny _ _ (subscriptTail _ _ (Value.ref _) (Value.int _ _)) _ _ _)); (fail_if_success (with_reducible show wpAny _ _ (newList _) _ _ _)); (fail_if_success (with_reducible show Exists _)))); dsimp only; (((fail_if_success (with_reducible show wpAny _ _ (call (Value.ref _) _) _ _ _)); (fail_if_success (with_reducible show wpAny _ _ (eval (PySem.Expr.Name _ _) _) _ _ _)); (fail_if_success (with_reducible show wpAny _ _ (subscriptTail _ _ (Value.ref _) (Value.int _ _)) _ _ _)); (fail_if_success (with_reducible show wpAny _ _ (newList _) _ _ _)); (fail_if_success (with_reducible show Exists _)))); walk1)))
        · rename (e < many) => hlt
          refine nameB_L hn3 hmx ?_ rfl rfl rfl rfl
          refine ⟨_, _, rfl, fun b o e => e, ?_⟩
          rw [htk, List.map_append]
          exact hi3.append (by simpa [hlt] using IntsAre.cons e te .nil)
        · rename (¬ e < many) => hlt
          refine ⟨_, _, rfl, fun b o e => e, ?_⟩
          rw [htk, List.map_append]
          exact hi3.append (by simpa [hlt] using IntsAre.cons (-1) _ .nil)
      case fin2 =>
        rintro D3 G h10 tk10 zs c10 hD3 hget hlz hzs kp10
        have F10 := F.keeps kp10
        have N10 := news_add F N.tail' kp10 hget hD3
        have lD3 := lt_new N.tail' hD3
        rw [List.take_of_length_le (by rw [hes.length]; exact Nat.le_refl _)] at hzs
        have m1 : @LT.lt Nat _ ldl D3 := lD3 (ldl, listOf (lrefs.map Value.ref).toArray c1) (.tail _ (.tail _ (.head _)))
        have m2 : @LT.lt Nat _ I D3 := lD3 (I, oI) (.head _)
        have hab3 : Above ldl ((D3, listOf zs.toArray c10) :: objs2) := Above.cons hab2 m1
        have hob3 : ∀ p ∈ (D3, listOf zs.toArray c10) :: objs2, p.1 ≠ I ∧ p.1 ≠ L' + 1 + 1 + 1 + 1 := List.forall_mem_cons.mpr ⟨⟨Nat.ne_of_gt m2, Nat.ne_of_gt (Nat.lt_trans hcaI' m2)⟩, hob2⟩
        have hobI3 : ∀ p ∈ (D3, listOf zs.toArray c10) :: objs2, p.1 ≠ I := fun p hp => (hob3 p hp).1
        have hmade3 : Made (InL ((D3, listOf zs.toArray c10) :: objs2)) many (nodes ++ [a]) (lrefs ++ [D3]) (lead ++ [es.map fun e => if e < many then e else -1]) := by
          have hel : es.length = cnt.toNat := by rw [← hes.length]; exact hlen9
          refine hmade.snoc (r := r) (fun b o e => List.mem_cons_of_mem _ (hsub2 b o e)) (hia2.mono fun b o e => List.mem_cons_of_mem _ e) hno (hlr.trans hln.symm) (hll.trans hln.symm) ⟨⟨zs, c10, .head _, hzs⟩, by rw [List.length_map]; lia, fun q => ?_, fun q => ?_, fun e he => ?_⟩
          · have := hcnr0 q; rw [List.length_map]; lia
          · have := hcnr2 q
            have : es = [] := List.length_eq_zero_iff.mp (by lia)
            rw [this]; rfl
          · obtain ⟨e', he', rfl⟩ := List.mem_map.mp he
            have := hesb e' he'
            split <;> lia
        have N11 : News g L' _ ((I, oI) :: (L' + 1 + 1 + 1 + 1, oc) :: (ldl, listOf (lrefs.map Value.ref).toArray c1) :: (thl, listOf ((nodes ++ [a]).map Value.ref).toArray (c2 + 1)) :: (L' + 1 + 1 + 1, ot2) :: (L' + 1 + 1, om) :: (L' + 1, op) :: (pot, listOf #[.ref cl, .int at5 ta5, .int z5 tz5] c35) :: (D3, listOf zs.toArray c10) :: objs2) := fun p hp => N10 p (sub_d p hp)
        generalize ho3 : (D3, listOf zs.toArray c10) :: objs2 = objs3 at *
        clear N10 lD3 F N hab2 hob2 hobI2 hsub2 hia2 hmade
        try dsimp only
        (repeat' (first | ((((fail_if_success (with_reducible show wpAny _ _ (pyIter (Value.ref _)) _ _ _)); (fail_if_success (with_reducible show wpAny _ _ (call (Value.ref _) _) _ _ _)); (fail_if_success (with_reducible show wpAny _ _ (exec (Stmt.While _ _ _ _) _) _ _ _)); (fail_if_success (with_reducible show wpAny _ _ (exec (Stmt.For _ _ _ _ _) _) _ _ _)); (fail_if_success (with_reducible show wpAny _ _ (call (Value.builtin "list.pop") _) _ _ _)); (fail_if_success (with_reducible show wpAny _ _ (compareOp _ (Value.ref _) (Value.ref _)) _ _ _)); (fail_if_success (with_reducible show wpAny _ _ (compareOp CmpOp.NotIn _ (Value.ref _)) _ _ _)); (fail_if_success (with_reducible show wpAny _ _ (subscriptTail _ _ (Value.ref _) (Value.int _ _)) _ _ _)); (fail_if_success (with_reducible show wpAny _ _ (eval (PySem.Expr.ListComp _ _ _ _) _) _ _ _)); (fail_if_success (with_reducible show wpAny _ _ (exec (Stmt.Assign _ (PySem.Expr.ListComp _ _ _ _) _) _) _ _ _)); (fail_if_success (with_reducible show wpAny _ _ (call (Value.builtin "isinstance") _) _ _ _)))); walk1) | ((((fail_if_success (with_reducible show wpAny _ _ (pyIter (Value.ref _)) _ _ _)); (fail_if_success (with_reducible show wpAny _ _ (call (Value.ref _) _) _ _ _)); (fail_if_success (with_reducible show wpAny _ _ (exec (Stmt.While _ _ _ _) _) _ _ _)); (fail_if_success (with_reducible show wpAny _ _ (exec (Stmt.For _ _ _ _ _) _) _ _ _)); (fail_if_success (with_reducible show wpAny _ _ (call (Value.builtin "list.pop") _) _ _ _)); (fail_if_success (with_reducible show wpAny _ _ (compareOp _ (Value.ref _) (Value.ref _)) _ _ _)); (fail_if_success (with_reducible show wpAny _ _ (compareOp CmpOp.NotIn _ (Value.ref _)) _ _ _)); (fail_if_success (with_reducible show wpAny _ _ (subscriptTail _ _ (Value.ref _) (Value.int _ _)) _ _ _)); (fail_if_success (with_reducible show wpAny _ _ (eval (PySem.Expr.ListComp _ _ _ _) _) _ _ _)); (fail_if_success (with_reducible show wpAny _ _ (exec (Stmt.Assign _ (PySem.Expr.ListComp _ _ _ _) _) _) _ _ _)); (fail_if_success (with_reducible show wpAny _ _ (call (Value.builtin "isinstance") _) _ _ _)))); dsimp only; (((fail_if_success (with_reducible show wpAny _ _ (pyIter (Value.ref _)) _ _ _)); (fail_if_success (with_reducible show wpAny _ _ (call (Value.ref _) _) _ _ _)); (fail_if_success (with_reducible show wpAny _ _ (exec (Stmt.While _ _ _ _) _) _ _ _)); (fail_if_success (with_reducible show wpAny _ _ (exec (Stmt.For _ _ _ _ _) _) _ _ _)); (fail_if_success (with_reducible show wpAny _ _ (call (Value.builtin "list.pop") _) _ _ _)); (fail_if_success (with_reducible show wpAny _ _ (compareOp _ (Value.ref _) (Value.ref _)) _ _ _)); (fail_if_success (with_reducible show wpAny _ _ (compareOp CmpOp.NotIn _ (Value.ref _)) _ _ _)); (fail_if_success (with_reducible show wpAny _ _ (subscriptTail _ _ (Value.ref _) (Value.int _ _)) _ _ _)); (fail_if_success (with_reducible show wpAny _ _ (eval (PySem.Expr.ListComp _ _ _ _) _) _ _ _)); (fail_if_success (with_reducible show wpAny _ _ (exec (Stmt.Assign _ (PySem.Expr.ListComp _ _ _ _) _) _) _ _ _)); (fail_if_success (with_reducible show wpAny _ _ (call (Value.builtin "isinstance") _) _ _ _)))); walk1)))
        rename Fr _ _ _ _ => F; rename News _ _ _ _ => N
        have hnp : (lrefs.map Value.ref).toArray.push (.ref D3) = ((lrefs ++ [D3]).map Value.ref).toArray := by simp
        rw [hnp] at N
        refine cend_next F N ⟨_, hoc⟩ ?_ ⟨some (.int r tr), some (.ref D2), nodes ++ [a], lrefs ++ [D3], lead ++ [es.map fun e => if e < many then e else -1], c1 + 1, c2 + 1, c35, at5, z5, ta5, tz5, objs3, ?_, rfl, ⟨hat5, hz5, hz5'⟩, ⟨by simp [hln], by simp [hlr], by simp [hll]⟩, hab3, hmade3⟩
        · refine List.forall_mem_cons.mpr ⟨⟨q1, nca1⟩, List.forall_mem_cons.mpr ⟨⟨q2, nca2⟩, List.forall_mem_cons.mpr ⟨⟨q3, nca3⟩, List.forall_mem_cons.mpr ⟨⟨q4, nca4⟩, List.forall_mem_cons.mpr ⟨⟨q5, nca5⟩, List.forall_mem_cons.mpr ⟨⟨q6, nca6⟩, hob3⟩⟩⟩⟩⟩⟩
        · funext y
          by_cases y1 : y = Str.ofString "ends"
          · simp [y1]
          · have hse : Str.ofString "sort" ≠ Str.ofString "ends" := by decide
            by_cases y2 : y = Str.ofString "sort" <;> simp [y1, y2, hse]
  case done =>
    rintro m₁ news₁ h2 tk2 oc ⟨us, ue, nodes, lrefs, lead, c1, c2, c3, at_, z, ta, tz, objs, rfl, rfl, ⟨hat0, hz0', hz1'⟩, ⟨hln, hlr, hll⟩, hab, hmade⟩ F N hoc
    subst hM0
    simp only [FX] at N
    (repeat' (first | ((((fail_if_success (with_reducible show wpAny _ _ (pyIter (Value.ref _)) _ _ _)); (fail_if_success (with_reducible show wpAny _ _ (call (Value.ref _) _) _ _ _)); (fail_if_success (with_reducible show wpAny _ _ (exec (Stmt.While _ _ _ _) _) _ _ _)); (fail_if_success (with_reducible show wpAny _ _ (exec (Stmt.For _ _ _ _ _) _) _ _ _)); (fail_if_success (with_reducible show wpAny _ _ (call (Value.builtin "list.pop") _) _ _ _)); (fail_if_success (with_reducible show wpAny _ _ (compareOp _ (Value.ref _) (Value.ref _)) _ _ _)); (fail_if_success (with_reducible show wpAny _ _ (compareOp CmpOp.NotIn _ (Value.ref _)) _ _ _)); (fail_if_success (with_reducible show wpAny _ _ (subscriptTail _ _ (Value.ref _) (Value.int _ _)) _ _ _)); (fail_if_success (with_reducible show wpAny _ _ (eval (PySem.Expr.ListComp _ _ _ _) _) _ _ _)); (fail_if_success (with_reducible show wpAny _ _ (exec (Stmt.Assign _ (PySem.Expr.ListComp _ _ _ _) _) _) _ _ _)); (fail_if_success (with_reducible show wpAny _ _ (call (Value.builtin "isinstance") _) _ _ _)))); walk1) | ((((fail_if_success (with_reducible show wpAny _ _ (pyIter (Value.ref _)) _ _ _)); (fail_if_success (with_reducible show wpAny _ _ (call (Value.ref _) _) _ _ _)); (fail_if_success (with_reducible show wpAny _ _ (exec (Stmt.While _ _ _ _) _) _ _ _)); (fail_if_success (with_reducible show wpAny _ _ (exec (Stmt.For _ _ _ _ _) _) _ _ _)); (fail_if_success (with_reducible show wpAny _ _ (call (Value.builtin "list.pop") _) _ _ _)); (fail_if_success (with_reducible show wpAny _ _ (compareOp _ (Value.ref _) (Value.ref _)) _ _ _)); (fail_if_success (with_reducible show wpAny _ _ (compareOp CmpOp.NotIn _ (Value.ref _)) _ _ _)); (fail_if_success (with_reducible show wpAny _ _ (subscriptTail _ _ (Value.ref _) (Value.int _ _)) _ _ _)); (fail_if_success (with_reducible show wpAny _ _ (eval (PySem.Expr.ListComp _ _ _ _) _) _ _ _)); (fail_if_success (with_reducible show wpAny _ _ (exec (Stmt.Assign _ (PySem.Expr.ListComp _ _ _ _) _) _) _ _ _)); (fail_if_success (with_reducible show wpAny _ _ (call (Value.builtin "isinstance") _) _ _ _)))); dsimp only; (((fail_if_success (with_reducible show wpAny _ _ (pyIter (Value.ref _)) _ _ _)); (fail_if_success (with_reducible show wpAny _ _ (call (Value.ref _) _) _ _ _)); (fail_if_success (with_reducible show wpAny _ _ (exec (Stmt.While _ _ _ _) _) _ _ _)); (fail_if_success (with_reducible show wpAny _ _ (exec (Stmt.For _ _ _ _ _) _) _ _ _)); (fail_if_success (with_reducible show wpAny _ _ (call (Value.builtin "list.pop") _) _ _ _)); (fail_if_success (with_reducible show wpAny _ _ (compareOp _ (Value.ref _) (Value.ref _)) _ _ _)); (fail_if_success (with_reducible show wpAny _ _ (compareOp CmpOp.NotIn _ (Value.ref _)) _ _ _)); (fail_if_success (with_reducible show wpAny _ _ (subscriptTail _ _ (Value.ref _) (Value.int _ _)) _ _ _)); (fail_if_success (with_reducible show wpAny _ _ (eval (PySem.Expr.ListComp _ _ _ _) _) _ _ _)); (fail_if_success (with_reducible show wpAny _ _ (exec (Stmt.Assign _ (PySem.Expr.ListComp _ _ _ _) _) _) _ _ _)); (fail_if_success (with_reducible show wpAny _ _ (call (Value.builtin "isinstance") _) _ _ _)))); walk1)))
    refine wpAny_For ?_
    (repeat' (first | ((((fail_if_success (with_reducible show wpAny _ _ (pyIter (Value.ref _)) _ _ _)); (fail_if_success (with_reducible show wpAny _ _ (call (Value.ref _) _) _ _ _)); (fail_if_success (with_reducible show wpAny _ _ (exec (Stmt.While _ _ _ _) _) _ _ _)); (fail_if_success (with_reducible show wpAny _ _ (exec (Stmt.For _ _ _ _ _) _) _ _ _)); (fail_if_success (with_reducible show wpAny _ _ (call (Value.builtin "list.pop") _) _ _ _)); (fail_if_success (with_reducible show wpAny _ _ (compareOp _ (Value.ref _) (Value.ref _)) _ _ _)); (fail_if_success (with_reducible show wpAny _ _ (compareOp CmpOp.NotIn _ (Value.ref _)) _ _ _)); (fail_if_success (with_reducible show wpAny _ _ (subscriptTail _ _ (Value.ref _) (Value.int _ _)) _ _ _)); (fail_if_success (with_reducible show wpAny _ _ (eval (PySem.Expr.ListComp _ _ _ _) _) _ _ _)); (fail_if_success (with_reducible show wpAny _ _ (exec (Stmt.Assign _ (PySem.Expr.ListComp _ _ _ _) _) _) _ _ _)); (fail_if_success (with_reducible show wpAny _ _ (call (Value.builtin "isinstance") _) _ _ _)))); walk1) | ((((fail_if_success (with_reducible show wpAny _ _ (pyIter (Value.ref _)) _ _ _)); (fail_if_success (with_reducible show wpAny _ _ (call (Value.ref _) _) _ _ _)); (fail_if_success (with_reducible show wpAny _ _ (exec (Stmt.While _ _ _ _) _) _ _ _)); (fail_if_success (with_reducible show wpAny _ _ (exec (Stmt.For _ _ _ _ _) _) _ _ _)); (fail_if_success (with_reducible show wpAny _ _ (call (Value.builtin "list.pop") _) _ _ _)); (fail_if_success (with_reducible show wpAny _ _ (compareOp _ (Value.ref _) (Value.ref _)) _ _ _)); (fail_if_success (with_reducible show wpAny _ _ (compareOp CmpOp.NotIn _ (Value.ref _)) _ _ _)); (fail_if_success (with_reducible show wpAny _ _ (subscriptTail _ _ (Value.ref _) (Value.int _ _)) _ _ _)); (fail_if_success (with_reducible show wpAny _ _ (eval (PySem.Expr.ListComp _ _ _ _) _) _ _ _)); (fail_if_success (with_reducible show wpAny _ _ (exec (Stmt.Assign _ (PySem.Expr.ListComp _ _ _ _) _) _) _ _ _)); (fail_if_success (with_reducible show wpAny _ _ (call (Value.builtin "isinstance") _) _ _ _)))); dsimp only; (((fail_if_success (with_reducible show wpAny _ _ (pyIter (Value.ref _)) _ _ _)); (fail_if_success (with_reducible show wpAny _ _ (call (Value.ref _) _) _ _ _)); (fail_if_success (with_reducible show wpAny _ _ (exec (Stmt.While _ _ _ _) _) _ _ _)); (fail_if_success (with_reducible show wpAny _ _ (exec (Stmt.For _ _ _ _ _) _) _ _ _)); (fail_if_success (with_reducible show wpAny _ _ (call (Value.builtin "list.pop") _) _ _ _)); (fail_if_success (with_reducible show wpAny _ _ (compareOp _ (Value.ref _) (Value.ref _)) _ _ _)); (fail_if_success (with_reducible show wpAny _ _ (compareOp CmpOp.NotIn _ (Value.ref _)) _ _ _)); (fail_if_success (with_reducible show wpAny _ _ (subscriptTail _ _ (Value.ref _) (Value.int _ _)) _ _ _)); (fail_if_success (with_reducible show wpAny _ _ (eval (PySem.Expr.ListComp _ _ _ _) _) _ _ _)); (fail_if_success (with_reducible show wpAny _ _ (exec (Stmt.Assign _ (PySem.Expr.ListComp _ _ _ _) _) _) _ _ _)); (fail_if_success (with_reducible show wpAny _ _ (call (Value.builtin "isinstance") _) _ _ _)))); walk1)))
    rename IsRange _ _ _ _ _ _ _ _ => R
    rename Fr _ _ _ _ => F; rename News _ _ _ _ => N
    obtain ⟨M0, hM0, F⟩ : ∃ M, M = _ ∧ Fr g L' _ M := ⟨_, rfl, F⟩
    have hnl : (nodes.length : Int) = many := by lia
    have hbig : many.toNat = nodes.length := by lia
    refine iter_range_C (ca := L' + 1 + 1 + 1 + 1) (J2 M0 L' ldl thl pot cl ot2 om op many nodes lrefs lead c1 c2 c3 at_ z ta tz) rfl rfl rfl rfl R (a_lo1 hm1) (a_hi hm2) F N hoc ?hnc2 ?hj2 ?turn2 ?done2
    case hnc2 =>
      exact List.forall_mem_cons.mpr ⟨nca1, List.forall_mem_cons.mpr ⟨nca2, List.forall_mem_cons.mpr ⟨nca3, List.forall_mem_cons.mpr ⟨nca4, List.forall_mem_cons.mpr ⟨nca5, List.forall_mem_cons.mpr ⟨nca6, apart_of hab (Nat.le_of_lt hcal)⟩⟩⟩⟩⟩⟩
    case hj2 =>
      refine ⟨M0 (Str.ofString "parts_here"), [], objs, map_self _ _, rfl, hab, ⟨hmade.inn, rfl, fun j a la l e1 e2 e3 _ => ?_, fun j a la l ps _ _ _ e => nomatch e⟩⟩
      obtain ⟨r, h1, h2⟩ := hmade.ok j a la l e1 e2 e3
      exact ⟨r, h2, h1⟩
    case done2 =>
      rintro m₁ news₁ h3 tk3 oc3 ⟨up, parts, objs2, rfl, rfl, hab2, hhalf⟩ F N hoc3
      subst hM0
      simp only [FX] at N
      rw [hbig] at hhalf
      have hnd := hmade.nd
      clear R hoc hmade hab
      try dsimp only
      (repeat' (first | ((((fail_if_success (with_reducible show wpAny _ _ (pyIter (Value.ref _)) _ _ _)); (fail_if_success (with_reducible show wpAny _ _ (call (Value.ref _) _) _ _ _)); (fail_if_success (with_reducible show wpAny _ _ (exec (Stmt.While _ _ _ _) _) _ _ _)); (fail_if_success (with_reducible show wpAny _ _ (exec (Stmt.For _ _ _ _ _) _) _ _ _)); (fail_if_success (with_reducible show wpAny _ _ (call (Value.builtin "list.pop") _) _ _ _)); (fail_if_success (with_reducible show wpAny _ _ (compareOp _ (Value.ref _) (Value.ref _)) _ _ _)); (fail_if_success (with_reducible show wpAny _ _ (compareOp CmpOp.NotIn _ (Value.ref _)) _ _ _)); (fail_if_success (with_reducible show wpAny _ _ (subscriptTail _ _ (Value.ref _) (Value.int _ _)) _ _ _)); (fail_if_success (with_reducible show wpAny _ _ (eval (PySem.Expr.ListComp _ _ _ _) _) _ _ _)); (fail_if_success (with_reducible show wpAny _ _ (exec (Stmt.Assign _ (PySem.Expr.ListComp _ _ _ _) _) _) _ _ _)); (fail_if_success (with_reducible show wpAny _ _ (call (Value.builtin "isinstance") _) _ _ _)))); walk1) | ((((fail_if_success (with_reducible show wpAny _ _ (pyIter (Value.ref _)) _ _ _)); (fail_if_success (with_reducible show wpAny _ _ (call (Value.ref _) _) _ _ _)); (fail_if_success (with_reducible show wpAny _ _ (exec (Stmt.While _ _ _ _) _) _ _ _)); (fail_if_success (with_reducible show wpAny _ _ (exec (Stmt.For _ _ _ _ _) _) _ _ _)); (fail_if_success (with_reducible show wpAny _ _ (call (Value.builtin "list.pop") _) _ _ _)); (fail_if_success (with_reducible show wpAny _ _ (compareOp _ (Value.ref _) (Value.ref _)) _ _ _)); (fail_if_success (with_reducible show wpAny _ _ (compareOp CmpOp.NotIn _ (Value.ref _)) _ _ _)); (fail_if_success (with_reducible show wpAny _ _ (subscriptTail _ _ (Value.ref _) (Value.int _ _)) _ _ _)); (fail_if_success (with_reducible show wpAny _ _ (eval (PySem.Expr.ListComp _ _ _ _) _) _ _ _)); (fail_if_success (with_reducible show wpAny _ _ (exec (Stmt.Assign _ (PySem.Expr.ListComp _ _ _ _) _) _) _ _ _)); (fail_if_success (with_reducible show wpAny _ _ (call (Value.builtin "isinstance") _) _ _ _)))); dsimp only; (((fail_if_success (with_reducible show wpAny _ _ (pyIter (Value.ref _)) _ _ _)); (fail_if_success (with_reducible show wpAny _ _ (call (Value.ref _) _) _ _ _)); (fail_if_success (with_reducible show wpAny _ _ (exec (Stmt.While _ _ _ _) _) _ _ _)); (fail_if_success (with_reducible show wpAny _ _ (exec (Stmt.For _ _ _ _ _) _) _ _ _)); (fail_if_success (with_reducible show wpAny _ _ (call (Value.builtin "list.pop") _) _ _ _)); (fail_if_success (with_reducible show wpAny _ _ (compareOp _ (Value.ref _) (Value.ref _)) _ _ _)); (fail_if_success (with_reducible show wpAny _ _ (compareOp CmpOp.NotIn _ (Value.ref _)) _ _ _)); (fail_if_success (with_reducible show wpAny _ _ (subscriptTail _ _ (Value.ref _) (Value.int _ _)) _ _ _)); (fail_if_success (with_reducible show wpAny _ _ (eval (PySem.Expr.ListComp _ _ _ _) _) _ _ _)); (fail_if_success (with_reducible show wpAny _ _ (exec (Stmt.Assign _ (PySem.Expr.ListComp _ _ _ _) _) _) _ _ _)); (fail_if_success (with_reducible show wpAny _ _ (call (Value.builtin "isinstance") _) _ _ _)))); walk1)))
      rename Fr _ _ _ _ => F; rename News _ _ _ _ => N
      rename (_ ∧ _ ∧ _ ∧ _ ∧ _ ∧ _ ∧ _ ∧ _) => lt1
      have hold : ∀ b, @LT.lt Nat _ pot b → g.get? b = none → s.heap.get? b = none := fun b hb hg => by
        cases q : s.heap.get? b with
        | none => rfl
        | some o' => rw [gk b o' (Nat.ne_of_gt hb) q] at hg; cases hg
      have hmem : ∀ p ∈ (ldl, listOf (lrefs.map Value.ref).toArray c1) :: (thl, listOf (nodes.map Value.ref).toArray c2) :: objs2, p ∈ (L' + 1 + 1 + 1 + 1, oc3) :: (ldl, listOf (lrefs.map Value.ref).toArray c1) :: (thl, listOf (nodes.map Value.ref).toArray c2) :: (L' + 1 + 1 + 1, ot2) :: (L' + 1 + 1, om) :: (L' + 1, op) :: (pot, listOf #[.ref cl, .int at_ ta, .int z tz] c3) :: objs2 := fun p hp => sub_g p hp
      have hbl : ∀ p ∈ (ldl, listOf (lrefs.map Value.ref).toArray c1) :: (thl, listOf (nodes.map Value.ref).toArray c2) :: objs2, @LT.lt Nat _ pot p.1 := fun p hp => by
        simp only [List.mem_cons] at hp
        rcases hp with rfl | rfl | e
        · show @LT.lt Nat _ pot ldl; lia
        · show @LT.lt Nat _ pot thl; lia
        · have : @LT.lt Nat _ ldl p.1 := hab2 _ e
          lia
      refine h _ _ _ thl ldl nodes parts lead ((ldl, listOf (lrefs.map Value.ref).toArray c1) :: (thl, listOf (nodes.map Value.ref).toArray c2) :: objs2) (fun b o hb e => F.keep _ _ (gk b o hb e)) ⟨_, _, _, _, _, N.get (a := pot) (.tail _ (.tail _ (.tail _ (.tail _ (.tail _ (.tail _ (.tail _ (.head _)))))))), hat0, hz0', hz1'⟩ (N.get (.head _))
        (hold _ lt1.2.2.2.2.2.2.1 (N.fresh (.head _))) (fun p hp => ⟨hold p.1 (hbl p hp) (N.tail'.fresh (hmem p hp)), N.tail'.get (hmem p hp)⟩) fun h'' hob => ?_
      exact built_of (P := InL objs2) (fun b o e => hob (b, o) (.tail _ (.tail _ e))) (fun b o e => hold b (hbl (b, o) (.tail _ (.tail _ e))) (N.tail'.fresh (hmem (b, o) (.tail _ (.tail _ e)))))
        ⟨_, hob (thl, listOf (nodes.map Value.ref).toArray c2) (.tail _ (.head _)), rfl, _, rfl⟩ ⟨_, hob (ldl, listOf (lrefs.map Value.ref).toArray c1) (.head _), rfl, _, rfl⟩ hnl (hlr.trans hln.symm) (hll.trans hln.symm) hm2 hnd hhalf
    case turn2 =>
      clear N R F hab
      have hnd := hmade.nd
      clear hmade
      rintro i tv m₁ news₁ h2 tk2 I oI oc hi ⟨up, parts, objs, rfl, rfl, hab, hhalf⟩ hoc F N hne hcaI
      subst hM0
      simp only [FX] at N hne
      simp only [List.forall_mem_cons] at hne
      obtain ⟨⟨q1, q1'⟩, ⟨q2, q2'⟩, ⟨q3, q3'⟩, ⟨q4, q4'⟩, ⟨q5, q5'⟩, ⟨q6, q6'⟩, hob⟩ := hne
      replace q1 := neN q1; replace q2 := neN q2; replace q3 := neN q3; replace q4 := neN q4; replace q5 := neN q5; replace q6 := neN q6
      have hcaI' : @LT.lt Nat _ (L' + 1 + 1 + 1 + 1) I := hcaI
      clear hcaI q1' q2' q3' q4' q5' q6'
      have hin := a_in hnl hi
      have hi63 := a63m hi hm2
      obtain ⟨a, ha⟩ : ∃ a, nodes[i]? = some a := ⟨_, List.getElem?_eq_getElem hin⟩
      obtain ⟨la, hla⟩ : ∃ a, lrefs[i]? = some a := ⟨_, List.getElem?_eq_getElem (by rw [hlr, ← hln]; exact hin)⟩
      obtain ⟨l, hl⟩ : ∃ a, lead[i]? = some a := ⟨_, List.getElem?_eq_getElem (by rw [hll, ← hln]; exact hin)⟩
      obtain ⟨r, hlok, hinit⟩ := hhalf.old i a la l ha hla hl (Nat.le_refl _)
      obtain ⟨vsl, cll, hlm, hil⟩ := hlok.inl
      (repeat' (first | ((((fail_if_success (with_reducible show wpAny _ _ (pyIter (Value.ref _)) _ _ _)); (fail_if_success (with_reducible show wpAny _ _ (call (Value.ref _) _) _ _ _)); (fail_if_success (with_reducible show wpAny _ _ (exec (Stmt.While _ _ _ _) _) _ _ _)); (fail_if_success (with_reducible show wpAny _ _ (exec (Stmt.For _ _ _ _ _) _) _ _ _)); (fail_if_success (with_reducible show wpAny _ _ (call (Value.builtin "list.pop") _) _ _ _)); (fail_if_success (with_reducible show wpAny _ _ (compareOp _ (Value.ref _) (Value.ref _)) _ _ _)); (fail_if_success (with_reducible show wpAny _ _ (compareOp CmpOp.NotIn _ (Value.ref _)) _ _ _)); (fail_if_success (with_reducible show wpAny _ _ (subscriptTail _ _ (Value.ref _) (Value.int _ _)) _ _ _)); (fail_if_success (with_reducible show wpAny _ _ (eval (PySem.Expr.ListComp _ _ _ _) _) _ _ _)); (fail_if_success (with_reducible show wpAny _ _ (exec (Stmt.Assign _ (PySem.Expr.ListComp _ _ _ _) _) _) _ _ _)); (fail_if_success (with_reducible show wpAny _ _ (call (Value.builtin "isinstance") _) _ _ _)))); walk1) | ((((fail_if_success (with_reducible show wpAny _ _ (pyIter (Value.ref _)) _ _ _)); (fail_if_success (with_reducible show wpAny _ _ (call (Value.ref _) _) _ _ _)); (fail_if_success (with_reducible show wpAny _ _ (exec (Stmt.While _ _ _ _) _) _ _ _)); (fail_if_success (with_reducible show wpAny _ _ (exec (Stmt.For _ _ _ _ _) _) _ _ _)); (fail_if_success (with_reducible show wpAny _ _ (call (Value.builtin "list.pop") _) _ _ _)); (fail_if_success (with_reducible show wpAny _ _ (compareOp _ (Value.ref _) (Value.ref _)) _ _ _)); (fail_if_success (with_reducible show wpAny _ _ (compareOp CmpOp.NotIn _ (Value.ref _)) _ _ _)); (fail_if_success (with_reducible show wpAny _ _ (subscriptTail _ _ (Value.ref _) (Value.int _ _)) _ _ _)); (fail_if_success (with_reducible show wpAny _ _ (eval (PySem.Expr.ListComp _ _ _ _) _) _ _ _)); (fail_if_success (with_reducible show wpAny _ _ (exec (Stmt.Assign _ (PySem.Expr.ListComp _ _ _ _) _) _) _ _ _)); (fail_if_success (with_reducible show wpAny _ _ (call (Value.builtin "isinstance") _) _ _ _)))); dsimp only; (((fail_if_success (with_reducible show wpAny _ _ (pyIter (Value.ref _)) _ _ _)); (fail_if_success (with_reducible show wpAny _ _ (call (Value.ref _) _) _ _ _)); (fail_if_success (with_reducible show wpAny _ _ (exec (Stmt.While _ _ _ _) _) _ _ _)); (fail_if_success (with_reducible show wpAny _ _ (exec (Stmt.For _ _ _ _ _) _) _ _ _)); (fail_if_success (with_reducible show wpAny _ _ (call (Value.builtin "list.pop") _) _ _ _)); (fail_if_success (with_reducible show wpAny _ _ (compareOp _ (Value.ref _) (Value.ref _)) _ _ _)); (fail_if_success (with_reducible show wpAny _ _ (compareOp CmpOp.NotIn _ (Value.ref _)) _ _ _)); (fail_if_success (with_reducible show wpAny _ _ (subscriptTail _ _ (Value.ref _) (Value.int _ _)) _ _ _)); (fail_if_success (with_reducible show wpAny _ _ (eval (PySem.Expr.ListComp _ _ _ _) _) _ _ _)); (fail_if_success (with_reducible show wpAny _ _ (exec (Stmt.Assign _ (PySem.Expr.ListComp _ _ _ _) _) _) _ _ _)); (fail_if_success (with_reducible show wpAny _ _ (call (Value.builtin "isinstance") _) _ _ _)))); walk1)))
      refine' Assign_ListComp_list ?b1 ?b2 ?b3 ?b4 ?b5 ?b6 ?b7 ?b8 ?b8b ?_ ?b9
      case b1 => with_unfolding_all rfl
      case b2 => with_unfolding_all rfl
      case b3 => decide
      case b4 => rfl
      case b5 => decide
      case b6 => rfl
      case b7 => rfl
      case b8 => rfl
      case b8b => rfl
      case b9 => with_unfolding_all (intro _; rfl)
      (repeat' (first | ((((fail_if_success (with_reducible show wpAny _ _ (pyIter (Value.ref _)) _ _ _)); (fail_if_success (with_reducible show wpAny _ _ (call (Value.ref _) _) _ _ _)); (fail_if_success (with_reducible show wpAny _ _ (exec (Stmt.While _ _ _ _) _) _ _ _)); (fail_if_success (with_reducible show wpAny _ _ (exec (Stmt.For _ _ _ _ _) _) _ _ _)); (fail_if_success (with_reducible show wpAny _ _ (call (Value.builtin "list.pop") _) _ _ _)); (fail_if_success (with_reducible show wpAny _ _ (compareOp _ (Value.ref _) (Value.ref _)) _ _ _)); (fail_if_success (with_reducible show wpAny _ _ (compareOp CmpOp.NotIn _ (Value.ref _)) _ _ _)); (fail_if_success (with_reducible show wpAny _ _ (subscriptTail _ _ (Value.ref _) (Value.int _ _)) _ _ _)); (fail_if_success (with_reducible show wpAny _ _ (eval (PySem.Expr.ListComp _ _ _ _) _) _ _ _)); (fail_if_success (with_reducible show wpAny _ _ (exec (Stmt.Assign _ (PySem.Expr.ListComp _ _ _ _) _) _) _ _ _)); (fail_if_success (with_reducible show wpAny _ _ (call (Value.builtin "isinstance") _) _ _ _)))); walk1) | ((((fail_if_success (with_reducible show wpAny _ _ (pyIter (Value.ref _)) _ _ _)); (fail_if_success (with_reducible show wpAny _ _ (call (Value.ref _) _) _ _ _)); (fail_if_success (with_reducible show wpAny _ _ (exec (Stmt.While _ _ _ _) _) _ _ _)); (fail_if_success (with_reducible show wpAny _ _ (exec (Stmt.For _ _ _ _ _) _) _ _ _)); (fail_if_success (with_reducible show wpAny _ _ (call (Value.builtin "list.pop") _) _ _ _)); (fail_if_success (with_reducible show wpAny _ _ (compareOp _ (Value.ref _) (Value.ref _)) _ _ _)); (fail_if_success (with_reducible show wpAny _ _ (compareOp CmpOp.NotIn _ (Value.ref _)) _ _ _)); (fail_if_success (with_reducible show wpAny _ _ (subscriptTail _ _ (Value.ref _) (Value.int _ _)) _ _ _)); (fail_if_success (with_reducible show wpAny _ _ (eval (PySem.Expr.ListComp _ _ _ _) _) _ _ _)); (fail_if_success (with_reducible show wpAny _ _ (exec (Stmt.Assign _ (PySem.Expr.ListComp _ _ _ _) _) _) _ _ _)); (fail_if_success (with_reducible show wpAny _ _ (call (Value.builtin "isinstance") _) _ _ _)))); dsimp only; (((fail_if_success (with_reducible show wpAny _ _ (pyIter (Value.ref _)) _ _ _)); (fail_if_success (with_reducible show wpAny _ _ (call (Value.ref _) _) _ _ _)); (fail_if_success (with_reducible show wpAny _ _ (exec (Stmt.While _ _ _ _) _) _ _ _)); (fail_if_success (with_reducible show wpAny _ _ (exec (Stmt.For _ _ _ _ _) _) _ _ _)); (fail_if_success (with_reducible show wpAny _ _ (call (Value.builtin "list.pop") _) _ _ _)); (fail_if_success (with_reducible show wpAny _ _ (compareOp _ (Value.ref _) (Value.ref _)) _ _ _)); (fail_if_success (with_reducible show wpAny _ _ (compareOp CmpOp.NotIn _ (Value.ref _)) _ _ _)); (fail_if_success (with_reducible show wpAny _ _ (subscriptTail _ _ (Value.ref _) (Value.int _ _)) _ _ _)); (fail_if_success (with_reducible show wpAny _ _ (eval (PySem.Expr.ListComp _ _ _ _) _) _ _ _)); (fail_if_success (with_reducible show wpAny _ _ (exec (Stmt.Assign _ (PySem.Expr.ListComp _ _ _ _) _) _) _ _ _)); (fail_if_success (with_reducible show wpAny _ _ (call (Value.builtin "isinstance") _) _ _ _)))); walk1)))
      have hN := N
      refine item_at (k := (i : Int)) (News.isList (a := ldl) N (.tail _ (.tail _ (.head _)))) (Int.natCast_nonneg i) hi63 (v := .ref la) (by simp [hla]) ?_ (by with_unfolding_all rfl)
      have hlal : Heap.IsList h2 la vsl.toArray := News.isList (n := cll) N (show (la, listOf vsl.toArray cll) ∈ _ from at8 hlm)
      refine ⟨la, vsl, VS nodes l h2.objs.size, _, rfl, hlal, ⟨a_3 hil.length hlok.few, fun G i ys h h' x k => x.stab k, fun G => ⟨[], (fun _ h => nomatch h), rfl, fun q v e h => nomatch h⟩, ?elt⟩, F.ns, ?fin⟩
      case elt =>
        rintro C G k v zs s₃ m₃ hC hv hlen hVS hn3 hmx ⟨h10, tk10, rfl⟩ hk10 hG
        dsimp only at hC hn3 hk10 hG hVS
        obtain ⟨e, te, rfl, hle⟩ := hil.at k v hv
        have hen := hlok.ends e (List.mem_of_getElem? hle)
        have F10 := F.keeps hk10
        have N10 := N.keeps hk10
        have hoa : h10.get? (L' + 1 + 1 + 1 + 1) = some oc := N10.get (.tail _ (.head _))
        have hot : h10.get? (L' + 1 + 1 + 1) = some ot2 := N10.get (.tail _ (.tail _ (.tail _ (.tail _ (.head _)))))
        have hth : Heap.IsList h10 thl (nodes.map Value.ref).toArray := News.isList (a := thl) N10 (.tail _ (.tail _ (.tail _ (.head _))))
        clear F N hN hlal
        try dsimp only
        (repeat' (first | ((((fail_if_success (with_reducible show wpAny _ _ (call (Value.ref _) _) _ _ _)); (fail_if_success (with_reducible show wpAny _ _ (eval (PySem.Expr.Name _ _) _) _ _ _)); (fail_if_success (with_reducible show wpAny _ _ (subscriptTail _ _ (Value.ref _) (Value.int _ _)) _ _ _)); (fail_if_success (with_reducible show wpAny _ _ (newList _) _ _ _)); (fail_if_success (with_reducible show Exists _)))); walk1) | ((((fail_if_success (with_reducible show wpAny _ _ (call (Value.ref _) _) _ _ _)); (fail_if_success (with_reducible show wpAny _ _ (eval (PySem.Expr.Name _ _) _) _ _ _)); (fail_if_success (with_reducible show wpAny _ _ (subscriptTail _ _ (Value.ref _) (Value.int _ _)) _ _ _)); (fail_if_success (with_reducible show wpAny _ _ (newList _) _ _ _)); (fail_if_success (with_reducible show Exists _)))); dsimp only; (((fail_if_success (with_reducible show wpAny _ _ (call (Value.ref _) _) _ _ _)); (fail_if_success (with_reducible show wpAny _ _ (eval (PySem.Expr.Name _ _) _) _ _ _)); (fail_if_success (with_reducible show wpAny _ _ (subscriptTail _ _ (Value.ref _) (Value.int _ _)) _ _ _)); (fail_if_success (with_reducible show wpAny _ _ (newList _) _ _ _)); (fail_if_success (with_reducible show Exists _)))); walk1)))
        refine nameB_L hn3 hmx ?_ rfl rfl rfl rfl
        (repeat' (first | ((((fail_if_success (with_reducible show wpAny _ _ (call (Value.ref _) _) _ _ _)); (fail_if_success (with_reducible show wpAny _ _ (eval (PySem.Expr.Name _ _) _) _ _ _)); (fail_if_success (with_reducible show wpAny _ _ (subscriptTail _ _ (Value.ref _) (Value.int _ _)) _ _ _)); (fail_if_success (with_reducible show wpAny _ _ (newList _) _ _ _)); (fail_if_success (with_reducible show Exists _)))); walk1) | ((((fail_if_success (with_reducible show wpAny _ _ (call (Value.ref _) _) _ _ _)); (fail_if_success (with_reducible show wpAny _ _ (eval (PySem.Expr.Name _ _) _) _ _ _)); (fail_if_success (with_reducible show wpAny _ _ (subscriptTail _ _ (Value.ref _) (Value.int _ _)) _ _ _)); (fail_if_success (with_reducible show wpAny _ _ (newList _) _ _ _)); (fail_if_success (with_reducible show Exists _)))); dsimp only; (((fail_if_success (with_reducible show wpAny _ _ (call (Value.ref _) _) _ _ _)); (fail_if_success (with_reducible show wpAny _ _ (eval (PySem.Expr.Name _ _) _) _ _ _)); (fail_if_success (with_reducible show wpAny _ _ (subscriptTail _ _ (Value.ref _) (Value.int _ _)) _ _ _)); (fail_if_success (with_reducible show wpAny _ _ (newList _) _ _ _)); (fail_if_success (with_reducible show Exists _)))); walk1)))
        · rename (0 ≤ e) => he0
          refine nameB_C (c := L' + 1 + 1 + 1) rfl hot dt2 ?_ rfl rfl rfl
          (repeat' (first | ((((fail_if_success (with_reducible show wpAny _ _ (call (Value.ref _) _) _ _ _)); (fail_if_success (with_reducible show wpAny _ _ (eval (PySem.Expr.Name _ _) _) _ _ _)); (fail_if_success (with_reducible show wpAny _ _ (subscriptTail _ _ (Value.ref _) (Value.int _ _)) _ _ _)); (fail_if_success (with_reducible show wpAny _ _ (newList _) _ _ _)); (fail_if_success (with_reducible show Exists _)))); walk1) | ((((fail_if_success (with_reducible show wpAny _ _ (call (Value.ref _) _) _ _ _)); (fail_if_success (with_reducible show wpAny _ _ (eval (PySem.Expr.Name _ _) _) _ _ _)); (fail_if_success (with_reducible show wpAny _ _ (subscriptTail _ _ (Value.ref _) (Value.int _ _)) _ _ _)); (fail_if_success (with_reducible show wpAny _ _ (newList _) _ _ _)); (fail_if_success (with_reducible show Exists _)))); dsimp only; (((fail_if_success (with_reducible show wpAny _ _ (call (Value.ref _) _) _ _ _)); (fail_if_success (with_reducible show wpAny _ _ (eval (PySem.Expr.Name _ _) _) _ _ _)); (fail_if_success (with_reducible show wpAny _ _ (subscriptTail _ _ (Value.ref _) (Value.int _ _)) _ _ _)); (fail_if_success (with_reducible show wpAny _ _ (newList _) _ _ _)); (fail_if_success (with_reducible show Exists _)))); walk1)))
          refine nameB_L hn3 hmx ?_ rfl rfl rfl rfl
          (repeat' (first | ((((fail_if_success (with_reducible show wpAny _ _ (call (Value.ref _) _) _ _ _)); (fail_if_success (with_reducible show wpAny _ _ (eval (PySem.Expr.Name _ _) _) _ _ _)); (fail_if_success (with_reducible show wpAny _ _ (subscriptTail _ _ (Value.ref _) (Value.int _ _)) _ _ _)); (fail_if_success (with_reducible show wpAny _ _ (newList _) _ _ _)); (fail_if_success (with_reducible show Exists _)))); walk1) | ((((fail_if_success (with_reducible show wpAny _ _ (call (Value.ref _) _) _ _ _)); (fail_if_success (with_reducible show wpAny _ _ (eval (PySem.Expr.Name _ _) _) _ _ _)); (fail_if_success (with_reducible show wpAny _ _ (subscriptTail _ _ (Value.ref _) (Value.int _ _)) _ _ _)); (fail_if_success (with_reducible show wpAny _ _ (newList _) _ _ _)); (fail_if_success (with_reducible show Exists _)))); dsimp only; (((fail_if_success (with_reducible show wpAny _ _ (call (Value.ref _) _) _ _ _)); (fail_if_success (with_reducible show wpAny _ _ (eval (PySem.Expr.Name _ _) _) _ _ _)); (fail_if_success (with_reducible show wpAny _ _ (subscriptTail _ _ (Value.ref _) (Value.int _ _)) _ _ _)); (fail_if_success (with_reducible show wpAny _ _ (newList _) _ _ _)); (fail_if_success (with_reducible show Exists _)))); walk1)))
          obtain ⟨b, hb⟩ : ∃ b, nodes[e.toNat]? = some b := ⟨_, List.getElem?_eq_getElem (a_et he0 hen.2 hnl)⟩
          refine item_at (k := e) hth he0 (a63m hen.2 hm2) (v := .ref b) (by simp [hb]) ?_ (by with_unfolding_all rfl)
          exact ⟨_, _, rfl, fun b o e => e, hVS.snoc (fun _ _ e => e) hle [] (fun _ h => nomatch h) (.inl ⟨he0, b, hb, rfl⟩)⟩
        · rename (¬ 0 ≤ e) => he0
          have hsz : h2.objs.size ≤ h10.objs.size := by
            obtain ⟨oC, _, _, hoC, _⟩ := hn3
            exact Nat.le_of_lt (Nat.lt_of_le_of_lt hC (Heap.lt_size hoC))
          have hinn : ∀ b ∈ nodes, b < h10.objs.size := fun b hb => by
            obtain ⟨C, o, ho⟩ := hhalf.inn b hb
            exact Heap.lt_size (N10.get (a := b) (o := instObj C o) (at8 ho))
          refine nameB_K (v := .ref 31) X' (topRead_of T') (by exact F10.keep) (by k_is) ?_ rfl rfl rfl rfl
          (repeat' (first | ((((fail_if_success (with_reducible show wpAny _ _ (call (Value.ref _) _) _ _ _)); (fail_if_success (with_reducible show wpAny _ _ (eval (PySem.Expr.Name _ _) _) _ _ _)); (fail_if_success (with_reducible show wpAny _ _ (subscriptTail _ _ (Value.ref _) (Value.int _ _)) _ _ _)); (fail_if_success (with_reducible show wpAny _ _ (newList _) _ _ _)); (fail_if_success (with_reducible show Exists _)))); walk1) | ((((fail_if_success (with_reducible show wpAny _ _ (call (Value.ref _) _) _ _ _)); (fail_if_success (with_reducible show wpAny _ _ (eval (PySem.Expr.Name _ _) _) _ _ _)); (fail_if_success (with_reducible show wpAny _ _ (subscriptTail _ _ (Value.ref _) (Value.int _ _)) _ _ _)); (fail_if_success (with_reducible show wpAny _ _ (newList _) _ _ _)); (fail_if_success (with_reducible show Exists _)))); dsimp only; (((fail_if_success (with_reducible show wpAny _ _ (call (Value.ref _) _) _ _ _)); (fail_if_success (with_reducible show wpAny _ _ (eval (PySem.Expr.Name _ _) _) _ _ _)); (fail_if_success (with_reducible show wpAny _ _ (subscriptTail _ _ (Value.ref _) (Value.int _ _)) _ _ _)); (fail_if_success (with_reducible show wpAny _ _ (newList _) _ _ _)); (fail_if_success (with_reducible show Exists _)))); walk1)))
          refine c_sym (dp := dp + 1) X' T' (by exact F10.keep) hdB huB ?_
          rintro xs dxs h11 tk11 kp11 hx1 ⟨ess, ns, hd1⟩ hs1 he1
          dsimp only at kp11 hs1
          have F11 := F10.keeps kp11
          have N11 := news_add2 F10 N10 kp11 hx1 hd1 hs1 he1
          have hoa := kp11 _ _ hoa
          clear F10 N10 hx1 hd1
          try dsimp only
          (repeat' (first | ((((fail_if_success (with_reducible show wpAny _ _ (call (Value.ref _) _) _ _ _)); (fail_if_success (with_reducible show wpAny _ _ (eval (PySem.Expr.Name _ _) _) _ _ _)); (fail_if_success (with_reducible show wpAny _ _ (subscriptTail _ _ (Value.ref _) (Value.int _ _)) _ _ _)); (fail_if_success (with_reducible show wpAny _ _ (newList _) _ _ _)); (fail_if_success (with_reducible show Exists _)))); walk1) | ((((fail_if_success (with_reducible show wpAny _ _ (call (Value.ref _) _) _ _ _)); (fail_if_success (with_reducible show wpAny _ _ (eval (PySem.Expr.Name _ _) _) _ _ _)); (fail_if_success (with_reducible show wpAny _ _ (subscriptTail _ _ (Value.ref _) (Value.int _ _)) _ _ _)); (fail_if_success (with_reducible show wpAny _ _ (newList _) _ _ _)); (fail_if_success (with_reducible show Exists _)))); dsimp only; (((fail_if_success (with_reducible show wpAny _ _ (call (Value.ref _) _) _ _ _)); (fail_if_success (with_reducible show wpAny _ _ (eval (PySem.Expr.Name _ _) _) _ _ _)); (fail_if_success (with_reducible show wpAny _ _ (subscriptTail _ _ (Value.ref _) (Value.int _ _)) _ _ _)); (fail_if_success (with_reducible show wpAny _ _ (newList _) _ _ _)); (fail_if_success (with_reducible show Exists _)))); walk1)))
          refine wpAny_newObj_type ?_
          dsimp only
          have hoa2 := Heap.get?_push_of_some { cls := .type "list", data := .seq [Value.int 7 (tk10 + 1), .ref xs].toArray } hoa
          have hll2 : Heap.IsList (h11.push { cls := .type "list", data := .seq [Value.int 7 (tk10 + 1), .ref xs].toArray }) h11.objs.size [Value.int 7 (tk10 + 1), .ref xs].toArray := ⟨_, Heap.get?_push_size _ rfl, rfl, _, rfl⟩
          have kp12 : h11.StaysIn (h11.push { cls := .type "list", data := .seq [Value.int 7 (tk10 + 1), .ref xs].toArray }) := fun b o e => Heap.get?_push_of_some _ e
          generalize h11.push { cls := .type "list", data := .seq [Value.int 7 (tk10 + 1), .ref xs].toArray } = h12 at hoa2 hll2 kp12 ⊢
          (repeat' (first | ((((fail_if_success (with_reducible show wpAny _ _ (call (Value.ref _) _) _ _ _)); (fail_if_success (with_reducible show wpAny _ _ (eval (PySem.Expr.Name _ _) _) _ _ _)); (fail_if_success (with_reducible show wpAny _ _ (subscriptTail _ _ (Value.ref _) (Value.int _ _)) _ _ _)); (fail_if_success (with_reducible show wpAny _ _ (newList _) _ _ _)); (fail_if_success (with_reducible show Exists _)))); walk1) | ((((fail_if_success (with_reducible show wpAny _ _ (call (Value.ref _) _) _ _ _)); (fail_if_success (with_reducible show wpAny _ _ (eval (PySem.Expr.Name _ _) _) _ _ _)); (fail_if_success (with_reducible show wpAny _ _ (subscriptTail _ _ (Value.ref _) (Value.int _ _)) _ _ _)); (fail_if_success (with_reducible show wpAny _ _ (newList _) _ _ _)); (fail_if_success (with_reducible show Exists _)))); dsimp only; (((fail_if_success (with_reducible show wpAny _ _ (call (Value.ref _) _) _ _ _)); (fail_if_success (with_reducible show wpAny _ _ (eval (PySem.Expr.Name _ _) _) _ _ _)); (fail_if_success (with_reducible show wpAny _ _ (subscriptTail _ _ (Value.ref _) (Value.int _ _)) _ _ _)); (fail_if_success (with_reducible show wpAny _ _ (newList _) _ _ _)); (fail_if_success (with_reducible show Exists _)))); walk1)))
          refine nameB_C (c := L' + 1 + 1 + 1 + 1) rfl hoa2 hoc ?_ rfl rfl rfl
          (repeat' (first | ((((fail_if_success (with_reducible show wpAny _ _ (call (Value.ref _) _) _ _ _)); (fail_if_success (with_reducible show wpAny _ _ (eval (PySem.Expr.Name _ _) _) _ _ _)); (fail_if_success (with_reducible show wpAny _ _ (subscriptTail _ _ (Value.ref _) (Value.int _ _)) _ _ _)); (fail_if_success (with_reducible show wpAny _ _ (newList _) _ _ _)); (fail_if_success (with_reducible show Exists _)))); walk1) | ((((fail_if_success (with_reducible show wpAny _ _ (call (Value.ref _) _) _ _ _)); (fail_if_success (with_reducible show wpAny _ _ (eval (PySem.Expr.Name _ _) _) _ _ _)); (fail_if_success (with_reducible show wpAny _ _ (subscriptTail _ _ (Value.ref _) (Value.int _ _)) _ _ _)); (fail_if_success (with_reducible show wpAny _ _ (newList _) _ _ _)); (fail_if_success (with_reducible show Exists _)))); dsimp only; (((fail_if_success (with_reducible show wpAny _ _ (call (Value.ref _) _) _ _ _)); (fail_if_success (with_reducible show wpAny _ _ (eval (PySem.Expr.Name _ _) _) _ _ _)); (fail_if_success (with_reducible show wpAny _ _ (subscriptTail _ _ (Value.ref _) (Value.int _ _)) _ _ _)); (fail_if_success (with_reducible show wpAny _ _ (newList _) _ _ _)); (fail_if_success (with_reducible show Exists _)))); walk1)))
          have kp : h10.StaysIn h12 := fun b o e => kp12 b o (kp11 b o e)
          have hm0 := Int.fmod_nonneg_of_pos (i : Int) (b := 2) (by decide)
          have hm1 := Int.fmod_lt_of_pos (i : Int) (b := 2) (by decide)
          have hm : (i : Int).fmod 2 = 0 ∨ (i : Int).fmod 2 = 1 := a_m2 hm0 hm1
          rcases hm with hm | hm
          · refine item_at (k := (i : Int).fmod 2) hll2 hm0 (a63m hm1 (by decide)) (v := .int 7 (tk10 + 1)) (by rw [hm]; rfl) ?_ (by with_unfolding_all rfl)
            exact ⟨_, _, rfl, kp, hVS.snoc kp hle [] (fun _ h => nomatch h) (.inr ⟨Int.not_le.mp he0, .inl ⟨_, _, rfl⟩⟩)⟩
          · refine item_at (k := (i : Int).fmod 2) hll2 hm0 (a63m hm1 (by decide)) (v := .ref xs) (by rw [hm]; rfl) ?_ (by with_unfolding_all rfl)
            have hsx : h10.objs.size ≤ xs := by rw [he1]; exact Nat.le_succ_of_le hs1
            refine ⟨_, _, rfl, kp, hVS.snoc kp hle [(xs, instObj 31 dxs), (dxs, dictOf ess ns)] ?_ (.inr ⟨Int.not_le.mp he0, .inr ⟨xs, dxs, ess, ns, rfl, he1, fun q => Nat.lt_irrefl _ (Nat.lt_of_lt_of_le (hinn _ q) hsx), .head _, .tail _ (.head _)⟩⟩)⟩
            exact List.forall_mem_cons.mpr ⟨⟨Nat.le_trans hsz hsx, hG _ hsx, kp12 _ _ (N11.get (.head _))⟩, List.forall_mem_cons.mpr ⟨⟨Nat.le_trans hsz hs1, hG _ hs1, kp12 _ _ (N11.get (.tail _ (.head _)))⟩, fun _ h => nomatch h⟩⟩
      case fin =>
        rintro D G h10 tk10 ys c10 hD hget hlys ⟨syms, hsy, hyl, hok⟩ hns hk hGD
        dsimp only at hD hk
        have hL10 : @LT.lt Nat _ L' h2.objs.size := F.ns.lt
        have F10 : Fr g L' h10 _ := ⟨hns, fun b o e => hk b o (fun q => by rw [q] at e; exact absurd (Nat.lt_of_lt_of_le (Heap.lt_size e) F.above) (Nat.lt_irrefl _)) (F.keep b o e), F.above⟩
        have hnewb : ∀ b, h2.objs.size ≤ b → b ≠ L' ∧ g.get? b = none := fun b hb => ⟨Nat.ne_of_gt (Nat.lt_of_lt_of_le hL10 hb), fresh_of (Nat.le_trans F.above (Nat.le_of_lt (Nat.lt_of_lt_of_le hL10 hb)))⟩
        have hm10 : ∀ p ∈ (I, oI) :: (L' + 1 + 1 + 1 + 1, oc) :: (ldl, listOf (lrefs.map Value.ref).toArray c1) :: (thl, listOf (nodes.map Value.ref).toArray c2) :: (L' + 1 + 1 + 1, ot2) :: (L' + 1 + 1, om) :: (L' + 1, op) :: (pot, listOf #[.ref cl, .int at_ ta, .int z tz] c3) :: objs, h10.get? p.1 = some p.2 ∧ p.1 ≠ L' ∧ g.get? p.1 = none := fun p hp => ⟨hk _ _ (N p hp).2.1 (N p hp).1, (N p hp).2⟩
        have hlt2 : ∀ p ∈ (I, oI) :: (L' + 1 + 1 + 1 + 1, oc) :: (ldl, listOf (lrefs.map Value.ref).toArray c1) :: (thl, listOf (nodes.map Value.ref).toArray c2) :: (L' + 1 + 1 + 1, ot2) :: (L' + 1 + 1, om) :: (L' + 1, op) :: (pot, listOf #[.ref cl, .int at_ ta, .int z tz] c3) :: objs, p.1 < h2.objs.size := fun p hp => Heap.lt_size (N p hp).1
        have hmk : ∀ C dx d0, InL objs a (instObj C dx) → InL objs dx d0 → News g L' h10 ((dx, d0) :: (a, instObj C dx) :: (D, listOf ys.toArray c10) :: (I, oI) :: (L' + 1 + 1 + 1 + 1, oc) :: (ldl, listOf (lrefs.map Value.ref).toArray c1) :: (thl, listOf (nodes.map Value.ref).toArray c2) :: (L' + 1 + 1 + 1, ot2) :: (L' + 1 + 1, om) :: (L' + 1, op) :: (pot, listOf #[.ref cl, .int at_ ta, .int z tz] c3) :: (syms ++ objs.filter (fun p => decide (p.1 ≠ dx)))) := fun C dx d0 m1 m2 => mk_e hm10 m2 m1 ⟨hget, hnewb _ hD⟩ fun p hp => ⟨(hsy p hp).2.2, hnewb _ (hsy p hp).1⟩
        have uniq : ∀ b o o', InL objs b o → InL objs b o' → o = o' := fun b o o' e1 e2 => by
          have h1 := (hm10 (b, o) (at8 e1)).1
          have h2 := (hm10 (b, o') (at8 e2)).1
          exact Option.some.inj (h1.symm.trans h2)
        have hI2 : @LT.lt Nat _ I h2.objs.size := hlt2 (I, oI) (.head _)
        have hl2 : @LT.lt Nat _ ldl h2.objs.size := hlt2 (ldl, listOf (lrefs.map Value.ref).toArray c1) (.tail _ (.tail _ (.head _)))
        have hD2 : @LE.le Nat _ h2.objs.size D := hD
        have hrest : ∀ dx d0, InL objs dx d0 → ∃ rest, rest = syms ++ objs.filter (fun p => decide (p.1 ≠ dx)) ∧ Above ldl rest ∧ (∀ p ∈ rest, p.1 ≠ dx) ∧ (∀ p ∈ rest, p.1 ≠ I ∧ p.1 ≠ L' + 1 + 1 + 1 + 1) ∧ (∀ b o, b ≠ dx → InL objs b o → InL rest b o) ∧ (∀ b o, InL syms b o → InL rest b o) ∧ @LT.lt Nat _ dx h2.objs.size ∧ @LT.lt Nat _ ldl dx ∧ @Ne Nat dx I ∧ @LT.lt Nat _ thl dx ∧ @LT.lt Nat _ (L' + 1 + 1 + 1 + 1) dx ∧ @LT.lt Nat _ (L' + 1 + 1 + 1) dx ∧ @LT.lt Nat _ (L' + 1 + 1) dx ∧ @LT.lt Nat _ (L' + 1) dx ∧ @LT.lt Nat _ pot dx := fun dx d0 m2 => by
          have hdx : @LT.lt Nat _ dx h2.objs.size := hlt2 (dx, d0) (at8 m2)
          refine ⟨_, rfl, fun p hp => ?_, fun p hp => ?_, fun p hp => ?_, fun b o hb e => List.mem_append_right _ (List.mem_filter.mpr ⟨e, by simpa using hb⟩), fun b o e => List.mem_append_left _ e, hdx, hab _ m2, (hob _ m2).1, Nat.lt_trans hldl (hab _ m2), Nat.lt_trans hcal (hab _ m2), Nat.lt_of_succ_lt (Nat.lt_trans hcal (hab _ m2)), Nat.lt_of_succ_lt (Nat.lt_of_succ_lt (Nat.lt_trans hcal (hab _ m2))), Nat.lt_of_succ_lt (Nat.lt_of_succ_lt (Nat.lt_of_succ_lt (Nat.lt_trans hcal (hab _ m2)))), Nat.lt_trans hthl.2 (Nat.lt_trans hldl (hab _ m2))⟩
          · rcases List.mem_append.mp hp with hp | hp
            · exact Nat.lt_of_lt_of_le hl2 (hsy p hp).1
            · exact hab p (List.mem_filter.mp hp).1
          · rcases List.mem_append.mp hp with hp | hp
            · exact Nat.ne_of_gt (Nat.lt_of_lt_of_le hdx (hsy p hp).1)
            · simpa using (List.mem_filter.mp hp).2
          · rcases List.mem_append.mp hp with hp | hp
            · exact ⟨Nat.ne_of_gt (Nat.lt_of_lt_of_le hI2 (hsy p hp).1), Nat.ne_of_gt (Nat.lt_of_lt_of_le (Nat.lt_trans hcaI' hI2) (hsy p hp).1)⟩
            · exact hob p (List.mem_filter.mp hp).1
        have hob2 : ∀ b o, InL objs b o → @Ne Nat b I ∧ @Ne Nat b (L' + 1 + 1 + 1 + 1) := fun b o e => hob _ e
        have hysl : ys.length = l.length := by rw [hlys, hil.length]
        have hl3 := hlok.few
        clear hlt2 hnewb hns hk N F hN hlal hm10
        cases hinit with
        | cons i1 i2 i3 =>
          rename_i dx H1 H2 k1 k2 v1 v2
          have hl2' := hlok.two rfl
          obtain ⟨p0, p1, rfl⟩ : ∃ p0 p1, ys = [p0, p1] := len_two (hysl.trans hl2')
          have N := hmk _ _ _ i1 i2
          obtain ⟨rest, hre, hr1, hr2, hr3, hr4, hr5, hd1, hd2, hd3, hd4, hd5, hd6, hd7, hd8, hd9⟩ := hrest _ _ i2
          rw [← hre] at N
          have hadx : @Ne Nat a dx := ne_succ i3
          have hdI : @LT.lt Nat _ I D := Nat.lt_of_lt_of_le hI2 hD2
          clear hre hmk hrest hget hsy hob
          have haI : @Ne Nat a I := (hob2 _ _ i1).1
          have hdDx : @LT.lt Nat _ dx D := Nat.lt_of_lt_of_le hd1 hD2
          (repeat' (first | ((((fail_if_success (with_reducible show wpAny _ _ (pyIter (Value.ref _)) _ _ _)); (fail_if_success (with_reducible show wpAny _ _ (call (Value.ref _) _) _ _ _)); (fail_if_success (with_reducible show wpAny _ _ (exec (Stmt.While _ _ _ _) _) _ _ _)); (fail_if_success (with_reducible show wpAny _ _ (exec (Stmt.For _ _ _ _ _) _) _ _ _)); (fail_if_success (with_reducible show wpAny _ _ (call (Value.builtin "list.pop") _) _ _ _)); (fail_if_success (with_reducible show wpAny _ _ (compareOp _ (Value.ref _) (Value.ref _)) _ _ _)); (fail_if_success (with_reducible show wpAny _ _ (compareOp CmpOp.NotIn _ (Value.ref _)) _ _ _)); (fail_if_success (with_reducible show wpAny _ _ (subscriptTail _ _ (Value.ref _) (Value.int _ _)) _ _ _)); (fail_if_success (with_reducible show wpAny _ _ (eval (PySem.Expr.ListComp _ _ _ _) _) _ _ _)); (fail_if_success (with_reducible show wpAny _ _ (exec (Stmt.Assign _ (PySem.Expr.ListComp _ _ _ _) _) _) _ _ _)); (fail_if_success (with_reducible show wpAny _ _ (call (Value.builtin "isinstance") _) _ _ _)))); walk1) | ((((fail_if_success (with_reducible show wpAny _ _ (pyIter (Value.ref _)) _ _ _)); (fail_if_success (with_reducible show wpAny _ _ (call (Value.ref _) _) _ _ _)); (fail_if_success (with_reducible show wpAny _ _ (exec (Stmt.While _ _ _ _) _) _ _ _)); (fail_if_success (with_reducible show wpAny _ _ (exec (Stmt.For _ _ _ _ _) _) _ _ _)); (fail_if_success (with_reducible show wpAny _ _ (call (Value.builtin "list.pop") _) _ _ _)); (fail_if_success (with_reducible show wpAny _ _ (compareOp _ (Value.ref _) (Value.ref _)) _ _ _)); (fail_if_success (with_reducible show wpAny _ _ (compareOp CmpOp.NotIn _ (Value.ref _)) _ _ _)); (fail_if_success (with_reducible show wpAny _ _ (subscriptTail _ _ (Value.ref _) (Value.int _ _)) _ _ _)); (fail_if_success (with_reducible show wpAny _ _ (eval (PySem.Expr.ListComp _ _ _ _) _) _ _ _)); (fail_if_success (with_reducible show wpAny _ _ (exec (Stmt.Assign _ (PySem.Expr.ListComp _ _ _ _) _) _) _ _ _)); (fail_if_success (with_reducible show wpAny _ _ (call (Value.builtin "isinstance") _) _ _ _)))); dsimp only; (((fail_if_success (with_reducible show wpAny _ _ (pyIter (Value.ref _)) _ _ _)); (fail_if_success (with_reducible show wpAny _ _ (call (Value.ref _) _) _ _ _)); (fail_if_success (with_reducible show wpAny _ _ (exec (Stmt.While _ _ _ _) _) _ _ _)); (fail_if_success (with_reducible show wpAny _ _ (exec (Stmt.For _ _ _ _ _) _) _ _ _)); (fail_if_success (with_reducible show wpAny _ _ (call (Value.builtin "list.pop") _) _ _ _)); (fail_if_success (with_reducible show wpAny _ _ (compareOp _ (Value.ref _) (Value.ref _)) _ _ _)); (fail_if_success (with_reducible show wpAny _ _ (compareOp CmpOp.NotIn _ (Value.ref _)) _ _ _)); (fail_if_success (with_reducible show wpAny _ _ (subscriptTail _ _ (Value.ref _) (Value.int _ _)) _ _ _)); (fail_if_success (with_reducible show wpAny _ _ (eval (PySem.Expr.ListComp _ _ _ _) _) _ _ _)); (fail_if_success (with_reducible show wpAny _ _ (exec (Stmt.Assign _ (PySem.Expr.ListComp _ _ _ _) _) _) _ _ _)); (fail_if_success (with_reducible show wpAny _ _ (call (Value.builtin "isinstance") _) _ _ _)))); walk1)))
          rename Fr _ _ _ _ => F; rename News _ _ _ _ => N
          refine item_at (k := (i : Int)) (News.isList (a := thl) N (.tail _ (.tail _ (.tail _ (.tail _ (.tail _ (.tail _ (.head _)))))))) (Int.natCast_nonneg i) hi63 (v := .ref a) (by simp [ha]) ?_ (by with_unfolding_all rfl)
          (repeat' (first | ((((fail_if_success (with_reducible show wpAny _ _ (pyIter (Value.ref _)) _ _ _)); (fail_if_success (with_reducible show wpAny _ _ (call (Value.ref _) _) _ _ _)); (fail_if_success (with_reducible show wpAny _ _ (exec (Stmt.While _ _ _ _) _) _ _ _)); (fail_if_success (with_reducible show wpAny _ _ (exec (Stmt.For _ _ _ _ _) _) _ _ _)); (fail_if_success (with_reducible show wpAny _ _ (call (Value.builtin "list.pop") _) _ _ _)); (fail_if_success (with_reducible show wpAny _ _ (compareOp _ (Value.ref _) (Value.ref _)) _ _ _)); (fail_if_success (with_reducible show wpAny _ _ (compareOp CmpOp.NotIn _ (Value.ref _)) _ _ _)); (fail_if_success (with_reducible show wpAny _ _ (subscriptTail _ _ (Value.ref _) (Value.int _ _)) _ _ _)); (fail_if_success (with_reducible show wpAny _ _ (eval (PySem.Expr.ListComp _ _ _ _) _) _ _ _)); (fail_if_success (with_reducible show wpAny _ _ (exec (Stmt.Assign _ (PySem.Expr.ListComp _ _ _ _) _) _) _ _ _)); (fail_if_success (with_reducible show wpAny _ _ (call (Value.builtin "isinstance") _) _ _ _)))); walk1) | ((((fail_if_success (with_reducible show wpAny _ _ (pyIter (Value.ref _)) _ _ _)); (fail_if_success (with_reducible show wpAny _ _ (call (Value.ref _) _) _ _ _)); (fail_if_success (with_reducible show wpAny _ _ (exec (Stmt.While _ _ _ _) _) _ _ _)); (fail_if_success (with_reducible show wpAny _ _ (exec (Stmt.For _ _ _ _ _) _) _ _ _)); (fail_if_success (with_reducible show wpAny _ _ (call (Value.builtin "list.pop") _) _ _ _)); (fail_if_success (with_reducible show wpAny _ _ (compareOp _ (Value.ref _) (Value.ref _)) _ _ _)); (fail_if_success (with_reducible show wpAny _ _ (compareOp CmpOp.NotIn _ (Value.ref _)) _ _ _)); (fail_if_success (with_reducible show wpAny _ _ (subscriptTail _ _ (Value.ref _) (Value.int _ _)) _ _ _)); (fail_if_success (with_reducible show wpAny _ _ (eval (PySem.Expr.ListComp _ _ _ _) _) _ _ _)); (fail_if_success (with_reducible show wpAny _ _ (exec (Stmt.Assign _ (PySem.Expr.ListComp _ _ _ _) _) _) _ _ _)); (fail_if_success (with_reducible show wpAny _ _ (call (Value.builtin "isinstance") _) _ _ _)))); dsimp only; (((fail_if_success (with_reducible show wpAny _ _ (pyIter (Value.ref _)) _ _ _)); (fail_if_success (with_reducible show wpAny _ _ (call (Value.ref _) _) _ _ _)); (fail_if_success (with_reducible show wpAny _ _ (exec (Stmt.While _ _ _ _) _) _ _ _)); (fail_if_success (with_reducible show wpAny _ _ (exec (Stmt.For _ _ _ _ _) _) _ _ _)); (fail_if_success (with_reducible show wpAny _ _ (call (Value.builtin "list.pop") _) _ _ _)); (fail_if_success (with_reducible show wpAny _ _ (compareOp _ (Value.ref _) (Value.ref _)) _ _ _)); (fail_if_success (with_reducible show wpAny _ _ (compareOp CmpOp.NotIn _ (Value.ref _)) _ _ _)); (fail_if_success (with_reducible show wpAny _ _ (subscriptTail _ _ (Value.ref _) (Value.int _ _)) _ _ _)); (fail_if_success (with_reducible show wpAny _ _ (eval (PySem.Expr.ListComp _ _ _ _) _) _ _ _)); (fail_if_success (with_reducible show wpAny _ _ (exec (Stmt.Assign _ (PySem.Expr.ListComp _ _ _ _) _) _) _ _ _)); (fail_if_success (with_reducible show wpAny _ _ (call (Value.builtin "isinstance") _) _ _ _)))); walk1)))
          rename Fr _ _ _ _ => F; rename News _ _ _ _ => N
          refine isi_call (t := .ref 55) (X'.keeps F.keep) (fun M => InstAt.type (InstAt.of_news N (.tail _ (.head _)) (.head _))) (by k_is) (by intro e; cases e) ?_
          (repeat' (first | ((((fail_if_success (with_reducible show wpAny _ _ (pyIter (Value.ref _)) _ _ _)); (fail_if_success (with_reducible show wpAny _ _ (call (Value.ref _) _) _ _ _)); (fail_if_success (with_reducible show wpAny _ _ (exec (Stmt.While _ _ _ _) _) _ _ _)); (fail_if_success (with_reducible show wpAny _ _ (exec (Stmt.For _ _ _ _ _) _) _ _ _)); (fail_if_success (with_reducible show wpAny _ _ (call (Value.builtin "list.pop") _) _ _ _)); (fail_if_success (with_reducible show wpAny _ _ (compareOp _ (Value.ref _) (Value.ref _)) _ _ _)); (fail_if_success (with_reducible show wpAny _ _ (compareOp CmpOp.NotIn _ (Value.ref _)) _ _ _)); (fail_if_success (with_reducible show wpAny _ _ (subscriptTail _ _ (Value.ref _) (Value.int _ _)) _ _ _)); (fail_if_success (with_reducible show wpAny _ _ (eval (PySem.Expr.ListComp _ _ _ _) _) _ _ _)); (fail_if_success (with_reducible show wpAny _ _ (exec (Stmt.Assign _ (PySem.Expr.ListComp _ _ _ _) _) _) _ _ _)); (fail_if_success (with_reducible show wpAny _ _ (call (Value.builtin "isinstance") _) _ _ _)))); walk1) | ((((fail_if_success (with_reducible show wpAny _ _ (pyIter (Value.ref _)) _ _ _)); (fail_if_success (with_reducible show wpAny _ _ (call (Value.ref _) _) _ _ _)); (fail_if_success (with_reducible show wpAny _ _ (exec (Stmt.While _ _ _ _) _) _ _ _)); (fail_if_success (with_reducible show wpAny _ _ (exec (Stmt.For _ _ _ _ _) _) _ _ _)); (fail_if_success (with_reducible show wpAny _ _ (call (Value.builtin "list.pop") _) _ _ _)); (fail_if_success (with_reducible show wpAny _ _ (compareOp _ (Value.ref _) (Value.ref _)) _ _ _)); (fail_if_success (with_reducible show wpAny _ _ (compareOp CmpOp.NotIn _ (Value.ref _)) _ _ _)); (fail_if_success (with_reducible show wpAny _ _ (subscriptTail _ _ (Value.ref _) (Value.int _ _)) _ _ _)); (fail_if_success (with_reducible show wpAny _ _ (eval (PySem.Expr.ListComp _ _ _ _) _) _ _ _)); (fail_if_success (with_reducible show wpAny _ _ (exec (Stmt.Assign _ (PySem.Expr.ListComp _ _ _ _) _) _) _ _ _)); (fail_if_success (with_reducible show wpAny _ _ (call (Value.builtin "isinstance") _) _ _ _)))); dsimp only; (((fail_if_success (with_reducible show wpAny _ _ (pyIter (Value.ref _)) _ _ _)); (fail_if_success (with_reducible show wpAny _ _ (call (Value.ref _) _) _ _ _)); (fail_if_success (with_reducible show wpAny _ _ (exec (Stmt.While _ _ _ _) _) _ _ _)); (fail_if_success (with_reducible show wpAny _ _ (exec (Stmt.For _ _ _ _ _) _) _ _ _)); (fail_if_success (with_reducible show wpAny _ _ (call (Value.builtin "list.pop") _) _ _ _)); (fail_if_success (with_reducible show wpAny _ _ (compareOp _ (Value.ref _) (Value.ref _)) _ _ _)); (fail_if_success (with_reducible show wpAny _ _ (compareOp CmpOp.NotIn _ (Value.ref _)) _ _ _)); (fail_if_success (with_reducible show wpAny _ _ (subscriptTail _ _ (Value.ref _) (Value.int _ _)) _ _ _)); (fail_if_success (with_reducible show wpAny _ _ (eval (PySem.Expr.ListComp _ _ _ _) _) _ _ _)); (fail_if_success (with_reducible show wpAny _ _ (exec (Stmt.Assign _ (PySem.Expr.ListComp _ _ _ _) _) _) _ _ _)); (fail_if_success (with_reducible show wpAny _ _ (call (Value.builtin "isinstance") _) _ _ _)))); walk1)))
          rename Fr _ _ _ _ => F; rename News _ _ _ _ => N
          refine item_at (k := 0) (News.isList (a := D) N (.tail _ (.tail _ (.head _)))) (by decide) (by decide) (v := p0) rfl ?_ (by with_unfolding_all rfl)
          (repeat' (first | ((((fail_if_success (with_reducible show wpAny _ _ (pyIter (Value.ref _)) _ _ _)); (fail_if_success (with_reducible show wpAny _ _ (call (Value.ref _) _) _ _ _)); (fail_if_success (with_reducible show wpAny _ _ (exec (Stmt.While _ _ _ _) _) _ _ _)); (fail_if_success (with_reducible show wpAny _ _ (exec (Stmt.For _ _ _ _ _) _) _ _ _)); (fail_if_success (with_reducible show wpAny _ _ (call (Value.builtin "list.pop") _) _ _ _)); (fail_if_success (with_reducible show wpAny _ _ (compareOp _ (Value.ref _) (Value.ref _)) _ _ _)); (fail_if_success (with_reducible show wpAny _ _ (compareOp CmpOp.NotIn _ (Value.ref _)) _ _ _)); (fail_if_success (with_reducible show wpAny _ _ (subscriptTail _ _ (Value.ref _) (Value.int _ _)) _ _ _)); (fail_if_success (with_reducible show wpAny _ _ (eval (PySem.Expr.ListComp _ _ _ _) _) _ _ _)); (fail_if_success (with_reducible show wpAny _ _ (exec (Stmt.Assign _ (PySem.Expr.ListComp _ _ _ _) _) _) _ _ _)); (fail_if_success (with_reducible show wpAny _ _ (call (Value.builtin "isinstance") _) _ _ _)))); walk1) | ((((fail_if_success (with_reducible show wpAny _ _ (pyIter (Value.ref _)) _ _ _)); (fail_if_success (with_reducible show wpAny _ _ (call (Value.ref _) _) _ _ _)); (fail_if_success (with_reducible show wpAny _ _ (exec (Stmt.While _ _ _ _) _) _ _ _)); (fail_if_success (with_reducible show wpAny _ _ (exec (Stmt.For _ _ _ _ _) _) _ _ _)); (fail_if_success (with_reducible show wpAny _ _ (call (Value.builtin "list.pop") _) _ _ _)); (fail_if_success (with_reducible show wpAny _ _ (compareOp _ (Value.ref _) (Value.ref _)) _ _ _)); (fail_if_success (with_reducible show wpAny _ _ (compareOp CmpOp.NotIn _ (Value.ref _)) _ _ _)); (fail_if_success (with_reducible show wpAny _ _ (subscriptTail _ _ (Value.ref _) (Value.int _ _)) _ _ _)); (fail_if_success (with_reducible show wpAny _ _ (eval (PySem.Expr.ListComp _ _ _ _) _) _ _ _)); (fail_if_success (with_reducible show wpAny _ _ (exec (Stmt.Assign _ (PySem.Expr.ListComp _ _ _ _) _) _) _ _ _)); (fail_if_success (with_reducible show wpAny _ _ (call (Value.builtin "isinstance") _) _ _ _)))); dsimp only; (((fail_if_success (with_reducible show wpAny _ _ (pyIter (Value.ref _)) _ _ _)); (fail_if_success (with_reducible show wpAny _ _ (call (Value.ref _) _) _ _ _)); (fail_if_success (with_reducible show wpAny _ _ (exec (Stmt.While _ _ _ _) _) _ _ _)); (fail_if_success (with_reducible show wpAny _ _ (exec (Stmt.For _ _ _ _ _) _) _ _ _)); (fail_if_success (with_reducible show wpAny _ _ (call (Value.builtin "list.pop") _) _ _ _)); (fail_if_success (with_reducible show wpAny _ _ (compareOp _ (Value.ref _) (Value.ref _)) _ _ _)); (fail_if_success (with_reducible show wpAny _ _ (compareOp CmpOp.NotIn _ (Value.ref _)) _ _ _)); (fail_if_success (with_reducible show wpAny _ _ (subscriptTail _ _ (Value.ref _) (Value.int _ _)) _ _ _)); (fail_if_success (with_reducible show wpAny _ _ (eval (PySem.Expr.ListComp _ _ _ _) _) _ _ _)); (fail_if_success (with_reducible show wpAny _ _ (exec (Stmt.Assign _ (PySem.Expr.ListComp _ _ _ _) _) _) _ _ _)); (fail_if_success (with_reducible show wpAny _ _ (call (Value.builtin "isinstance") _) _ _ _)))); walk1)))
          rename Fr _ _ _ _ => F; rename News _ _ _ _ => N
          refine item_at (k := 1) (News.isList (a := D) N (.tail _ (.tail _ (.head _)))) (by decide) (by decide) (v := p1) rfl ?_ (by with_unfolding_all rfl)
          (repeat' (first | ((((fail_if_success (with_reducible show wpAny _ _ (pyIter (Value.ref _)) _ _ _)); (fail_if_success (with_reducible show wpAny _ _ (call (Value.ref _) _) _ _ _)); (fail_if_success (with_reducible show wpAny _ _ (exec (Stmt.While _ _ _ _) _) _ _ _)); (fail_if_success (with_reducible show wpAny _ _ (exec (Stmt.For _ _ _ _ _) _) _ _ _)); (fail_if_success (with_reducible show wpAny _ _ (call (Value.builtin "list.pop") _) _ _ _)); (fail_if_success (with_reducible show wpAny _ _ (compareOp _ (Value.ref _) (Value.ref _)) _ _ _)); (fail_if_success (with_reducible show wpAny _ _ (compareOp CmpOp.NotIn _ (Value.ref _)) _ _ _)); (fail_if_success (with_reducible show wpAny _ _ (subscriptTail _ _ (Value.ref _) (Value.int _ _)) _ _ _)); (fail_if_success (with_reducible show wpAny _ _ (eval (PySem.Expr.ListComp _ _ _ _) _) _ _ _)); (fail_if_success (with_reducible show wpAny _ _ (exec (Stmt.Assign _ (PySem.Expr.ListComp _ _ _ _) _) _) _ _ _)); (fail_if_success (with_reducible show wpAny _ _ (call (Value.builtin "isinstance") _) _ _ _)))); walk1) | ((((fail_if_success (with_reducible show wpAny _ _ (pyIter (Value.ref _)) _ _ _)); (fail_if_success (with_reducible show wpAny _ _ (call (Value.ref _) _) _ _ _)); (fail_if_success (with_reducible show wpAny _ _ (exec (Stmt.While _ _ _ _) _) _ _ _)); (fail_if_success (with_reducible show wpAny _ _ (exec (Stmt.For _ _ _ _ _) _) _ _ _)); (fail_if_success (with_reducible show wpAny _ _ (call (Value.builtin "list.pop") _) _ _ _)); (fail_if_success (with_reducible show wpAny _ _ (compareOp _ (Value.ref _) (Value.ref _)) _ _ _)); (fail_if_success (with_reducible show wpAny _ _ (compareOp CmpOp.NotIn _ (Value.ref _)) _ _ _)); (fail_if_success (with_reducible show wpAny _ _ (subscriptTail _ _ (Value.ref _) (Value.int _ _)) _ _ _)); (fail_if_success (with_reducible show wpAny _ _ (eval (PySem.Expr.ListComp _ _ _ _) _) _ _ _)); (fail_if_success (with_reducible show wpAny _ _ (exec (Stmt.Assign _ (PySem.Expr.ListComp _ _ _ _) _) _) _ _ _)); (fail_if_success (with_reducible show wpAny _ _ (call (Value.builtin "isinstance") _) _ _ _)))); dsimp only; (((fail_if_success (with_reducible show wpAny _ _ (pyIter (Value.ref _)) _ _ _)); (fail_if_success (with_reducible show wpAny _ _ (call (Value.ref _) _) _ _ _)); (fail_if_success (with_reducible show wpAny _ _ (exec (Stmt.While _ _ _ _) _) _ _ _)); (fail_if_success (with_reducible show wpAny _ _ (exec (Stmt.For _ _ _ _ _) _) _ _ _)); (fail_if_success (with_reducible show wpAny _ _ (call (Value.builtin "list.pop") _) _ _ _)); (fail_if_success (with_reducible show wpAny _ _ (compareOp _ (Value.ref _) (Value.ref _)) _ _ _)); (fail_if_success (with_reducible show wpAny _ _ (compareOp CmpOp.NotIn _ (Value.ref _)) _ _ _)); (fail_if_success (with_reducible show wpAny _ _ (subscriptTail _ _ (Value.ref _) (Value.int _ _)) _ _ _)); (fail_if_success (with_reducible show wpAny _ _ (eval (PySem.Expr.ListComp _ _ _ _) _) _ _ _)); (fail_if_success (with_reducible show wpAny _ _ (exec (Stmt.Assign _ (PySem.Expr.ListComp _ _ _ _) _) _) _ _ _)); (fail_if_success (with_reducible show wpAny _ _ (call (Value.builtin "isinstance") _) _ _ _)))); walk1)))
          rename Fr _ _ _ _ => F; rename News _ _ _ _ => N
          refine item_at (k := (i : Int)) (News.isList (a := thl) N (.tail _ (.tail _ (.tail _ (.tail _ (.tail _ (.tail _ (.tail _ (.head _))))))))) (Int.natCast_nonneg i) hi63 (v := .ref a) (by simp [ha]) ?_ (by with_unfolding_all rfl)
          (repeat' (first | ((((fail_if_success (with_reducible show wpAny _ _ (pyIter (Value.ref _)) _ _ _)); (fail_if_success (with_reducible show wpAny _ _ (call (Value.ref _) _) _ _ _)); (fail_if_success (with_reducible show wpAny _ _ (exec (Stmt.While _ _ _ _) _) _ _ _)); (fail_if_success (with_reducible show wpAny _ _ (exec (Stmt.For _ _ _ _ _) _) _ _ _)); (fail_if_success (with_reducible show wpAny _ _ (call (Value.builtin "list.pop") _) _ _ _)); (fail_if_success (with_reducible show wpAny _ _ (compareOp _ (Value.ref _) (Value.ref _)) _ _ _)); (fail_if_success (with_reducible show wpAny _ _ (compareOp CmpOp.NotIn _ (Value.ref _)) _ _ _)); (fail_if_success (with_reducible show wpAny _ _ (subscriptTail _ _ (Value.ref _) (Value.int _ _)) _ _ _)); (fail_if_success (with_reducible show wpAny _ _ (eval (PySem.Expr.ListComp _ _ _ _) _) _ _ _)); (fail_if_success (with_reducible show wpAny _ _ (exec (Stmt.Assign _ (PySem.Expr.ListComp _ _ _ _) _) _) _ _ _)); (fail_if_success (with_reducible show wpAny _ _ (call (Value.builtin "isinstance") _) _ _ _)))); walk1) | ((((fail_if_success (with_reducible show wpAny _ _ (pyIter (Value.ref _)) _ _ _)); (fail_if_success (with_reducible show wpAny _ _ (call (Value.ref _) _) _ _ _)); (fail_if_success (with_reducible show wpAny _ _ (exec (Stmt.While _ _ _ _) _) _ _ _)); (fail_if_success (with_reducible show wpAny _ _ (exec (Stmt.For _ _ _ _ _) _) _ _ _)); (fail_if_success (with_reducible show wpAny _ _ (call (Value.builtin "list.pop") _) _ _ _)); (fail_if_success (with_reducible show wpAny _ _ (compareOp _ (Value.ref _) (Value.ref _)) _ _ _)); (fail_if_success (with_reducible show wpAny _ _ (compareOp CmpOp.NotIn _ (Value.ref _)) _ _ _)); (fail_if_success (with_reducible show wpAny _ _ (subscriptTail _ _ (Value.ref _) (Value.int _ _)) _ _ _)); (fail_if_success (with_reducible show wpAny _ _ (eval (PySem.Expr.ListComp _ _ _ _) _) _ _ _)); (fail_if_success (with_reducible show wpAny _ _ (exec (Stmt.Assign _ (PySem.Expr.ListComp _ _ _ _) _) _) _ _ _)); (fail_if_success (with_reducible show wpAny _ _ (call (Value.builtin "isinstance") _) _ _ _)))); dsimp only; (((fail_if_success (with_reducible show wpAny _ _ (pyIter (Value.ref _)) _ _ _)); (fail_if_success (with_reducible show wpAny _ _ (call (Value.ref _) _) _ _ _)); (fail_if_success (with_reducible show wpAny _ _ (exec (Stmt.While _ _ _ _) _) _ _ _)); (fail_if_success (with_reducible show wpAny _ _ (exec (Stmt.For _ _ _ _ _) _) _ _ _)); (fail_if_success (with_reducible show wpAny _ _ (call (Value.builtin "list.pop") _) _ _ _)); (fail_if_success (with_reducible show wpAny _ _ (compareOp _ (Value.ref _) (Value.ref _)) _ _ _)); (fail_if_success (with_reducible show wpAny _ _ (compareOp CmpOp.NotIn _ (Value.ref _)) _ _ _)); (fail_if_success (with_reducible show wpAny _ _ (subscriptTail _ _ (Value.ref _) (Value.int _ _)) _ _ _)); (fail_if_success (with_reducible show wpAny _ _ (eval (PySem.Expr.ListComp _ _ _ _) _) _ _ _)); (fail_if_success (with_reducible show wpAny _ _ (exec (Stmt.Assign _ (PySem.Expr.ListComp _ _ _ _) _) _) _ _ _)); (fail_if_success (with_reducible show wpAny _ _ (call (Value.builtin "isinstance") _) _ _ _)))); walk1)))
          rename Fr _ _ _ _ => F; rename News _ _ _ _ => N
          refine item_at (k := (i : Int)) (News.isList (a := thl) N (.tail _ (.tail _ (.tail _ (.tail _ (.tail _ (.tail _ (.tail _ (.head _))))))))) (Int.natCast_nonneg i) hi63 (v := .ref a) (by simp [ha]) ?_ (by with_unfolding_all rfl)
          (repeat' (first | ((((fail_if_success (with_reducible show wpAny _ _ (pyIter (Value.ref _)) _ _ _)); (fail_if_success (with_reducible show wpAny _ _ (call (Value.ref _) _) _ _ _)); (fail_if_success (with_reducible show wpAny _ _ (exec (Stmt.While _ _ _ _) _) _ _ _)); (fail_if_success (with_reducible show wpAny _ _ (exec (Stmt.For _ _ _ _ _) _) _ _ _)); (fail_if_success (with_reducible show wpAny _ _ (call (Value.builtin "list.pop") _) _ _ _)); (fail_if_success (with_reducible show wpAny _ _ (compareOp _ (Value.ref _) (Value.ref _)) _ _ _)); (fail_if_success (with_reducible show wpAny _ _ (compareOp CmpOp.NotIn _ (Value.ref _)) _ _ _)); (fail_if_success (with_reducible show wpAny _ _ (subscriptTail _ _ (Value.ref _) (Value.int _ _)) _ _ _)); (fail_if_success (with_reducible show wpAny _ _ (eval (PySem.Expr.ListComp _ _ _ _) _) _ _ _)); (fail_if_success (with_reducible show wpAny _ _ (exec (Stmt.Assign _ (PySem.Expr.ListComp _ _ _ _) _) _) _ _ _)); (fail_if_success (with_reducible show wpAny _ _ (call (Value.builtin "isinstance") _) _ _ _)))); walk1) | ((((fail_if_success (with_reducible show wpAny _ _ (pyIter (Value.ref _)) _ _ _)); (fail_if_success (with_reducible show wpAny _ _ (call (Value.ref _) _) _ _ _)); (fail_if_success (with_reducible show wpAny _ _ (exec (Stmt.While _ _ _ _) _) _ _ _)); (fail_if_success (with_reducible show wpAny _ _ (exec (Stmt.For _ _ _ _ _) _) _ _ _)); (fail_if_success (with_reducible show wpAny _ _ (call (Value.builtin "list.pop") _) _ _ _)); (fail_if_success (with_reducible show wpAny _ _ (compareOp _ (Value.ref _) (Value.ref _)) _ _ _)); (fail_if_success (with_reducible show wpAny _ _ (compareOp CmpOp.NotIn _ (Value.ref _)) _ _ _)); (fail_if_success (with_reducible show wpAny _ _ (subscriptTail _ _ (Value.ref _) (Value.int _ _)) _ _ _)); (fail_if_success (with_reducible show wpAny _ _ (eval (PySem.Expr.ListComp _ _ _ _) _) _ _ _)); (fail_if_success (with_reducible show wpAny _ _ (exec (Stmt.Assign _ (PySem.Expr.ListComp _ _ _ _) _) _) _ _ _)); (fail_if_success (with_reducible show wpAny _ _ (call (Value.builtin "isinstance") _) _ _ _)))); dsimp only; (((fail_if_success (with_reducible show wpAny _ _ (pyIter (Value.ref _)) _ _ _)); (fail_if_success (with_reducible show wpAny _ _ (call (Value.ref _) _) _ _ _)); (fail_if_success (with_reducible show wpAny _ _ (exec (Stmt.While _ _ _ _) _) _ _ _)); (fail_if_success (with_reducible show wpAny _ _ (exec (Stmt.For _ _ _ _ _) _) _ _ _)); (fail_if_success (with_reducible show wpAny _ _ (call (Value.builtin "list.pop") _) _ _ _)); (fail_if_success (with_reducible show wpAny _ _ (compareOp _ (Value.ref _) (Value.ref _)) _ _ _)); (fail_if_success (with_reducible show wpAny _ _ (compareOp CmpOp.NotIn _ (Value.ref _)) _ _ _)); (fail_if_success (with_reducible show wpAny _ _ (subscriptTail _ _ (Value.ref _) (Value.int _ _)) _ _ _)); (fail_if_success (with_reducible show wpAny _ _ (eval (PySem.Expr.ListComp _ _ _ _) _) _ _ _)); (fail_if_success (with_reducible show wpAny _ _ (exec (Stmt.Assign _ (PySem.Expr.ListComp _ _ _ _) _) _) _ _ _)); (fail_if_success (with_reducible show wpAny _ _ (call (Value.builtin "isinstance") _) _ _ _)))); walk1)))
          rename Fr _ _ _ _ => F; rename News _ _ _ _ => N
          subst i3
          have N2 : News g L' _ ((I, oI) :: (L' + 1 + 1 + 1 + 1, oc) :: FX L' ldl thl pot cl ot2 om op lrefs nodes c1 c2 c3 at_ z ta tz ((dx, dictOf [⟨H1, .str (Str.ofString "car") k1, p0⟩, ⟨H2, .str (Str.ofString "cdr") k2, p1⟩] 2) :: (dx + 1, instObj 55 dx) :: (D, listOf (List.toArray [p0, p1]) c10) :: rest)) := fun p hp => N.tail' p (sub_e p hp)
          refine cend_next F N2 ⟨_, hoc⟩ ?_ ⟨some (.ref D), parts ++ [[p0, p1]], _, map_over _ _ _ _, rfl, Above.cons (Above.cons (Above.cons hr1 (Nat.lt_trans hd2 hdDx)) (Nat.lt_succ_of_lt hd2)) hd2, hhalf.step uniq i2 (fun b o hb e => .tail _ (.tail _ (.tail _ (hr4 b o hb e)))) hnd ha hla hl hlok (.cons (.tail _ (.head _)) (.head _) rfl) ⟨hysl, fun k v e f1 f2 => (hok k v e f1 f2).mono fun b o e => .tail _ (.tail _ (.tail _ (hr5 b o e)))⟩⟩
          exact List.forall_mem_cons.mpr ⟨⟨q1, nca1⟩, List.forall_mem_cons.mpr ⟨⟨q2, nca2⟩, List.forall_mem_cons.mpr ⟨⟨q3, nca3⟩, List.forall_mem_cons.mpr ⟨⟨q4, nca4⟩, List.forall_mem_cons.mpr ⟨⟨q5, nca5⟩, List.forall_mem_cons.mpr ⟨⟨q6, nca6⟩, List.forall_mem_cons.mpr ⟨⟨hd3, Nat.ne_of_gt (Nat.lt_trans hcal hd2)⟩, List.forall_mem_cons.mpr ⟨⟨haI, Nat.ne_of_gt (Nat.lt_succ_of_lt (Nat.lt_trans hcal hd2))⟩, List.forall_mem_cons.mpr ⟨⟨Nat.ne_of_gt hdI, Nat.ne_of_gt (Nat.lt_trans (Nat.lt_trans hcal hd2) hdDx)⟩, hr3⟩⟩⟩⟩⟩⟩⟩⟩⟩
        | vec i1 i2 i3 =>
          rename_i dx lv H k
          have N := hmk _ _ _ i1 i2
          obtain ⟨rest, hre, hr1, hr2, hr3, hr4, hr5, hd1, hd2, hd3, hd4, hd5, hd6, hd7, hd8, hd9⟩ := hrest _ _ i2
          rw [← hre] at N
          have hadx : @Ne Nat a dx := ne_succ i3
          have hdI : @LT.lt Nat _ I D := Nat.lt_of_lt_of_le hI2 hD2
          clear hre hmk hrest hget hsy hob
          have haI : @Ne Nat a I := (hob2 _ _ i1).1
          have hdDx : @LT.lt Nat _ dx D := Nat.lt_of_lt_of_le hd1 hD2
          (repeat' (first | ((((fail_if_success (with_reducible show wpAny _ _ (pyIter (Value.ref _)) _ _ _)); (fail_if_success (with_reducible show wpAny _ _ (call (Value.ref _) _) _ _ _)); (fail_if_success (with_reducible show wpAny _ _ (exec (Stmt.While _ _ _ _) _) _ _ _)); (fail_if_success (with_reducible show wpAny _ _ (exec (Stmt.For _ _ _ _ _) _) _ _ _)); (fail_if_success (with_reducible show wpAny _ _ (call (Value.builtin "list.pop") _) _ _ _)); (fail_if_success (with_reducible show wpAny _ _ (compareOp _ (Value.ref _) (Value.ref _)) _ _ _)); (fail_if_success (with_reducible show wpAny _ _ (compareOp CmpOp.NotIn _ (Value.ref _)) _ _ _)); (fail_if_success (with_reducible show wpAny _ _ (subscriptTail _ _ (Value.ref _) (Value.int _ _)) _ _ _)); (fail_if_success (with_reducible show wpAny _ _ (eval (PySem.Expr.ListComp _ _ _ _) _) _ _ _)); (fail_if_success (with_reducible show wpAny _ _ (exec (Stmt.Assign _ (PySem.Expr.ListComp _ _ _ _) _) _) _ _ _)); (fail_if_success (with_reducible show wpAny _ _ (call (Value.builtin "isinstance") _) _ _ _)))); walk1) | ((((fail_if_success (with_reducible show wpAny _ _ (pyIter (Value.ref _)) _ _ _)); (fail_if_success (with_reducible show wpAny _ _ (call (Value.ref _) _) _ _ _)); (fail_if_success (with_reducible show wpAny _ _ (exec (Stmt.While _ _ _ _) _) _ _ _)); (fail_if_success (with_reducible show wpAny _ _ (exec (Stmt.For _ _ _ _ _) _) _ _ _)); (fail_if_success (with_reducible show wpAny _ _ (call (Value.builtin "list.pop") _) _ _ _)); (fail_if_success (with_reducible show wpAny _ _ (compareOp _ (Value.ref _) (Value.ref _)) _ _ _)); (fail_if_success (with_reducible show wpAny _ _ (compareOp CmpOp.NotIn _ (Value.ref _)) _ _ _)); (fail_if_success (with_reducible show wpAny _ _ (subscriptTail _ _ (Value.ref _) (Value.int _ _)) _ _ _)); (fail_if_success (with_reducible show wpAny _ _ (eval (PySem.Expr.ListComp _ _ _ _) _) _ _ _)); (fail_if_success (with_reducible show wpAny _ _ (exec (Stmt.Assign _ (PySem.Expr.ListComp _ _ _ _) _) _) _ _ _)); (fail_if_success (with_reducible show wpAny _ _ (call (Value.builtin "isinstance") _) _ _ _)))); dsimp only; (((fail_if_success (with_reducible show wpAny _ _ (pyIter (Value.ref _)) _ _ _)); (fail_if_success (with_reducible show wpAny _ _ (call (Value.ref _) _) _ _ _)); (fail_if_success (with_reducible show wpAny _ _ (exec (Stmt.While _ _ _ _) _) _ _ _)); (fail_if_success (with_reducible show wpAny _ _ (exec (Stmt.For _ _ _ _ _) _) _ _ _)); (fail_if_success (with_reducible show wpAny _ _ (call (Value.builtin "list.pop") _) _ _ _)); (fail_if_success (with_reducible show wpAny _ _ (compareOp _ (Value.ref _) (Value.ref _)) _ _ _)); (fail_if_success (with_reducible show wpAny _ _ (compareOp CmpOp.NotIn _ (Value.ref _)) _ _ _)); (fail_if_success (with_reducible show wpAny _ _ (subscriptTail _ _ (Value.ref _) (Value.int _ _)) _ _ _)); (fail_if_success (with_reducible show wpAny _ _ (eval (PySem.Expr.ListComp _ _ _ _) _) _ _ _)); (fail_if_success (with_reducible show wpAny _ _ (exec (Stmt.Assign _ (PySem.Expr.ListComp _ _ _ _) _) _) _ _ _)); (fail_if_success (with_reducible show wpAny _ _ (call (Value.builtin "isinstance") _) _ _ _)))); walk1)))
          rename Fr _ _ _ _ => F; rename News _ _ _ _ => N
          refine item_at (k := (i : Int)) (News.isList (a := thl) N (.tail _ (.tail _ (.tail _ (.tail _ (.tail _ (.tail _ (.head _)))))))) (Int.natCast_nonneg i) hi63 (v := .ref a) (by simp [ha]) ?_ (by with_unfolding_all rfl)
          (repeat' (first | ((((fail_if_success (with_reducible show wpAny _ _ (pyIter (Value.ref _)) _ _ _)); (fail_if_success (with_reducible show wpAny _ _ (call (Value.ref _) _) _ _ _)); (fail_if_success (with_reducible show wpAny _ _ (exec (Stmt.While _ _ _ _) _) _ _ _)); (fail_if_success (with_reducible show wpAny _ _ (exec (Stmt.For _ _ _ _ _) _) _ _ _)); (fail_if_success (with_reducible show wpAny _ _ (call (Value.builtin "list.pop") _) _ _ _)); (fail_if_success (with_reducible show wpAny _ _ (compareOp _ (Value.ref _) (Value.ref _)) _ _ _)); (fail_if_success (with_reducible show wpAny _ _ (compareOp CmpOp.NotIn _ (Value.ref _)) _ _ _)); (fail_if_success (with_reducible show wpAny _ _ (subscriptTail _ _ (Value.ref _) (Value.int _ _)) _ _ _)); (fail_if_success (with_reducible show wpAny _ _ (eval (PySem.Expr.ListComp _ _ _ _) _) _ _ _)); (fail_if_success (with_reducible show wpAny _ _ (exec (Stmt.Assign _ (PySem.Expr.ListComp _ _ _ _) _) _) _ _ _)); (fail_if_success (with_reducible show wpAny _ _ (call (Value.builtin "isinstance") _) _ _ _)))); walk1) | ((((fail_if_success (with_reducible show wpAny _ _ (pyIter (Value.ref _)) _ _ _)); (fail_if_success (with_reducible show wpAny _ _ (call (Value.ref _) _) _ _ _)); (fail_if_success (with_reducible show wpAny _ _ (exec (Stmt.While _ _ _ _) _) _ _ _)); (fail_if_success (with_reducible show wpAny _ _ (exec (Stmt.For _ _ _ _ _) _) _ _ _)); (fail_if_success (with_reducible show wpAny _ _ (call (Value.builtin "list.pop") _) _ _ _)); (fail_if_success (with_reducible show wpAny _ _ (compareOp _ (Value.ref _) (Value.ref _)) _ _ _)); (fail_if_success (with_reducible show wpAny _ _ (compareOp CmpOp.NotIn _ (Value.ref _)) _ _ _)); (fail_if_success (with_reducible show wpAny _ _ (subscriptTail _ _ (Value.ref _) (Value.int _ _)) _ _ _)); (fail_if_success (with_reducible show wpAny _ _ (eval (PySem.Expr.ListComp _ _ _ _) _) _ _ _)); (fail_if_success (with_reducible show wpAny _ _ (exec (Stmt.Assign _ (PySem.Expr.ListComp _ _ _ _) _) _) _ _ _)); (fail_if_success (with_reducible show wpAny _ _ (call (Value.builtin "isinstance") _) _ _ _)))); dsimp only; (((fail_if_success (with_reducible show wpAny _ _ (pyIter (Value.ref _)) _ _ _)); (fail_if_success (with_reducible show wpAny _ _ (call (Value.ref _) _) _ _ _)); (fail_if_success (with_reducible show wpAny _ _ (exec (Stmt.While _ _ _ _) _) _ _ _)); (fail_if_success (with_reducible show wpAny _ _ (exec (Stmt.For _ _ _ _ _) _) _ _ _)); (fail_if_success (with_reducible show wpAny _ _ (call (Value.builtin "list.pop") _) _ _ _)); (fail_if_success (with_reducible show wpAny _ _ (compareOp _ (Value.ref _) (Value.ref _)) _ _ _)); (fail_if_success (with_reducible show wpAny _ _ (compareOp CmpOp.NotIn _ (Value.ref _)) _ _ _)); (fail_if_success (with_reducible show wpAny _ _ (subscriptTail _ _ (Value.ref _) (Value.int _ _)) _ _ _)); (fail_if_success (with_reducible show wpAny _ _ (eval (PySem.Expr.ListComp _ _ _ _) _) _ _ _)); (fail_if_success (with_reducible show wpAny _ _ (exec (Stmt.Assign _ (PySem.Expr.ListComp _ _ _ _) _) _) _ _ _)); (fail_if_success (with_reducible show wpAny _ _ (call (Value.builtin "isinstance") _) _ _ _)))); walk1)))
          walk1
          (repeat' (first | ((((fail_if_success (with_reducible show wpAny _ _ (pyIter (Value.ref _)) _ _ _)); (fail_if_success (with_reducible show wpAny _ _ (call (Value.ref _) _) _ _ _)); (fail_if_success (with_reducible show wpAny _ _ (exec (Stmt.While _ _ _ _) _) _ _ _)); (fail_if_success (with_reducible show wpAny _ _ (exec (Stmt.For _ _ _ _ _) _) _ _ _)); (fail_if_success (with_reducible show wpAny _ _ (call (Value.builtin "list.pop") _) _ _ _)); (fail_if_success (with_reducible show wpAny _ _ (compareOp _ (Value.ref _) (Value.ref _)) _ _ _)); (fail_if_success (with_reducible show wpAny _ _ (compareOp CmpOp.NotIn _ (Value.ref _)) _ _ _)); (fail_if_success (with_reducible show wpAny _ _ (subscriptTail _ _ (Value.ref _) (Value.int _ _)) _ _ _)); (fail_if_success (with_reducible show wpAny _ _ (eval (PySem.Expr.ListComp _ _ _ _) _) _ _ _)); (fail_if_success (with_reducible show wpAny _ _ (exec (Stmt.Assign _ (PySem.Expr.ListComp _ _ _ _) _) _) _ _ _)); (fail_if_success (with_reducible show wpAny _ _ (call (Value.builtin "isinstance") _) _ _ _)))); walk1) | ((((fail_if_success (with_reducible show wpAny _ _ (pyIter (Value.ref _)) _ _ _)); (fail_if_success (with_reducible show wpAny _ _ (call (Value.ref _) _) _ _ _)); (fail_if_success (with_reducible show wpAny _ _ (exec (Stmt.While _ _ _ _) _) _ _ _)); (fail_if_success (with_reducible show wpAny _ _ (exec (Stmt.For _ _ _ _ _) _) _ _ _)); (fail_if_success (with_reducible show wpAny _ _ (call (Value.builtin "list.pop") _) _ _ _)); (fail_if_success (with_reducible show wpAny _ _ (compareOp _ (Value.ref _) (Value.ref _)) _ _ _)); (fail_if_success (with_reducible show wpAny _ _ (compareOp CmpOp.NotIn _ (Value.ref _)) _ _ _)); (fail_if_success (with_reducible show wpAny _ _ (subscriptTail _ _ (Value.ref _) (Value.int _ _)) _ _ _)); (fail_if_success (with_reducible show wpAny _ _ (eval (PySem.Expr.ListComp _ _ _ _) _) _ _ _)); (fail_if_success (with_reducible show wpAny _ _ (exec (Stmt.Assign _ (PySem.Expr.ListComp _ _ _ _) _) _) _ _ _)); (fail_if_success (with_reducible show wpAny _ _ (call (Value.builtin "isinstance") _) _ _ _)))); dsimp only; (((fail_if_success (with_reducible show wpAny _ _ (pyIter (Value.ref _)) _ _ _)); (fail_if_success (with_reducible show wpAny _ _ (call (Value.ref _) _) _ _ _)); (fail_if_success (with_reducible show wpAny _ _ (exec (Stmt.While _ _ _ _) _) _ _ _)); (fail_if_success (with_reducible show wpAny _ _ (exec (Stmt.For _ _ _ _ _) _) _ _ _)); (fail_if_success (with_reducible show wpAny _ _ (call (Value.builtin "list.pop") _) _ _ _)); (fail_if_success (with_reducible show wpAny _ _ (compareOp _ (Value.ref _) (Value.ref _)) _ _ _)); (fail_if_success (with_reducible show wpAny _ _ (compareOp CmpOp.NotIn _ (Value.ref _)) _ _ _)); (fail_if_success (with_reducible show wpAny _ _ (subscriptTail _ _ (Value.ref _) (Value.int _ _)) _ _ _)); (fail_if_success (with_reducible show wpAny _ _ (eval (PySem.Expr.ListComp _ _ _ _) _) _ _ _)); (fail_if_success (with_reducible show wpAny _ _ (exec (Stmt.Assign _ (PySem.Expr.ListComp _ _ _ _) _) _) _ _ _)); (fail_if_success (with_reducible show wpAny _ _ (call (Value.builtin "isinstance") _) _ _ _)))); walk1)))
          rename Fr _ _ _ _ => F; rename News _ _ _ _ => N
          refine item_at (k := (i : Int)) (News.isList (a := thl) N (.tail _ (.tail _ (.tail _ (.tail _ (.tail _ (.tail _ (.head _)))))))) (Int.natCast_nonneg i) hi63 (v := .ref a) (by simp [ha]) ?_ (by with_unfolding_all rfl)
          (repeat' (first | ((((fail_if_success (with_reducible show wpAny _ _ (pyIter (Value.ref _)) _ _ _)); (fail_if_success (with_reducible show wpAny _ _ (call (Value.ref _) _) _ _ _)); (fail_if_success (with_reducible show wpAny _ _ (exec (Stmt.While _ _ _ _) _) _ _ _)); (fail_if_success (with_reducible show wpAny _ _ (exec (Stmt.For _ _ _ _ _) _) _ _ _)); (fail_if_success (with_reducible show wpAny _ _ (call (Value.builtin "list.pop") _) _ _ _)); (fail_if_success (with_reducible show wpAny _ _ (compareOp _ (Value.ref _) (Value.ref _)) _ _ _)); (fail_if_success (with_reducible show wpAny _ _ (compareOp CmpOp.NotIn _ (Value.ref _)) _ _ _)); (fail_if_success (with_reducible show wpAny _ _ (subscriptTail _ _ (Value.ref _) (Value.int _ _)) _ _ _)); (fail_if_success (with_reducible show wpAny _ _ (eval (PySem.Expr.ListComp _ _ _ _) _) _ _ _)); (fail_if_success (with_reducible show wpAny _ _ (exec (Stmt.Assign _ (PySem.Expr.ListComp _ _ _ _) _) _) _ _ _)); (fail_if_success (with_reducible show wpAny _ _ (call (Value.builtin "isinstance") _) _ _ _)))); walk1) | ((((fail_if_success (with_reducible show wpAny _ _ (pyIter (Value.ref _)) _ _ _)); (fail_if_success (with_reducible show wpAny _ _ (call (Value.ref _) _) _ _ _)); (fail_if_success (with_reducible show wpAny _ _ (exec (Stmt.While _ _ _ _) _) _ _ _)); (fail_if_success (with_reducible show wpAny _ _ (exec (Stmt.For _ _ _ _ _) _) _ _ _)); (fail_if_success (with_reducible show wpAny _ _ (call (Value.builtin "list.pop") _) _ _ _)); (fail_if_success (with_reducible show wpAny _ _ (compareOp _ (Value.ref _) (Value.ref _)) _ _ _)); (fail_if_success (with_reducible show wpAny _ _ (compareOp CmpOp.NotIn _ (Value.ref _)) _ _ _)); (fail_if_success (with_reducible show wpAny _ _ (subscriptTail _ _ (Value.ref _) (Value.int _ _)) _ _ _)); (fail_if_success (with_reducible show wpAny _ _ (eval (PySem.Expr.ListComp _ _ _ _) _) _ _ _)); (fail_if_success (with_reducible show wpAny _ _ (exec (Stmt.Assign _ (PySem.Expr.ListComp _ _ _ _) _) _) _ _ _)); (fail_if_success (with_reducible show wpAny _ _ (call (Value.builtin "isinstance") _) _ _ _)))); dsimp only; (((fail_if_success (with_reducible show wpAny _ _ (pyIter (Value.ref _)) _ _ _)); (fail_if_success (with_reducible show wpAny _ _ (call (Value.ref _) _) _ _ _)); (fail_if_success (with_reducible show wpAny _ _ (exec (Stmt.While _ _ _ _) _) _ _ _)); (fail_if_success (with_reducible show wpAny _ _ (exec (Stmt.For _ _ _ _ _) _) _ _ _)); (fail_if_success (with_reducible show wpAny _ _ (call (Value.builtin "list.pop") _) _ _ _)); (fail_if_success (with_reducible show wpAny _ _ (compareOp _ (Value.ref _) (Value.ref _)) _ _ _)); (fail_if_success (with_reducible show wpAny _ _ (compareOp CmpOp.NotIn _ (Value.ref _)) _ _ _)); (fail_if_success (with_reducible show wpAny _ _ (subscriptTail _ _ (Value.ref _) (Value.int _ _)) _ _ _)); (fail_if_success (with_reducible show wpAny _ _ (eval (PySem.Expr.ListComp _ _ _ _) _) _ _ _)); (fail_if_success (with_reducible show wpAny _ _ (exec (Stmt.Assign _ (PySem.Expr.ListComp _ _ _ _) _) _) _ _ _)); (fail_if_success (with_reducible show wpAny _ _ (call (Value.builtin "isinstance") _) _ _ _)))); walk1)))
          rename Fr _ _ _ _ => F; rename News _ _ _ _ => N
          refine isi_call (t := .ref 98) (X'.keeps F.keep) (fun M => InstAt.type (InstAt.of_news N (.tail _ (.head _)) (.head _))) (by k_is) (by intro e; cases e) ?_
          (repeat' (first | ((((fail_if_success (with_reducible show wpAny _ _ (pyIter (Value.ref _)) _ _ _)); (fail_if_success (with_reducible show wpAny _ _ (call (Value.ref _) _) _ _ _)); (fail_if_success (with_reducible show wpAny _ _ (exec (Stmt.While _ _ _ _) _) _ _ _)); (fail_if_success (with_reducible show wpAny _ _ (exec (Stmt.For _ _ _ _ _) _) _ _ _)); (fail_if_success (with_reducible show wpAny _ _ (call (Value.builtin "list.pop") _) _ _ _)); (fail_if_success (with_reducible show wpAny _ _ (compareOp _ (Value.ref _) (Value.ref _)) _ _ _)); (fail_if_success (with_reducible show wpAny _ _ (compareOp CmpOp.NotIn _ (Value.ref _)) _ _ _)); (fail_if_success (with_reducible show wpAny _ _ (subscriptTail _ _ (Value.ref _) (Value.int _ _)) _ _ _)); (fail_if_success (with_reducible show wpAny _ _ (eval (PySem.Expr.ListComp _ _ _ _) _) _ _ _)); (fail_if_success (with_reducible show wpAny _ _ (exec (Stmt.Assign _ (PySem.Expr.ListComp _ _ _ _) _) _) _ _ _)); (fail_if_success (with_reducible show wpAny _ _ (call (Value.builtin "isinstance") _) _ _ _)))); walk1) | ((((fail_if_success (with_reducible show wpAny _ _ (pyIter (Value.ref _)) _ _ _)); (fail_if_success (with_reducible show wpAny _ _ (call (Value.ref _) _) _ _ _)); (fail_if_success (with_reducible show wpAny _ _ (exec (Stmt.While _ _ _ _) _) _ _ _)); (fail_if_success (with_reducible show wpAny _ _ (exec (Stmt.For _ _ _ _ _) _) _ _ _)); (fail_if_success (with_reducible show wpAny _ _ (call (Value.builtin "list.pop") _) _ _ _)); (fail_if_success (with_reducible show wpAny _ _ (compareOp _ (Value.ref _) (Value.ref _)) _ _ _)); (fail_if_success (with_reducible show wpAny _ _ (compareOp CmpOp.NotIn _ (Value.ref _)) _ _ _)); (fail_if_success (with_reducible show wpAny _ _ (subscriptTail _ _ (Value.ref _) (Value.int _ _)) _ _ _)); (fail_if_success (with_reducible show wpAny _ _ (eval (PySem.Expr.ListComp _ _ _ _) _) _ _ _)); (fail_if_success (with_reducible show wpAny _ _ (exec (Stmt.Assign _ (PySem.Expr.ListComp _ _ _ _) _) _) _ _ _)); (fail_if_success (with_reducible show wpAny _ _ (call (Value.builtin "isinstance") _) _ _ _)))); dsimp only; (((fail_if_success (with_reducible show wpAny _ _ (pyIter (Value.ref _)) _ _ _)); (fail_if_success (with_reducible show wpAny _ _ (call (Value.ref _) _) _ _ _)); (fail_if_success (with_reducible show wpAny _ _ (exec (Stmt.While _ _ _ _) _) _ _ _)); (fail_if_success (with_reducible show wpAny _ _ (exec (Stmt.For _ _ _ _ _) _) _ _ _)); (fail_if_success (with_reducible show wpAny _ _ (call (Value.builtin "list.pop") _) _ _ _)); (fail_if_success (with_reducible show wpAny _ _ (compareOp _ (Value.ref _) (Value.ref _)) _ _ _)); (fail_if_success (with_reducible show wpAny _ _ (compareOp CmpOp.NotIn _ (Value.ref _)) _ _ _)); (fail_if_success (with_reducible show wpAny _ _ (subscriptTail _ _ (Value.ref _) (Value.int _ _)) _ _ _)); (fail_if_success (with_reducible show wpAny _ _ (eval (PySem.Expr.ListComp _ _ _ _) _) _ _ _)); (fail_if_success (with_reducible show wpAny _ _ (exec (Stmt.Assign _ (PySem.Expr.ListComp _ _ _ _) _) _) _ _ _)); (fail_if_success (with_reducible show wpAny _ _ (call (Value.builtin "isinstance") _) _ _ _)))); walk1)))
          rename Fr _ _ _ _ => F; rename News _ _ _ _ => N
          refine item_at (k := (i : Int)) (News.isList (a := thl) N (.tail _ (.tail _ (.tail _ (.tail _ (.tail _ (.tail _ (.head _)))))))) (Int.natCast_nonneg i) hi63 (v := .ref a) (by simp [ha]) ?_ (by with_unfolding_all rfl)
          (repeat' (first | ((((fail_if_success (with_reducible show wpAny _ _ (pyIter (Value.ref _)) _ _ _)); (fail_if_success (with_reducible show wpAny _ _ (call (Value.ref _) _) _ _ _)); (fail_if_success (with_reducible show wpAny _ _ (exec (Stmt.While _ _ _ _) _) _ _ _)); (fail_if_success (with_reducible show wpAny _ _ (exec (Stmt.For _ _ _ _ _) _) _ _ _)); (fail_if_success (with_reducible show wpAny _ _ (call (Value.builtin "list.pop") _) _ _ _)); (fail_if_success (with_reducible show wpAny _ _ (compareOp _ (Value.ref _) (Value.ref _)) _ _ _)); (fail_if_success (with_reducible show wpAny _ _ (compareOp CmpOp.NotIn _ (Value.ref _)) _ _ _)); (fail_if_success (with_reducible show wpAny _ _ (subscriptTail _ _ (Value.ref _) (Value.int _ _)) _ _ _)); (fail_if_success (with_reducible show wpAny _ _ (eval (PySem.Expr.ListComp _ _ _ _) _) _ _ _)); (fail_if_success (with_reducible show wpAny _ _ (exec (Stmt.Assign _ (PySem.Expr.ListComp _ _ _ _) _) _) _ _ _)); (fail_if_success (with_reducible show wpAny _ _ (call (Value.builtin "isinstance") _) _ _ _)))); walk1) | ((((fail_if_success (with_reducible show wpAny _ _ (pyIter (Value.ref _)) _ _ _)); (fail_if_success (with_reducible show wpAny _ _ (call (Value.ref _) _) _ _ _)); (fail_if_success (with_reducible show wpAny _ _ (exec (Stmt.While _ _ _ _) _) _ _ _)); (fail_if_success (with_reducible show wpAny _ _ (exec (Stmt.For _ _ _ _ _) _) _ _ _)); (fail_if_success (with_reducible show wpAny _ _ (call (Value.builtin "list.pop") _) _ _ _)); (fail_if_success (with_reducible show wpAny _ _ (compareOp _ (Value.ref _) (Value.ref _)) _ _ _)); (fail_if_success (with_reducible show wpAny _ _ (compareOp CmpOp.NotIn _ (Value.ref _)) _ _ _)); (fail_if_success (with_reducible show wpAny _ _ (subscriptTail _ _ (Value.ref _) (Value.int _ _)) _ _ _)); (fail_if_success (with_reducible show wpAny _ _ (eval (PySem.Expr.ListComp _ _ _ _) _) _ _ _)); (fail_if_success (with_reducible show wpAny _ _ (exec (Stmt.Assign _ (PySem.Expr.ListComp _ _ _ _) _) _) _ _ _)); (fail_if_success (with_reducible show wpAny _ _ (call (Value.builtin "isinstance") _) _ _ _)))); dsimp only; (((fail_if_success (with_reducible show wpAny _ _ (pyIter (Value.ref _)) _ _ _)); (fail_if_success (with_reducible show wpAny _ _ (call (Value.ref _) _) _ _ _)); (fail_if_success (with_reducible show wpAny _ _ (exec (Stmt.While _ _ _ _) _) _ _ _)); (fail_if_success (with_reducible show wpAny _ _ (exec (Stmt.For _ _ _ _ _) _) _ _ _)); (fail_if_success (with_reducible show wpAny _ _ (call (Value.builtin "list.pop") _) _ _ _)); (fail_if_success (with_reducible show wpAny _ _ (compareOp _ (Value.ref _) (Value.ref _)) _ _ _)); (fail_if_success (with_reducible show wpAny _ _ (compareOp CmpOp.NotIn _ (Value.ref _)) _ _ _)); (fail_if_success (with_reducible show wpAny _ _ (subscriptTail _ _ (Value.ref _) (Value.int _ _)) _ _ _)); (fail_if_success (with_reducible show wpAny _ _ (eval (PySem.Expr.ListComp _ _ _ _) _) _ _ _)); (fail_if_success (with_reducible show wpAny _ _ (exec (Stmt.Assign _ (PySem.Expr.ListComp _ _ _ _) _) _) _ _ _)); (fail_if_success (with_reducible show wpAny _ _ (call (Value.builtin "isinstance") _) _ _ _)))); walk1)))
          rename Fr _ _ _ _ => F; rename News _ _ _ _ => N
          subst i3
          have N2 : News g L' _ ((I, oI) :: (L' + 1 + 1 + 1 + 1, oc) :: FX L' ldl thl pot cl ot2 om op lrefs nodes c1 c2 c3 at_ z ta tz ((dx, dictOf [⟨H, .str (Str.ofString "things") k, .ref D⟩] 1) :: (dx + 1, instObj 98 dx) :: (D, listOf (List.toArray ys) c10) :: rest)) := fun p hp => N p (sub_e p hp)
          refine cend_next F N2 ⟨_, hoc⟩ ?_ ⟨some (.ref D), parts ++ [ys], _, map_over _ _ _ _, rfl, Above.cons (Above.cons (Above.cons hr1 (Nat.lt_trans hd2 hdDx)) (Nat.lt_succ_of_lt hd2)) hd2, hhalf.step uniq i2 (fun b o hb e => .tail _ (.tail _ (.tail _ (hr4 b o hb e)))) hnd ha hla hl hlok (.vec (.tail _ (.head _)) (.head _) (.tail _ (.tail _ (.head _))) rfl) ⟨hysl, fun k v e f1 f2 => (hok k v e f1 f2).mono fun b o e => .tail _ (.tail _ (.tail _ (hr5 b o e)))⟩⟩
          exact List.forall_mem_cons.mpr ⟨⟨q1, nca1⟩, List.forall_mem_cons.mpr ⟨⟨q2, nca2⟩, List.forall_mem_cons.mpr ⟨⟨q3, nca3⟩, List.forall_mem_cons.mpr ⟨⟨q4, nca4⟩, List.forall_mem_cons.mpr ⟨⟨q5, nca5⟩, List.forall_mem_cons.mpr ⟨⟨q6, nca6⟩, List.forall_mem_cons.mpr ⟨⟨hd3, Nat.ne_of_gt (Nat.lt_trans hcal hd2)⟩, List.forall_mem_cons.mpr ⟨⟨haI, Nat.ne_of_gt (Nat.lt_succ_of_lt (Nat.lt_trans hcal hd2))⟩, List.forall_mem_cons.mpr ⟨⟨Nat.ne_of_gt hdI, Nat.ne_of_gt (Nat.lt_trans (Nat.lt_trans hcal hd2) hdDx)⟩, hr3⟩⟩⟩⟩⟩⟩⟩⟩⟩
        | text i1 i2 i3 =>
          rename_i dx es n
          have hl0 := hlok.none rfl
          obtain rfl : ys = [] := List.length_eq_zero_iff.mp (by rw [hysl, hl0]; rfl)
          have N := hmk _ _ _ i1 i2
          obtain ⟨rest, hre, hr1, hr2, hr3, hr4, hr5, hd1, hd2, hd3, hd4, hd5, hd6, hd7, hd8, hd9⟩ := hrest _ _ i2
          rw [← hre] at N
          have hadx : @Ne Nat a dx := ne_succ i3
          have hdI : @LT.lt Nat _ I D := Nat.lt_of_lt_of_le hI2 hD2
          clear hre hmk hrest hget hsy hob
          have haI : @Ne Nat a I := (hob2 _ _ i1).1
          have hdDx : @LT.lt Nat _ dx D := Nat.lt_of_lt_of_le hd1 hD2
          (repeat' (first | ((((fail_if_success (with_reducible show wpAny _ _ (pyIter (Value.ref _)) _ _ _)); (fail_if_success (with_reducible show wpAny _ _ (call (Value.ref _) _) _ _ _)); (fail_if_success (with_reducible show wpAny _ _ (exec (Stmt.While _ _ _ _) _) _ _ _)); (fail_if_success (with_reducible show wpAny _ _ (exec (Stmt.For _ _ _ _ _) _) _ _ _)); (fail_if_success (with_reducible show wpAny _ _ (call (Value.builtin "list.pop") _) _ _ _)); (fail_if_success (with_reducible show wpAny _ _ (compareOp _ (Value.ref _) (Value.ref _)) _ _ _)); (fail_if_success (with_reducible show wpAny _ _ (compareOp CmpOp.NotIn _ (Value.ref _)) _ _ _)); (fail_if_success (with_reducible show wpAny _ _ (subscriptTail _ _ (Value.ref _) (Value.int _ _)) _ _ _)); (fail_if_success (with_reducible show wpAny _ _ (eval (PySem.Expr.ListComp _ _ _ _) _) _ _ _)); (fail_if_success (with_reducible show wpAny _ _ (exec (Stmt.Assign _ (PySem.Expr.ListComp _ _ _ _) _) _) _ _ _)); (fail_if_success (with_reducible show wpAny _ _ (call (Value.builtin "isinstance") _) _ _ _)))); walk1) | ((((fail_if_success (with_reducible show wpAny _ _ (pyIter (Value.ref _)) _ _ _)); (fail_if_success (with_reducible show wpAny _ _ (call (Value.ref _) _) _ _ _)); (fail_if_success (with_reducible show wpAny _ _ (exec (Stmt.While _ _ _ _) _) _ _ _)); (fail_if_success (with_reducible show wpAny _ _ (exec (Stmt.For _ _ _ _ _) _) _ _ _)); (fail_if_success (with_reducible show wpAny _ _ (call (Value.builtin "list.pop") _) _ _ _)); (fail_if_success (with_reducible show wpAny _ _ (compareOp _ (Value.ref _) (Value.ref _)) _ _ _)); (fail_if_success (with_reducible show wpAny _ _ (compareOp CmpOp.NotIn _ (Value.ref _)) _ _ _)); (fail_if_success (with_reducible show wpAny _ _ (subscriptTail _ _ (Value.ref _) (Value.int _ _)) _ _ _)); (fail_if_success (with_reducible show wpAny _ _ (eval (PySem.Expr.ListComp _ _ _ _) _) _ _ _)); (fail_if_success (with_reducible show wpAny _ _ (exec (Stmt.Assign _ (PySem.Expr.ListComp _ _ _ _) _) _) _ _ _)); (fail_if_success (with_reducible show wpAny _ _ (call (Value.builtin "isinstance") _) _ _ _)))); dsimp only; (((fail_if_success (with_reducible show wpAny _ _ (pyIter (Value.ref _)) _ _ _)); (fail_if_success (with_reducible show wpAny _ _ (call (Value.ref _) _) _ _ _)); (fail_if_success (with_reducible show wpAny _ _ (exec (Stmt.While _ _ _ _) _) _ _ _)); (fail_if_success (with_reducible show wpAny _ _ (exec (Stmt.For _ _ _ _ _) _) _ _ _)); (fail_if_success (with_reducible show wpAny _ _ (call (Value.builtin "list.pop") _) _ _ _)); (fail_if_success (with_reducible show wpAny _ _ (compareOp _ (Value.ref _) (Value.ref _)) _ _ _)); (fail_if_success (with_reducible show wpAny _ _ (compareOp CmpOp.NotIn _ (Value.ref _)) _ _ _)); (fail_if_success (with_reducible show wpAny _ _ (subscriptTail _ _ (Value.ref _) (Value.int _ _)) _ _ _)); (fail_if_success (with_reducible show wpAny _ _ (eval (PySem.Expr.ListComp _ _ _ _) _) _ _ _)); (fail_if_success (with_reducible show wpAny _ _ (exec (Stmt.Assign _ (PySem.Expr.ListComp _ _ _ _) _) _) _ _ _)); (fail_if_success (with_reducible show wpAny _ _ (call (Value.builtin "isinstance") _) _ _ _)))); walk1)))
          rename Fr _ _ _ _ => F; rename News _ _ _ _ => N
          refine item_at (k := (i : Int)) (News.isList (a := thl) N (.tail _ (.tail _ (.tail _ (.tail _ (.tail _ (.tail _ (.head _)))))))) (Int.natCast_nonneg i) hi63 (v := .ref a) (by simp [ha]) ?_ (by with_unfolding_all rfl)
          (repeat' (first | ((((fail_if_success (with_reducible show wpAny _ _ (pyIter (Value.ref _)) _ _ _)); (fail_if_success (with_reducible show wpAny _ _ (call (Value.ref _) _) _ _ _)); (fail_if_success (with_reducible show wpAny _ _ (exec (Stmt.While _ _ _ _) _) _ _ _)); (fail_if_success (with_reducible show wpAny _ _ (exec (Stmt.For _ _ _ _ _) _) _ _ _)); (fail_if_success (with_reducible show wpAny _ _ (call (Value.builtin "list.pop") _) _ _ _)); (fail_if_success (with_reducible show wpAny _ _ (compareOp _ (Value.ref _) (Value.ref _)) _ _ _)); (fail_if_success (with_reducible show wpAny _ _ (compareOp CmpOp.NotIn _ (Value.ref _)) _ _ _)); (fail_if_success (with_reducible show wpAny _ _ (subscriptTail _ _ (Value.ref _) (Value.int _ _)) _ _ _)); (fail_if_success (with_reducible show wpAny _ _ (eval (PySem.Expr.ListComp _ _ _ _) _) _ _ _)); (fail_if_success (with_reducible show wpAny _ _ (exec (Stmt.Assign _ (PySem.Expr.ListComp _ _ _ _) _) _) _ _ _)); (fail_if_success (with_reducible show wpAny _ _ (call (Value.builtin "isinstance") _) _ _ _)))); walk1) | ((((fail_if_success (with_reducible show wpAny _ _ (pyIter (Value.ref _)) _ _ _)); (fail_if_success (with_reducible show wpAny _ _ (call (Value.ref _) _) _ _ _)); (fail_if_success (with_reducible show wpAny _ _ (exec (Stmt.While _ _ _ _) _) _ _ _)); (fail_if_success (with_reducible show wpAny _ _ (exec (Stmt.For _ _ _ _ _) _) _ _ _)); (fail_if_success (with_reducible show wpAny _ _ (call (Value.builtin "list.pop") _) _ _ _)); (fail_if_success (with_reducible show wpAny _ _ (compareOp _ (Value.ref _) (Value.ref _)) _ _ _)); (fail_if_success (with_reducible show wpAny _ _ (compareOp CmpOp.NotIn _ (Value.ref _)) _ _ _)); (fail_if_success (with_reducible show wpAny _ _ (subscriptTail _ _ (Value.ref _) (Value.int _ _)) _ _ _)); (fail_if_success (with_reducible show wpAny _ _ (eval (PySem.Expr.ListComp _ _ _ _) _) _ _ _)); (fail_if_success (with_reducible show wpAny _ _ (exec (Stmt.Assign _ (PySem.Expr.ListComp _ _ _ _) _) _) _ _ _)); (fail_if_success (with_reducible show wpAny _ _ (call (Value.builtin "isinstance") _) _ _ _)))); dsimp only; (((fail_if_success (with_reducible show wpAny _ _ (pyIter (Value.ref _)) _ _ _)); (fail_if_success (with_reducible show wpAny _ _ (call (Value.ref _) _) _ _ _)); (fail_if_success (with_reducible show wpAny _ _ (exec (Stmt.While _ _ _ _) _) _ _ _)); (fail_if_success (with_reducible show wpAny _ _ (exec (Stmt.For _ _ _ _ _) _) _ _ _)); (fail_if_success (with_reducible show wpAny _ _ (call (Value.builtin "list.pop") _) _ _ _)); (fail_if_success (with_reducible show wpAny _ _ (compareOp _ (Value.ref _) (Value.ref _)) _ _ _)); (fail_if_success (with_reducible show wpAny _ _ (compareOp CmpOp.NotIn _ (Value.ref _)) _ _ _)); (fail_if_success (with_reducible show wpAny _ _ (subscriptTail _ _ (Value.ref _) (Value.int _ _)) _ _ _)); (fail_if_success (with_reducible show wpAny _ _ (eval (PySem.Expr.ListComp _ _ _ _) _) _ _ _)); (fail_if_success (with_reducible show wpAny _ _ (exec (Stmt.Assign _ (PySem.Expr.ListComp _ _ _ _) _) _) _ _ _)); (fail_if_success (with_reducible show wpAny _ _ (call (Value.builtin "isinstance") _) _ _ _)))); walk1)))
          walk1
          (repeat' (first | ((((fail_if_success (with_reducible show wpAny _ _ (pyIter (Value.ref _)) _ _ _)); (fail_if_success (with_reducible show wpAny _ _ (call (Value.ref _) _) _ _ _)); (fail_if_success (with_reducible show wpAny _ _ (exec (Stmt.While _ _ _ _) _) _ _ _)); (fail_if_success (with_reducible show wpAny _ _ (exec (Stmt.For _ _ _ _ _) _) _ _ _)); (fail_if_success (with_reducible show wpAny _ _ (call (Value.builtin "list.pop") _) _ _ _)); (fail_if_success (with_reducible show wpAny _ _ (compareOp _ (Value.ref _) (Value.ref _)) _ _ _)); (fail_if_success (with_reducible show wpAny _ _ (compareOp CmpOp.NotIn _ (Value.ref _)) _ _ _)); (fail_if_success (with_reducible show wpAny _ _ (subscriptTail _ _ (Value.ref _) (Value.int _ _)) _ _ _)); (fail_if_success (with_reducible show wpAny _ _ (eval (PySem.Expr.ListComp _ _ _ _) _) _ _ _)); (fail_if_success (with_reducible show wpAny _ _ (exec (Stmt.Assign _ (PySem.Expr.ListComp _ _ _ _) _) _) _ _ _)); (fail_if_success (with_reducible show wpAny _ _ (call (Value.builtin "isinstance") _) _ _ _)))); walk1) | ((((fail_if_success (with_reducible show wpAny _ _ (pyIter (Value.ref _)) _ _ _)); (fail_if_success (with_reducible show wpAny _ _ (call (Value.ref _) _) _ _ _)); (fail_if_success (with_reducible show wpAny _ _ (exec (Stmt.While _ _ _ _) _) _ _ _)); (fail_if_success (with_reducible show wpAny _ _ (exec (Stmt.For _ _ _ _ _) _) _ _ _)); (fail_if_success (with_reducible show wpAny _ _ (call (Value.builtin "list.pop") _) _ _ _)); (fail_if_success (with_reducible show wpAny _ _ (compareOp _ (Value.ref _) (Value.ref _)) _ _ _)); (fail_if_success (with_reducible show wpAny _ _ (compareOp CmpOp.NotIn _ (Value.ref _)) _ _ _)); (fail_if_success (with_reducible show wpAny _ _ (subscriptTail _ _ (Value.ref _) (Value.int _ _)) _ _ _)); (fail_if_success (with_reducible show wpAny _ _ (eval (PySem.Expr.ListComp _ _ _ _) _) _ _ _)); (fail_if_success (with_reducible show wpAny _ _ (exec (Stmt.Assign _ (PySem.Expr.ListComp _ _ _ _) _) _) _ _ _)); (fail_if_success (with_reducible show wpAny _ _ (call (Value.builtin "isinstance") _) _ _ _)))); dsimp only; (((fail_if_success (with_reducible show wpAny _ _ (pyIter (Value.ref _)) _ _ _)); (fail_if_success (with_reducible show wpAny _ _ (call (Value.ref _) _) _ _ _)); (fail_if_success (with_reducible show wpAny _ _ (exec (Stmt.While _ _ _ _) _) _ _ _)); (fail_if_success (with_reducible show wpAny _ _ (exec (Stmt.For _ _ _ _ _) _) _ _ _)); (fail_if_success (with_reducible show wpAny _ _ (call (Value.builtin "list.pop") _) _ _ _)); (fail_if_success (with_reducible show wpAny _ _ (compareOp _ (Value.ref _) (Value.ref _)) _ _ _)); (fail_if_success (with_reducible show wpAny _ _ (compareOp CmpOp.NotIn _ (Value.ref _)) _ _ _)); (fail_if_success (with_reducible show wpAny _ _ (subscriptTail _ _ (Value.ref _) (Value.int _ _)) _ _ _)); (fail_if_success (with_reducible show wpAny _ _ (eval (PySem.Expr.ListComp _ _ _ _) _) _ _ _)); (fail_if_success (with_reducible show wpAny _ _ (exec (Stmt.Assign _ (PySem.Expr.ListComp _ _ _ _) _) _) _ _ _)); (fail_if_success (with_reducible show wpAny _ _ (call (Value.builtin "isinstance") _) _ _ _)))); walk1)))
          rename Fr _ _ _ _ => F; rename News _ _ _ _ => N
          refine item_at (k := (i : Int)) (News.isList (a := thl) N (.tail _ (.tail _ (.tail _ (.tail _ (.tail _ (.tail _ (.head _)))))))) (Int.natCast_nonneg i) hi63 (v := .ref a) (by simp [ha]) ?_ (by with_unfolding_all rfl)
          (repeat' (first | ((((fail_if_success (with_reducible show wpAny _ _ (pyIter (Value.ref _)) _ _ _)); (fail_if_success (with_reducible show wpAny _ _ (call (Value.ref _) _) _ _ _)); (fail_if_success (with_reducible show wpAny _ _ (exec (Stmt.While _ _ _ _) _) _ _ _)); (fail_if_success (with_reducible show wpAny _ _ (exec (Stmt.For _ _ _ _ _) _) _ _ _)); (fail_if_success (with_reducible show wpAny _ _ (call (Value.builtin "list.pop") _) _ _ _)); (fail_if_success (with_reducible show wpAny _ _ (compareOp _ (Value.ref _) (Value.ref _)) _ _ _)); (fail_if_success (with_reducible show wpAny _ _ (compareOp CmpOp.NotIn _ (Value.ref _)) _ _ _)); (fail_if_success (with_reducible show wpAny _ _ (subscriptTail _ _ (Value.ref _) (Value.int _ _)) _ _ _)); (fail_if_success (with_reducible show wpAny _ _ (eval (PySem.Expr.ListComp _ _ _ _) _) _ _ _)); (fail_if_success (with_reducible show wpAny _ _ (exec (Stmt.Assign _ (PySem.Expr.ListComp _ _ _ _) _) _) _ _ _)); (fail_if_success (with_reducible show wpAny _ _ (call (Value.builtin "isinstance") _) _ _ _)))); walk1) | ((((fail_if_success (with_reducible show wpAny _ _ (pyIter (Value.ref _)) _ _ _)); (fail_if_success (with_reducible show wpAny _ _ (call (Value.ref _) _) _ _ _)); (fail_if_success (with_reducible show wpAny _ _ (exec (Stmt.While _ _ _ _) _) _ _ _)); (fail_if_success (with_reducible show wpAny _ _ (exec (Stmt.For _ _ _ _ _) _) _ _ _)); (fail_if_success (with_reducible show wpAny _ _ (call (Value.builtin "list.pop") _) _ _ _)); (fail_if_success (with_reducible show wpAny _ _ (compareOp _ (Value.ref _) (Value.ref _)) _ _ _)); (fail_if_success (with_reducible show wpAny _ _ (compareOp CmpOp.NotIn _ (Value.ref _)) _ _ _)); (fail_if_success (with_reducible show wpAny _ _ (subscriptTail _ _ (Value.ref _) (Value.int _ _)) _ _ _)); (fail_if_success (with_reducible show wpAny _ _ (eval (PySem.Expr.ListComp _ _ _ _) _) _ _ _)); (fail_if_success (with_reducible show wpAny _ _ (exec (Stmt.Assign _ (PySem.Expr.ListComp _ _ _ _) _) _) _ _ _)); (fail_if_success (with_reducible show wpAny _ _ (call (Value.builtin "isinstance") _) _ _ _)))); dsimp only; (((fail_if_success (with_reducible show wpAny _ _ (pyIter (Value.ref _)) _ _ _)); (fail_if_success (with_reducible show wpAny _ _ (call (Value.ref _) _) _ _ _)); (fail_if_success (with_reducible show wpAny _ _ (exec (Stmt.While _ _ _ _) _) _ _ _)); (fail_if_success (with_reducible show wpAny _ _ (exec (Stmt.For _ _ _ _ _) _) _ _ _)); (fail_if_success (with_reducible show wpAny _ _ (call (Value.builtin "list.pop") _) _ _ _)); (fail_if_success (with_reducible show wpAny _ _ (compareOp _ (Value.ref _) (Value.ref _)) _ _ _)); (fail_if_success (with_reducible show wpAny _ _ (compareOp CmpOp.NotIn _ (Value.ref _)) _ _ _)); (fail_if_success (with_reducible show wpAny _ _ (subscriptTail _ _ (Value.ref _) (Value.int _ _)) _ _ _)); (fail_if_success (with_reducible show wpAny _ _ (eval (PySem.Expr.ListComp _ _ _ _) _) _ _ _)); (fail_if_success (with_reducible show wpAny _ _ (exec (Stmt.Assign _ (PySem.Expr.ListComp _ _ _ _) _) _) _ _ _)); (fail_if_success (with_reducible show wpAny _ _ (call (Value.builtin "isinstance") _) _ _ _)))); walk1)))
          walk1
          (repeat' (first | ((((fail_if_success (with_reducible show wpAny _ _ (pyIter (Value.ref _)) _ _ _)); (fail_if_success (with_reducible show wpAny _ _ (call (Value.ref _) _) _ _ _)); (fail_if_success (with_reducible show wpAny _ _ (exec (Stmt.While _ _ _ _) _) _ _ _)); (fail_if_success (with_reducible show wpAny _ _ (exec (Stmt.For _ _ _ _ _) _) _ _ _)); (fail_if_success (with_reducible show wpAny _ _ (call (Value.builtin "list.pop") _) _ _ _)); (fail_if_success (with_reducible show wpAny _ _ (compareOp _ (Value.ref _) (Value.ref _)) _ _ _)); (fail_if_success (with_reducible show wpAny _ _ (compareOp CmpOp.NotIn _ (Value.ref _)) _ _ _)); (fail_if_success (with_reducible show wpAny _ _ (subscriptTail _ _ (Value.ref _) (Value.int _ _)) _ _ _)); (fail_if_success (with_reducible show wpAny _ _ (eval (PySem.Expr.ListComp _ _ _ _) _) _ _ _)); (fail_if_success (with_reducible show wpAny _ _ (exec (Stmt.Assign _ (PySem.Expr.ListComp _ _ _ _) _) _) _ _ _)); (fail_if_success (with_reducible show wpAny _ _ (call (Value.builtin "isinstance") _) _ _ _)))); walk1) | ((((fail_if_success (with_reducible show wpAny _ _ (pyIter (Value.ref _)) _ _ _)); (fail_if_success (with_reducible show wpAny _ _ (call (Value.ref _) _) _ _ _)); (fail_if_success (with_reducible show wpAny _ _ (exec (Stmt.While _ _ _ _) _) _ _ _)); (fail_if_success (with_reducible show wpAny _ _ (exec (Stmt.For _ _ _ _ _) _) _ _ _)); (fail_if_success (with_reducible show wpAny _ _ (call (Value.builtin "list.pop") _) _ _ _)); (fail_if_success (with_reducible show wpAny _ _ (compareOp _ (Value.ref _) (Value.ref _)) _ _ _)); (fail_if_success (with_reducible show wpAny _ _ (compareOp CmpOp.NotIn _ (Value.ref _)) _ _ _)); (fail_if_success (with_reducible show wpAny _ _ (subscriptTail _ _ (Value.ref _) (Value.int _ _)) _ _ _)); (fail_if_success (with_reducible show wpAny _ _ (eval (PySem.Expr.ListComp _ _ _ _) _) _ _ _)); (fail_if_success (with_reducible show wpAny _ _ (exec (Stmt.Assign _ (PySem.Expr.ListComp _ _ _ _) _) _) _ _ _)); (fail_if_success (with_reducible show wpAny _ _ (call (Value.builtin "isinstance") _) _ _ _)))); dsimp only; (((fail_if_success (with_reducible show wpAny _ _ (pyIter (Value.ref _)) _ _ _)); (fail_if_success (with_reducible show wpAny _ _ (call (Value.ref _) _) _ _ _)); (fail_if_success (with_reducible show wpAny _ _ (exec (Stmt.While _ _ _ _) _) _ _ _)); (fail_if_success (with_reducible show wpAny _ _ (exec (Stmt.For _ _ _ _ _) _) _ _ _)); (fail_if_success (with_reducible show wpAny _ _ (call (Value.builtin "list.pop") _) _ _ _)); (fail_if_success (with_reducible show wpAny _ _ (compareOp _ (Value.ref _) (Value.ref _)) _ _ _)); (fail_if_success (with_reducible show wpAny _ _ (compareOp CmpOp.NotIn _ (Value.ref _)) _ _ _)); (fail_if_success (with_reducible show wpAny _ _ (subscriptTail _ _ (Value.ref _) (Value.int _ _)) _ _ _)); (fail_if_success (with_reducible show wpAny _ _ (eval (PySem.Expr.ListComp _ _ _ _) _) _ _ _)); (fail_if_success (with_reducible show wpAny _ _ (exec (Stmt.Assign _ (PySem.Expr.ListComp _ _ _ _) _) _) _ _ _)); (fail_if_success (with_reducible show wpAny _ _ (call (Value.builtin "isinstance") _) _ _ _)))); walk1)))
          rename Fr _ _ _ _ => F; rename News _ _ _ _ => N
          subst i3
          have N2 : News g L' _ ((I, oI) :: (L' + 1 + 1 + 1 + 1, oc) :: FX L' ldl thl pot cl ot2 om op lrefs nodes c1 c2 c3 at_ z ta tz ((dx, dictOf es n) :: (dx + 1, instObj 77 dx) :: (D, listOf (List.toArray []) c10) :: rest)) := fun p hp => N p (sub_e p hp)
          refine cend_next F N2 ⟨_, hoc⟩ ?_ ⟨some (.ref D), parts ++ [[]], _, map_over _ _ _ _, rfl, Above.cons (Above.cons (Above.cons hr1 (Nat.lt_trans hd2 hdDx)) (Nat.lt_succ_of_lt hd2)) hd2, hhalf.step uniq i2 (fun b o hb e => .tail _ (.tail _ (.tail _ (hr4 b o hb e)))) hnd ha hla hl hlok (.text (.tail _ (.head _)) (.head _) rfl) ⟨hysl, fun k v e f1 f2 => (hok k v e f1 f2).mono fun b o e => .tail _ (.tail _ (.tail _ (hr5 b o e)))⟩⟩
          exact List.forall_mem_cons.mpr ⟨⟨q1, nca1⟩, List.forall_mem_cons.mpr ⟨⟨q2, nca2⟩, List.forall_mem_cons.mpr ⟨⟨q3, nca3⟩, List.forall_mem_cons.mpr ⟨⟨q4, nca4⟩, List.forall_mem_cons.mpr ⟨⟨q5, nca5⟩, List.forall_mem_cons.mpr ⟨⟨q6, nca6⟩, List.forall_mem_cons.mpr ⟨⟨hd3, Nat.ne_of_gt (Nat.lt_trans hcal hd2)⟩, List.forall_mem_cons.mpr ⟨⟨haI, Nat.ne_of_gt (Nat.lt_succ_of_lt (Nat.lt_trans hcal hd2))⟩, List.forall_mem_cons.mpr ⟨⟨Nat.ne_of_gt hdI, Nat.ne_of_gt (Nat.lt_trans (Nat.lt_trans hcal hd2) hdDx)⟩, hr3⟩⟩⟩⟩⟩⟩⟩⟩⟩

end Mine
end

section
open PySem PySem.W PySem.Calls PySem.SeqAt PyProof.Rows
set_option maxHeartbeats 1000000
namespace Mine
/-! lists of bools, pairs: compared with their like -/
theorem readsAll_bools {h : Heap} : ∀ bs : List Bool, ReadsAll h (bs.map Value.bool) (bs.map PyData.bool) []
  | [] => .nil
  | b :: r => by
    have := ReadsAll.cons (Reads.bool (h := h) b) (readsAll_bools (h := h) r)
    simpa using this
theorem shaped_bools (bs : List Bool) : shaped (.list (bs.map PyData.bool)) = true := by
  have h1 : ∀ bs : List Bool, PyData.depthAll (bs.map PyData.bool) ≤ 1 := fun bs => by
    induction bs with
    | nil => simp [PyData.depthAll]
    | cons b r ih => simp only [List.map_cons, PyData.depthAll, PyData.depth]; lia
  have h3 : ∀ bs : List Bool, PyData.canLayAll0 (bs.map PyData.bool) = true := fun bs => by
    induction bs with
    | nil => simp [PyData.canLayAll0]
    | cons b r ih => simp [PyData.canLayAll0, PyData.canLay0, ih]
  have h2 : PyData.depth (.list (bs.map PyData.bool)) ≤ 64 := by have := h1 bs; simp only [PyData.depth]; lia
  show (PyData.canLay0 (.list (bs.map PyData.bool)) && decide (PyData.depth (.list (bs.map PyData.bool)) ≤ 64)) = true
  rw [Bool.and_eq_true]
  exact ⟨by simp only [PyData.canLay0]; exact h3 bs, decide_eq_true h2⟩
theorem eqv_bools (bs : List Bool) : PyData.eqv (.list (bs.map PyData.bool)) (.list (bs.map PyData.bool)) = true := by
  simp only [PyData.eqv]
  induction bs with
  | nil => simp [PyData.eqvAll]
  | cons b r ih => simp [PyData.eqvAll, PyData.eqv, ih]
section
variable {prog : Program} {w : World} {A : Around} {E : Value → Shared → Prop} {s : Shared}
theorem ne_bools {a b : Addr} {bs : List Bool} {Q : Value → Shared → Prop} (hl : s.heap.IsList a (bs.map Value.bool).toArray) (hl' : s.heap.IsList b (bs.map Value.bool).toArray) (hu : A.units + 64 < cLine)
    (h : Q (.bool false) s) : wpAny (model prog w) A (compareOp .NotEq (.ref a) (.ref b)) Q E s := by
  obtain ⟨o, ho, hc, n, hd⟩ := hl
  obtain ⟨o', ho', hc', n', hd'⟩ := hl'
  exact ne_dataH (Reads.list ho hc hd (by simpa using readsAll_bools bs)) (Reads.list ho' hc' hd' (by simpa using readsAll_bools bs)) (shaped_bools bs) (shaped_bools bs) hu (by rw [eqv_bools]; exact h)
theorem ne_pair {a b : Addr} {n : Int} {t t' : Tok} {v : Bool} {o o' : Obj} {k k' : Nat} {Q : Value → Shared → Prop} (ho : s.heap.get? a = some o) (hc : o.cls = .type "tuple") (hd : o.data = .seq #[.int n t, .bool v] k)
    (ho' : s.heap.get? b = some o') (hc' : o'.cls = .type "tuple") (hd' : o'.data = .seq #[.int n t', .bool v] k') (hu : A.units + 64 < cLine)
    (h : Q (.bool false) s) : wpAny (model prog w) A (compareOp .NotEq (.ref a) (.ref b)) Q E s := by
  have r1 := ReadsAll.cons (Reads.int (h := s.heap) n t) (ReadsAll.cons (Reads.bool (h := s.heap) v) .nil)
  have r2 := ReadsAll.cons (Reads.int (h := s.heap) n t') (ReadsAll.cons (Reads.bool (h := s.heap) v) .nil)
  have hs : shaped (.tuple [.int n, .bool v]) = true := by
    show (PyData.canLay0 (.tuple [.int n, .bool v]) && decide (PyData.depth (.tuple [.int n, .bool v]) ≤ 64)) = true
    rw [Bool.and_eq_true]
    exact ⟨by simp [PyData.canLay0, PyData.canLayAll0], decide_eq_true (by simp [PyData.depth, PyData.depthAll])⟩
  exact ne_dataH (Reads.tuple ho hc hd r1) (Reads.tuple ho' hc' hd' r2) hs hs hu (by
    have : PyData.eqv (.tuple [.int n, .bool v]) (.tuple [.int n, .bool v]) = true := by simp [PyData.eqv, PyData.eqvAll]
    rw [this]; exact h)
end
/-! the graph by addresses and by places -/
noncomputable def partsF (nodes : List Addr) (parts : List (List Value)) (a : Addr) : List Value := parts.getD (nodes.idxOf a) []
theorem partsF_at {nodes : List Addr} {parts : List (List Value)} (nd : nodes.Nodup) {i : Nat} {a : Addr} {ps : List Value} (ha : nodes[i]? = some a) (hp : parts[i]? = some ps) : partsF nodes parts a = ps := by
  have hm : a ∈ nodes := List.mem_of_getElem? ha
  have h1 := List.idxOf_lt_length_iff.mpr hm
  have h2 : nodes[nodes.idxOf a]? = some a := by rw [List.getElem?_eq_getElem h1, List.getElem_idxOf h1]
  have : nodes.idxOf a = i := (List.getElem?_inj h1 nd).mp (h2.trans ha.symm)
  rw [partsF, this, List.getD_eq_getElem?_getD, hp]; rfl
section
variable {h₀ h : Heap} {many : Int} {th ld : Addr} {nodes : List Addr} {parts : List (List Value)} {lead : List (List Int)} (b : Built h₀ h many th ld nodes parts lead)
include b
theorem Built.get {a : Addr} (ha : a ∈ nodes) : ∃ (i : Nat) (ps : List Value) (l : List Int), nodes[i]? = some a ∧ parts[i]? = some ps ∧ lead[i]? = some l ∧ partsF nodes parts a = ps := by
  obtain ⟨i, hi, e⟩ := List.getElem_of_mem ha
  have h1 : nodes[i]? = some a := by rw [List.getElem?_eq_getElem hi, e]
  have h2 := List.getElem?_eq_getElem (l := parts) (i := i) (by have := b.lenp; lia)
  have h3 := List.getElem?_eq_getElem (l := lead) (i := i) (by have := b.lenl; lia)
  exact ⟨i, _, _, h1, h2, h3, partsF_at b.nd h1 h2⟩
theorem Built.node : ∀ a ∈ nodes, NodeAt h a (partsF nodes parts a) := fun a ha => by
  obtain ⟨i, ps, l, h1, h2, h3, e⟩ := b.get ha
  rw [e]; exact b.at_ i a ps h1 h2
theorem Built.few3 : ∀ a ∈ nodes, (partsF nodes parts a).length ≤ 3 := fun a ha => by
  obtain ⟨i, ps, l, h1, h2, h3, e⟩ := b.get ha
  rw [e]; exact b.few ps (List.mem_of_getElem? h2)
theorem Built.kid : ∀ a ∈ nodes, ∀ v ∈ partsF nodes parts a, WaitOk h nodes v := fun a ha v hv => by
  obtain ⟨i, ps, l, h1, h2, h3, e⟩ := b.get ha
  rw [e] at hv
  obtain ⟨k, hk, ev⟩ := List.getElem_of_mem hv
  obtain ⟨hl, hall⟩ := b.ok i ps l h2 h3
  rcases hall k v l[k] (by rw [List.getElem?_eq_getElem hk, ev]) (List.getElem?_eq_getElem (by lia)) with ⟨_, c, hc, rfl⟩ | ⟨_, q1, q2⟩
  · exact .inl ⟨c, List.mem_of_getElem? hc, rfl⟩
  · exact .inr ⟨q1, q2⟩
theorem Built.kids {i : Nat} {a : Addr} (ha : nodes[i]? = some a) : (kidsOf nodes (partsF nodes parts) a).map some = (kidsN lead i).map fun j => nodes[j]? := by
  have hi := (List.getElem?_eq_some_iff.mp ha).1
  obtain ⟨ps, h2⟩ : ∃ ps, parts[i]? = some ps := ⟨_, List.getElem?_eq_getElem (by have := b.lenp; lia)⟩
  obtain ⟨l, h3⟩ : ∃ l, lead[i]? = some l := ⟨_, List.getElem?_eq_getElem (by have := b.lenl; lia)⟩
  obtain ⟨hl, hall⟩ := b.ok i _ _ h2 h3
  show ((partsF nodes parts a).filterMap (refIn nodes)).map some = (endsN (lead.getD i [])).map _
  rw [partsF_at b.nd ha h2, List.getD_eq_getElem?_getD, h3]
  show (List.filterMap (refIn nodes) ps).map some = (endsN l).map _
  clear h2 h3 hi ha
  induction ps generalizing l with
  | nil =>
    obtain rfl : l = [] := List.length_eq_zero_iff.mp hl.symm
    rfl
  | cons v r ih =>
    match l, hl with
    | e :: m, hl =>
      have ih' := ih m (by simpa using hl) fun k v' e' h1 h2 => hall (k + 1) v' e' (by simpa using h1) (by simpa using h2)
      rcases hall 0 v e rfl rfl with ⟨he, c, hc, rfl⟩ | ⟨he, q1, q2⟩
      · have hr : refIn nodes (.ref c) = some c := by simp [refIn, List.mem_of_getElem? hc]
        simp only [endsN, List.filterMap_cons, hr, if_pos he, List.map_cons, hc] at ih' ⊢
        rw [ih']
      · have hr : refIn nodes v = none := refIn_none q2
        simp only [endsN, List.filterMap_cons, hr, if_neg (show ¬ 0 ≤ e by lia)] at ih' ⊢
        exact ih'
theorem Built.small {i : Nat} : ∀ j ∈ kidsN lead i, j < nodes.length := fun j hj => by
  have hlt := b.ld.ends
  unfold kidsN at hj
  rw [List.getD_eq_getElem?_getD] at hj
  cases q : lead[i]? with
  | none => rw [q] at hj; simp [endsN] at hj
  | some l =>
    rw [q] at hj
    have hj : j ∈ endsN l := hj
    obtain ⟨e, he, hje⟩ := List.mem_filterMap.mp hj
    have := hlt l (List.mem_of_getElem? q) e he
    have h2 := b.lenl
    split at hje <;> cases hje
    lia
end
theorem count_sub {α β : Type} [DecidableEq α] [DecidableEq β] (φ : α → β) (P : α → Prop) (inj : ∀ x y, P x → P y → φ x = φ y → x = y) : ∀ (l : List α) (a : α), (∀ x ∈ l, P x) → P a → (l.map φ).count (φ a) = l.count a
  | [], _, _, _ => rfl
  | x :: r, a, hl, ha => by
    have ih := count_sub φ P inj r a (fun y hy => hl y (.tail _ hy)) ha
    rw [List.map_cons, List.count_cons, List.count_cons, ih]
    by_cases e : x = a
    · subst e; simp
    · have : φ x ≠ φ a := fun q => e (inj x a (hl x (.head _)) ha q)
      simp [e, this]
section
variable {h₀ h : Heap} {many : Int} {th ld : Addr} {nodes : List Addr} {parts : List (List Value)} {lead : List (List Int)} (b : Built h₀ h many th ld nodes parts lead)
include b
/-- both counts of ways are one -/
theorem Built.same {f : Nat} {a0 : Addr} {C : List Addr} {C2 : List Nat} (ha0 : nodes[f]? = some a0) (hc : Cover (kidsOf nodes (partsF nodes parts)) a0 C) (hc2 : Cover (kidsN lead) f C2) {i : Nat} {a : Addr} (ha : nodes[i]? = some a) :
    Tot (kidsOf nodes (partsF nodes parts)) a0 C a = Tot (kidsN lead) f C2 i := by
  let φ : Nat → Addr := fun j => nodes.getD j 0
  have hφ : ∀ j c, nodes[j]? = some c → φ j = c := fun j c e => by show nodes.getD j 0 = c; rw [List.getD_eq_getElem?_getD, e]; rfl
  have hfl := (List.getElem?_eq_some_iff.mp ha0).1
  have hil := (List.getElem?_eq_some_iff.mp ha).1
  have inj : ∀ x y, x < nodes.length → y < nodes.length → φ x = φ y → x = y := fun x y hx hy e => by
    rw [hφ x _ (List.getElem?_eq_getElem hx), hφ y _ (List.getElem?_eq_getElem hy)] at e
    exact (List.getElem?_inj hx b.nd).mp (by rw [List.getElem?_eq_getElem hx, List.getElem?_eq_getElem hy, e])
  have hk : ∀ j, j < nodes.length → kidsOf nodes (partsF nodes parts) (φ j) = (kidsN lead j).map φ := fun j hj => by
    have := b.kids (List.getElem?_eq_getElem hj)
    rw [hφ j _ (List.getElem?_eq_getElem hj)]
    have h2 : (kidsN lead j).map (fun k => nodes[k]?) = ((kidsN lead j).map φ).map some := by
      rw [List.map_map]
      refine List.map_congr_left fun k hkk => ?_
      have hkl := b.small k hkk
      show nodes[k]? = some (φ k)
      rw [hφ k _ (List.getElem?_eq_getElem hkl), List.getElem?_eq_getElem hkl]
    rw [h2] at this
    exact (List.map_inj_right fun _ _ e => Option.some.inj e).mp this
  have hr : ∀ j, Reach (kidsN lead) f j → j < nodes.length ∧ Reach (kidsOf nodes (partsF nodes parts)) a0 (φ j) := fun j hj => by
    induction hj with
    | base => exact ⟨hfl, by rw [hφ f a0 ha0]; exact .base⟩
    | @step x y _ hy ih =>
      refine ⟨b.small y hy, .step ih.2 ?_⟩
      rw [hk x ih.1]; exact List.mem_map_of_mem hy
  have hr2 : ∀ c, Reach (kidsOf nodes (partsF nodes parts)) a0 c → ∃ j, φ j = c ∧ Reach (kidsN lead) f j := fun c hj => by
    induction hj with
    | base => exact ⟨f, hφ f a0 ha0, .base⟩
    | @step x y _ hy ih =>
      obtain ⟨j, rfl, hj⟩ := ih
      rw [hk j (hr j hj).1] at hy
      obtain ⟨k, hkk, rfl⟩ := List.mem_map.mp hy
      exact ⟨k, rfl, .step hj hkk⟩
  have hC2 : ∀ j ∈ C2, j < nodes.length := fun j hj => (hr j ((hc2.mem j).mp hj)).1
  have hcov : Cover (kidsOf nodes (partsF nodes parts)) a0 (C2.map φ) := by
    refine ⟨?_, fun c => ⟨fun hm => ?_, fun hm => ?_⟩⟩
    · have hnd := hc2.nd
      rw [List.nodup_iff_pairwise_ne] at hnd ⊢
      rw [List.pairwise_map]
      exact hnd.imp_of_mem fun hx hy hne e => hne (inj _ _ (hC2 _ hx) (hC2 _ hy) e)
    · obtain ⟨j, hj, rfl⟩ := List.mem_map.mp hm
      exact (hr j ((hc2.mem j).mp hj)).2
    · obtain ⟨j, rfl, hj⟩ := hr2 c hm
      exact List.mem_map_of_mem ((hc2.mem j).mpr hj)
  rw [cover_tot hc hcov a]
  have hflat : a0 :: (C2.map φ).flatMap (kidsOf nodes (partsF nodes parts)) = (f :: C2.flatMap (kidsN lead)).map φ := by
    rw [List.map_cons, hφ f a0 ha0, List.map_flatMap, List.flatMap_map]
    congr 1
    clear hcov hc2
    induction C2 with
    | nil => rfl
    | cons x r ih =>
      rw [List.flatMap_cons, List.flatMap_cons, ih (fun j hj => hC2 j (.tail _ hj)), hk x (hC2 x (.head _))]
  unfold Tot
  rw [hflat, ← hφ i a ha]
  refine count_sub φ (· < nodes.length) inj _ i (fun x hx => ?_) hil
  rcases List.mem_cons.mp hx with rfl | hx
  · exact hfl
  · obtain ⟨j, _, hj⟩ := List.mem_flatMap.mp hx
    exact b.small x hj
end
end Mine
end

section
open PySem PySem.W PySem.Calls PyProof.Rows PyProof.V
set_option maxHeartbeats 1000000
namespace Mine
/-- what is stored at the places of a ledger's closed part -/
def Kept (objs : List (Addr × Obj)) (h : Heap) : Prop := ∀ p ∈ objs, h.get? p.1 = some p.2
section
variable {g h h' : Heap} {L d : Addr} {o o' : Obj} {m : Str → Option Value} {news news' : List (Addr × Obj)}
/-- a new object at a place that was free -/
theorem news_free {a : Addr} (F : Fr g L h m) (N : News g L h news) (hk : ∀ p ∈ news, h'.get? p.1 = some p.2) (hg : h.get? a = none) (e : h'.get? a = some o) : News g L h' ((a, o) :: news) := by
  have hL : a ≠ L := by
    rintro rfl
    obtain ⟨oL, _, _, hL, _⟩ := F.ns
    rw [hL] at hg; cases hg
  have h0 : g.get? a = none := by
    cases q : g.get? a with
    | none => rfl
    | some o => rw [F.keep _ _ q] at hg; cases hg
  exact List.forall_mem_cons.mpr ⟨⟨e, hL, h0⟩, fun p hp => ⟨hk p hp, (N p hp).2⟩⟩
theorem ne_free {a : Addr} (N : News g L h news) (hg : h.get? a = none) : ∀ p ∈ news, p.1 ≠ a := fun p hp q => by
  have := (N p hp).1
  rw [q, hg] at this; cases this
end
theorem Cells.obj {h : Heap} {cl : Addr} (x : Cells h cl) : ∃ o, h.get? cl = some o ∧ ∀ h' : Heap, h'.get? cl = some o → Cells h' cl :=
  let ⟨vs, ns, ⟨o, ho, r⟩, a, b⟩ := x; ⟨o, ho, fun _ e => ⟨vs, ns, ⟨o, e, r⟩, a, b⟩⟩
theorem news_free2 {g h h' : Heap} {L a : Addr} {o : Obj} {m : Str → Option Value} {news : List (Addr × Obj)} (F : Fr g L h m) (N : News g L h' news) (hg : h.get? a = none) (e : h'.get? a = some o) : News g L h' ((a, o) :: news) := by
  refine List.forall_mem_cons.mpr ⟨⟨e, ?_, ?_⟩, N⟩
  · rintro rfl
    obtain ⟨oL, _, _, hL, _⟩ := F.ns
    rw [hL] at hg; cases hg
  · cases q : g.get? a with
    | none => rfl
    | some o => rw [F.keep _ _ q] at hg; cases hg
theorem news_objs {g h h' : Heap} {L : Addr} {m : Str → Option Value} {objs : List (Addr × Obj)} (F : Fr g L h m) (hobj : ∀ p ∈ objs, h.get? p.1 = none ∧ h'.get? p.1 = some p.2) : News g L h' objs := fun p hp => by
  refine ⟨(hobj p hp).2, ?_, ?_⟩
  · intro q
    obtain ⟨oL, _, _, hL, _⟩ := F.ns
    rw [← q, (hobj p hp).1] at hL; cases hL
  · cases q : g.get? p.1 with
    | none => rfl
    | some o => have := (hobj p hp).1; rw [F.keep _ _ q] at this; cases this
theorem allLt_all {d : Nat} : ∀ {l : List (Addr × Obj)}, AllLt d l → ∀ p ∈ l, @LT.lt Nat _ p.1 d
  | [], _, _, h => nomatch h
  | _ :: _, ⟨h1, h2⟩, p, h => (List.mem_cons.mp h).elim (fun e => e ▸ h1) (allLt_all h2 p)
theorem place_iff {as : List Addr} {a : Addr} : 0 ≤ place as (.ref a) ↔ a ∈ as := by
  constructor
  · intro h; exact place_pos (by lia)
  · intro h; simp only [place, if_pos h]; lia
theorem bools_same {nodes shared : List Addr} {wcs : List Int} (hl : wcs.length = nodes.length) (hk : ∀ (i : Nat) (a : Addr) (e : Int), nodes[i]? = some a → wcs[i]? = some e → (a ∈ shared ↔ 1 < e)) :
    (wcs.map fun e => decide (1 < e)) = nodes.map fun a => decide (0 ≤ place shared (.ref a)) := by
  refine List.ext_getElem? fun i => ?_
  rw [List.getElem?_map, List.getElem?_map]
  by_cases hi : i < nodes.length
  · have h1 := List.getElem?_eq_getElem hi
    have h2 := List.getElem?_eq_getElem (l := wcs) (i := i) (by lia)
    have h3 := hk i _ _ h1 h2
    rw [h1, h2]
    simp only [Option.map_some, Option.some.injEq, decide_eq_decide]
    rw [place_iff, h3]
  · rw [List.getElem?_eq_none (by lia), List.getElem?_eq_none (by lia)]; rfl
theorem filter_len {nodes shared : List Addr} {wcs : List Int} (hl : wcs.length = nodes.length) (hn : nodes.Nodup) (hsn : shared.Nodup) (hsm : ∀ a ∈ shared, a ∈ nodes)
    (hk : ∀ (i : Nat) (a : Addr) (e : Int), nodes[i]? = some a → wcs[i]? = some e → (a ∈ shared ↔ 1 < e)) :
    ((List.range wcs.length).filter fun i => decide (1 < wcs.getD i 0)).length = shared.length := by
  have hk2 : ∀ (i : Nat) (a : Addr), nodes[i]? = some a → (a ∈ shared ↔ 1 < wcs.getD i 0) := fun i a h1 => by
    have hi := (List.getElem?_eq_some_iff.mp h1).1
    have h2 := List.getElem?_eq_getElem (l := wcs) (i := i) (by lia)
    rw [hk i a _ h1 h2, List.getD_eq_getElem?_getD, h2]; rfl
  have e1 : shared.Perm (((List.range wcs.length).filter fun i => decide (1 < wcs.getD i 0)).map fun i => nodes.getD i 0) := by
    refine (List.perm_ext_iff_of_nodup hsn ?_).mpr fun a => ?_
    · have h1 := (List.nodup_range (n := wcs.length)).filter fun i => decide (1 < wcs.getD i 0)
      rw [List.nodup_iff_pairwise_ne]
      rw [List.pairwise_map]
      refine h1.imp_of_mem fun {x y} hx hy hne e => hne ?_
      have hx := List.mem_range.mp (List.mem_filter.mp hx).1
      have hy := List.mem_range.mp (List.mem_filter.mp hy).1
      rw [List.getD_eq_getElem?_getD, List.getD_eq_getElem?_getD, List.getElem?_eq_getElem (l := nodes) (i := x) (by lia), List.getElem?_eq_getElem (l := nodes) (i := y) (by lia)] at e
      exact (List.getElem?_inj (by lia) hn).mp (by rw [List.getElem?_eq_getElem (l := nodes) (i := x) (by lia), List.getElem?_eq_getElem (l := nodes) (i := y) (by lia)]; exact congrArg some e)
    · constructor
      · intro ha
        obtain ⟨i, hi, e⟩ := List.getElem_of_mem (hsm a ha)
        have h1 : nodes[i]? = some a := by rw [List.getElem?_eq_getElem hi, e]
        refine List.mem_map.mpr ⟨i, List.mem_filter.mpr ⟨List.mem_range.mpr (by lia), decide_eq_true ((hk2 i a h1).mp ha)⟩, ?_⟩
        rw [List.getD_eq_getElem?_getD, h1]; rfl
      · intro ha
        obtain ⟨i, hi, rfl⟩ := List.mem_map.mp ha
        have hir := List.mem_range.mp (List.mem_filter.mp hi).1
        have h1 : nodes[i]? = some (nodes.getD i 0) := by rw [List.getD_eq_getElem?_getD, List.getElem?_eq_getElem (l := nodes) (i := i) (by lia)]; rfl
        exact (hk2 i _ h1).mpr (of_decide_eq_true (List.mem_filter.mp hi).2)
  have := e1.length_eq
  rw [List.length_map] at this
  exact this.symm
structure RInv (nodes shared : List Addr) (nums : List Int) (c : Int) (DD : List (PyData × PyData)) : Prop where
  len : nums.length = shared.length
  cnt : (DD.length : Int) = c
  at_ : ∀ (i : Nat) (a : Addr), nodes[i]? = some a → a ∈ shared → (nums.getD (shared.idxOf a) 0 = 0 ∧ PySem.Spec.lookup (.int i) DD = none) ∨ (0 < nums.getD (shared.idxOf a) 0 ∧ PySem.Spec.lookup (.int i) DD = some (.int (nums.getD (shared.idxOf a) 0)))
theorem RInv.start (nodes shared : List Addr) : RInv nodes shared (List.replicate shared.length 0) 0 [] where
  len := List.length_replicate
  cnt := rfl
  at_ := fun i a _ ha => .inl ⟨by
    rw [List.getD_eq_getElem?_getD, List.getElem?_replicate, if_pos (List.idxOf_lt_length_iff.mpr ha)]; rfl, rfl⟩
def J3 (prog : Program) (w : World) (M0 : Str → Option Value) (nd wl lsh lnu dx lb cl pot cell : Addr) (ocl olb : Obj) (nodes shared : List Addr) (vwc : List Value) (c5 c7 : Nat) (H1 H2 H3 : Int) (k1 k2 k3 : Tok) (objs : List (Addr × Obj)) (i : Nat) (m : Str → Option Value) (news : List (Addr × Obj)) : Prop :=
  ∃ us ua ud ond kvs DD vnu nums c6 c tl at_ ta z tz c4,
    m = (fun y => if y = Str.ofString "due" then ud else if y = Str.ofString "at" then ua else if y = Str.ofString "step" then us else M0 y) ∧
    news = (nd, ond) :: (wl, listOf (List.toArray vwc) c7) :: (lsh, listOf (shared.map Value.ref).toArray c5) :: (lnu, listOf (List.toArray vnu) c6) :: (dx, dictOf (labD H1 H2 H3 k1 k2 k3 lsh lnu c tl) 3) :: (lb, instObj 175 dx) :: (cl, ocl) :: (pot, listOf #[.ref cl, .int at_ ta, .int z tz] c4) :: (cell, olb) :: objs ∧
    Obj.IsDictOf (intKind prog w) ond kvs ∧ PyProof.V.FlatPairs PyData.int kvs DD ∧ IntsAre vnu nums ∧ RInv nodes shared nums c DD ∧ (0 ≤ c ∧ c ≤ i) ∧ (0 ≤ at_ ∧ 0 ≤ z ∧ z ≤ 70000)
section
variable {nodes shared : List Addr} {nums : List Int} {c : Int} {DD : List (PyData × PyData)} {k : Nat} {a : Addr}
theorem place_in (h : a ∈ shared) : place shared (.ref a) = (shared.idxOf a : Int) := by simp only [place, if_pos h]
theorem met_out (h : a ∉ shared) : metR shared nums c (.ref a) = ((0, false), nums, c) := by
  have : place shared (.ref a) < 0 := by simp only [place, if_neg h]; decide
  rw [metR, if_pos this]
theorem met_first (h : a ∈ shared) (hv : nums.getD (shared.idxOf a) 0 = 0) : metR shared nums c (.ref a) = ((c + 1, false), nums.set (shared.idxOf a) (c + 1), c + 1) := by
  rw [metR, place_in h, if_neg (by lia), Int.toNat_natCast, hv, if_neg (by decide)]
theorem met_again (h : a ∈ shared) (hv : 0 < nums.getD (shared.idxOf a) 0) : metR shared nums c (.ref a) = ((nums.getD (shared.idxOf a) 0, true), nums, c) := by
  rw [metR, place_in h, if_neg (by lia), Int.toNat_natCast, if_pos hv]
theorem RInv.again (hR : RInv nodes shared nums c DD) (ha : nodes[k]? = some a) (hm : a ∈ shared) (hv : 0 < nums.getD (shared.idxOf a) 0) (hl : PySem.Spec.lookup (.int k) DD = some (.int (nums.getD (shared.idxOf a) 0))) :
    RInv nodes shared nums c (PyProof.V.putD (.int k) (.int (nums.getD (shared.idxOf a) 0)) DD) where
  len := hR.len
  cnt := by rw [putD_present (by rw [hl]; rfl), List.length_map]; exact hR.cnt
  at_ := fun i b hb hmb => by
    rw [lookup_putD_int]
    by_cases e : (i : Int) = k
    · have e' : i = k := by lia
      subst e'
      rw [ha] at hb; cases hb
      rw [if_pos rfl]; exact .inr ⟨hv, rfl⟩
    · rw [if_neg e]; exact hR.at_ i b hb hmb
theorem RInv.first (hR : RInv nodes shared nums c DD) (hnd : nodes.Nodup) (ha : nodes[k]? = some a) (hm : a ∈ shared) (hc : 0 ≤ c) (hl : PySem.Spec.lookup (.int k) DD = none) :
    RInv nodes shared (nums.set (shared.idxOf a) (c + 1)) (c + 1) (PyProof.V.putD (.int k) (.int (c + 1)) DD) where
  len := by rw [List.length_set]; exact hR.len
  cnt := by rw [putD_absent hl, List.length_append, List.length_singleton]; have := hR.cnt; lia
  at_ := fun i b hb hmb => by
    rw [lookup_putD_int]
    have hia := List.idxOf_lt_length_iff.mpr hm
    have hib := List.idxOf_lt_length_iff.mpr hmb
    have hln := hR.len
    by_cases e : (i : Int) = k
    · have e' : i = k := by lia
      subst e'
      rw [ha] at hb; cases hb
      rw [if_pos rfl]
      have : (nums.set (shared.idxOf a) (c + 1)).getD (shared.idxOf a) 0 = c + 1 := by
        rw [List.getD_eq_getElem?_getD, List.getElem?_set, if_pos rfl, if_pos (by lia)]; rfl
      rw [this]
      exact .inr ⟨by lia, rfl⟩
    · rw [if_neg e]
      have hne : shared.idxOf a ≠ shared.idxOf b := fun q => by
        have h1 : shared[shared.idxOf a] = a := List.getElem_idxOf hia
        have h2 : shared[shared.idxOf b] = b := List.getElem_idxOf hib
        have hab : a = b := by
          have h3 : shared[shared.idxOf a]? = some a := by rw [List.getElem?_eq_getElem hia, h1]
          have h4 : shared[shared.idxOf b]? = some b := by rw [List.getElem?_eq_getElem hib, h2]
          rw [q, h4] at h3; exact (Option.some.inj h3).symm
        subst hab
        have := (List.getElem?_inj (List.getElem?_eq_some_iff.mp hb).1 hnd).mp (hb.trans ha.symm)
        exact e (by lia)
      have : (nums.set (shared.idxOf a) (c + 1)).getD (shared.idxOf b) 0 = nums.getD (shared.idxOf b) 0 := by
        rw [List.getD_eq_getElem?_getD, List.getElem?_set, if_neg hne, List.getD_eq_getElem?_getD]
      rw [this]
      exact hR.at_ i b hb hmb
end
section
variable {g h h' : Heap} {L d d2 : Addr} {o o' o2 o2' : Obj} {m : Str → Option Value} {news news' news2 : List (Addr × Obj)}
theorem upd_cases (U : Upd d o o' news news') : (d, o) ∈ news ∧ ∀ q ∈ news', q = (d, o') ∨ (q.1 ≠ d ∧ q ∈ news) := by
  obtain ⟨pre, post, rfl, rfl, h1, h2⟩ := U.split
  refine ⟨List.mem_append_right _ (.head _), fun q hq => ?_⟩
  rcases List.mem_append.mp hq with hq | hq
  · exact .inr ⟨h1 q hq, List.mem_append_left _ hq⟩
  · rcases List.mem_cons.mp hq with hq | hq
    · exact .inl hq
    · exact .inr ⟨h2 q hq, List.mem_append_right _ (.tail _ hq)⟩
theorem news_two (N : News g L h news) (U1 : Upd d o o' news news') (U2 : Upd d2 o2 o2' news' news2) (hk : ∀ b o, b ≠ d → b ≠ d2 → h.get? b = some o → h'.get? b = some o) (e1 : h'.get? d = some o') (e2 : h'.get? d2 = some o2') (hne : d2 ≠ d) : News g L h' news2 := by
  obtain ⟨m1, c1⟩ := upd_cases U1
  obtain ⟨m2, c2⟩ := upd_cases U2
  have hm2 : (d2, o2) ∈ news := (c1 _ m2).elim (fun q => absurd (congrArg Prod.fst q) hne) (·.2)
  intro q hq
  rcases c2 q hq with rfl | ⟨n2, hq⟩
  · exact ⟨e2, (N _ hm2).2⟩
  · rcases c1 q hq with rfl | ⟨n1, hq⟩
    · exact ⟨e1, (N _ m1).2⟩
    · exact ⟨hk _ _ n1 n2 (N q hq).1, (N q hq).2⟩
theorem fr_two (F : Fr g L h m) (N : News g L h news) (m1 : (d, o) ∈ news) (m2 : (d2, o2) ∈ news) (hk : ∀ b o, b ≠ d → b ≠ d2 → h.get? b = some o → h'.get? b = some o) : Fr g L h' m :=
  have go : ∀ x o, (x, o) ∈ news → ∀ b, (b = L ∨ ∃ o', g.get? b = some o') → b ≠ x := fun x o hm b hb q => by
    rcases hb with hb | ⟨o', hb⟩
    · exact (N _ hm).2.1 (q.symm.trans hb)
    · rw [q, (N _ hm).2.2] at hb; cases hb
  fr_at F fun b x hb e => hk b x (go _ _ m1 b hb) (go _ _ m2 b hb) e
end
theorem map_due (M0 : Str → Option Value) (us ua ud d1 d2 at' st : Option Value) : (fun y => if y = Str.ofString "due" then d2 else if y = Str.ofString "due" then d1 else if y = Str.ofString "at" then at' else if y = Str.ofString "step" then st else if y = Str.ofString "due" then ud else if y = Str.ofString "at" then ua else if y = Str.ofString "step" then us else M0 y) =
    fun y => if y = Str.ofString "due" then d2 else if y = Str.ofString "at" then at' else if y = Str.ofString "step" then st else M0 y := by
  funext y
  by_cases y1 : y = Str.ofString "due"
  · simp only [if_pos y1]
  · by_cases y2 : y = Str.ofString "at"
    · simp only [if_neg y1, if_pos y2]
    · by_cases y3 : y = Str.ofString "step"
      · simp only [if_neg y1, if_neg y2, if_pos y3]
      · simp only [if_neg y1, if_neg y2, if_neg y3]
theorem map_due1 (M0 : Str → Option Value) (us ua ud d1 at' st : Option Value) : (fun y => if y = Str.ofString "due" then d1 else if y = Str.ofString "at" then at' else if y = Str.ofString "step" then st else if y = Str.ofString "due" then ud else if y = Str.ofString "at" then ua else if y = Str.ofString "step" then us else M0 y) =
    fun y => if y = Str.ofString "due" then d1 else if y = Str.ofString "at" then at' else if y = Str.ofString "step" then st else M0 y := by
  funext y
  by_cases y1 : y = Str.ofString "due"
  · simp only [if_pos y1]
  · by_cases y2 : y = Str.ofString "at"
    · simp only [if_neg y1, if_pos y2]
    · by_cases y3 : y = Str.ofString "step"
      · simp only [if_neg y1, if_neg y2, if_pos y3]
      · simp only [if_neg y1, if_neg y2, if_neg y3]
theorem ar_kn {k n : Nat} {m : Int} (h : (n : Int) = m) (h2 : (k : Int) < m) : k < n := by lia
theorem ar_k63 {k : Nat} {m : Int} (h : m ≤ 7) (h2 : (k : Int) < m) : (k : Int) < 2 ^ 63 := by lia
theorem ar_fit {n i : Nat} {c : Int} (h : (n : Int) = c) (h2 : c ≤ i) (h3 : (i : Int) < 9) : (n : Int) < 2 ^ 63 := by lia
theorem ar_sz {n i : Nat} {c : Int} (h : (n : Int) = c) (h2 : c ≤ i) (h3 : (i : Int) < 9) : n ≤ sizeLine := by rw [sizeLine_eq]; lia
theorem ar_c1 {c : Int} (h : 0 ≤ c) : 0 ≤ c + 1 := by lia
theorem ar_c2 {i : Nat} {c : Int} (h : c ≤ i) : c + 1 ≤ ((i + 1 : Nat) : Int) := by lia
theorem ar_c3 {i : Nat} {c : Int} (h : c ≤ i) : c ≤ ((i + 1 : Nat) : Int) := by lia
theorem ar_s {a b : Nat} (h : a = b + 1) : a ≠ b := by lia
theorem ar_l {a b p : Nat} (h : a = b + 1) (h2 : p < b) : p < a := by lia
def EndQ (g : Heap) (L : Addr) (s₁ : Shared) (f : Flow) (s' : Shared) : Prop := f = .ret (.bool true) ∧ ∃ m, Fr g L s'.heap m ∧ s'.gens = s₁.gens ∧ s'.os = s₁.os
/-- one turn's answer, both ways -/
theorem RInv.turn {nodes shared : List Addr} {nums : List Int} {c : Int} {DD : List (PyData × PyData)} {k i : Nat} {a : Addr} (hR : RInv nodes shared nums c DD) (hnd : nodes.Nodup) (ha : nodes[k]? = some a) (hm : a ∈ shared) (hc0 : 0 ≤ c) (hci : c ≤ i) :
    ∃ v b nums2 c2, metR shared nums c (.ref a) = ((v, b), nums2, c2) ∧ (PySem.Spec.lookup (.int k) DD).getD (.int (c + 1)) = .int v ∧ (PySem.Spec.lookup (.int k) DD).isSome = b ∧ RInv nodes shared nums2 c2 (PyProof.V.putD (.int k) (.int v) DD) ∧ (0 ≤ c2 ∧ c2 ≤ ((i + 1 : Nat) : Int)) := by
  rcases hR.at_ k a ha hm with ⟨hv0, hlk⟩ | ⟨hvp, hlk⟩
  · exact ⟨c + 1, false, _, c + 1, met_first hm hv0, by rw [hlk]; rfl, by rw [hlk]; rfl, hR.first hnd ha hm hc0 hlk, ar_c1 hc0, ar_c2 hci⟩
  · exact ⟨_, true, nums, c, met_again hm hvp, by rw [hlk]; rfl, by rw [hlk]; rfl, hR.again ha hm hvp hlk, hc0, ar_c3 hci⟩

end Mine
end

section
open PySem PySem.W PySem.Calls PyProof.Rows
set_option maxHeartbeats 40000000
namespace Mine

theorem law_holds : PySem.Challenge.rw_oj0016_01.Holds := by
  refine hd ?_
  k_go0
  rename_i w s₀ s₁ mg mb _ _ _ _ _ _ _ hgens KX _ _ _ T _ _ _ _ _ _ cdv ocx _ ns _ _ _ _ _ _ _ sl vs _ hL _ _ _ hI _ hn _ _ _ h₁ tk F ol hol N Y
  replace hol : ol.data = .cell none := hol
  clear Y
  obtain ⟨QQ, hQQ⟩ : ∃ q : Flow → Shared → Prop, q = EndQ s₁.heap s₁.heap.objs.size s₁ := ⟨_, rfl⟩
  refine wpAny_mono (?walk : wpAny _ _ _ QQ (fun _ _ => False) _) (fun fl s' hf => ?fin) fun _ _ h => h.elim
  case fin =>
    subst hQQ
    obtain ⟨rfl, m, F', hg, ho⟩ := hf
    exact goodW_bool F' (hg.trans hgens) (fun _ => rfl) (by with_unfolding_all rfl) ho
  obtain ⟨g₀, ge₀, dr₀, tk₀, os₀⟩ := s₁
  dsimp only at F N hL KX T hQQ ⊢
  generalize g₀.objs.size = L₀ at F N hQQ ⊢
  replace F : Fr g₀ L₀ h₁ (fun y => if y = Str.ofString "script" then some (.ref sl) else none) := F
  have T' := topRead_of T
  generalize hA : Around.deeper callerA _ = A
  have hAh : A.handled = none := by rw [← hA]; rfl
  have hd : A.depth + 20 < recursionLimit := by rw [← hA]; show callerA.depth + 1 + 20 < recursionLimit; decide +kernel
  have hu : A.units + 300 < cLine := by rw [← hA]; show callerA.units + 3 + 300 < cLine; decide +kernel
  clear hA
  obtain ⟨hh, dp, fr, gd, un⟩ := A
  dsimp only at hAh hd hu
  subst hAh
  have hd2 : dp + 2 < recursionLimit := by lia
  have hd4 : dp + 4 < recursionLimit := by lia
  have hu30 : un + 30 < cLine := by lia
  have hu40 : un + 40 < cLine := by lia
  have hu64 : un + 64 < cLine := by lia
  obtain ⟨o37, h37, hc37⟩ : ∃ o, g₀.get? 37 = some o ∧ o.cls ≠ .type "tuple" := ⟨_, KX _ _ (show (Mine.hd.heap_39 w.params).lookup 37 = some ⟨.ref 31, some _, .plain, _⟩ by k_is), by intro z; cases z⟩
  (repeat' (first | ((((fail_if_success (with_reducible show wpAny _ _ (pyIter (Value.ref _)) _ _ _)); (fail_if_success (with_reducible show wpAny _ _ (call (Value.ref _) _) _ _ _)); (fail_if_success (with_reducible show wpAny _ _ (exec (Stmt.While _ _ _ _) _) _ _ _)); (fail_if_success (with_reducible show wpAny _ _ (exec (Stmt.For _ _ _ _ _) _) _ _ _)); (fail_if_success (with_reducible show wpAny _ _ (compareOp _ (Value.ref _) (Value.ref _)) _ _ _)); (fail_if_success (with_reducible show wpAny _ _ (subscriptTail _ _ (Value.ref _) (Value.int _ _)) _ _ _)); (fail_if_success (with_reducible show wpAny _ _ (eval (PySem.Expr.ListComp _ _ _ _) _) _ _ _)); (fail_if_success (with_reducible show wpAny _ _ (call (Value.builtin "len") _) _ _ _)); (fail_if_success (with_reducible show wpAny _ _ (call (Value.builtin "dict.get") _) _ _ _)); (fail_if_success (with_reducible show wpAny _ _ (setItem (Value.ref _) _ _) _ _ _)); (fail_if_success (with_reducible show wpAny _ _ (compareOp CmpOp.In _ (Value.ref _)) _ _ _)))); walk1) | ((((fail_if_success (with_reducible show wpAny _ _ (pyIter (Value.ref _)) _ _ _)); (fail_if_success (with_reducible show wpAny _ _ (call (Value.ref _) _) _ _ _)); (fail_if_success (with_reducible show wpAny _ _ (exec (Stmt.While _ _ _ _) _) _ _ _)); (fail_if_success (with_reducible show wpAny _ _ (exec (Stmt.For _ _ _ _ _) _) _ _ _)); (fail_if_success (with_reducible show wpAny _ _ (compareOp _ (Value.ref _) (Value.ref _)) _ _ _)); (fail_if_success (with_reducible show wpAny _ _ (subscriptTail _ _ (Value.ref _) (Value.int _ _)) _ _ _)); (fail_if_success (with_reducible show wpAny _ _ (eval (PySem.Expr.ListComp _ _ _ _) _) _ _ _)); (fail_if_success (with_reducible show wpAny _ _ (call (Value.builtin "len") _) _ _ _)); (fail_if_success (with_reducible show wpAny _ _ (call (Value.builtin "dict.get") _) _ _ _)); (fail_if_success (with_reducible show wpAny _ _ (setItem (Value.ref _) _ _) _ _ _)); (fail_if_success (with_reducible show wpAny _ _ (compareOp CmpOp.In _ (Value.ref _)) _ _ _)))); dsimp only; (((fail_if_success (with_reducible show wpAny _ _ (pyIter (Value.ref _)) _ _ _)); (fail_if_success (with_reducible show wpAny _ _ (call (Value.ref _) _) _ _ _)); (fail_if_success (with_reducible show wpAny _ _ (exec (Stmt.While _ _ _ _) _) _ _ _)); (fail_if_success (with_reducible show wpAny _ _ (exec (Stmt.For _ _ _ _ _) _) _ _ _)); (fail_if_success (with_reducible show wpAny _ _ (compareOp _ (Value.ref _) (Value.ref _)) _ _ _)); (fail_if_success (with_reducible show wpAny _ _ (subscriptTail _ _ (Value.ref _) (Value.int _ _)) _ _ _)); (fail_if_success (with_reducible show wpAny _ _ (eval (PySem.Expr.ListComp _ _ _ _) _) _ _ _)); (fail_if_success (with_reducible show wpAny _ _ (call (Value.builtin "len") _) _ _ _)); (fail_if_success (with_reducible show wpAny _ _ (call (Value.builtin "dict.get") _) _ _ _)); (fail_if_success (with_reducible show wpAny _ _ (setItem (Value.ref _) _ _) _ _ _)); (fail_if_success (with_reducible show wpAny _ _ (compareOp CmpOp.In _ (Value.ref _)) _ _ _)))); walk1)))
  refine c_pot (dp := dp) (un := un) KX T (by exact F.keep) (by lia) (by lia) (by exact stays_list F.keep hL) hI (by lia) ?_
  intro h1 tk1 pot cl kp1 hpn hcn hPot hCl
  dsimp only at kp1 hpn hcn
  have hcp := neN (hCl.ne hPot)
  have hLp : @Ne Nat (L₀ + 1) pot := ne_free N hpn _ (.head _)
  have hLc : @Ne Nat (L₀ + 1) cl := ne_free N hcn _ (.head _)
  have F1 := F.keeps kp1
  have N1 := N.keeps kp1
  obtain ⟨at1, ta1, z1, tz1, c1, hpe, hat1, hz1, hz1'⟩ := hPot
  obtain ⟨ocl, hoc, hCl⟩ := hCl.obj
  have N2 := news_free F N (fun p hp => (N1 p hp).1) hpn hpe
  have N3 : News g₀ L₀ h1 ((cl, ocl) :: (pot, listOf #[.ref cl, .int at1 ta1, .int z1 tz1] c1) :: [(L₀ + 1, ol)]) :=
    List.forall_mem_cons.mpr ⟨news_free F N (fun p hp => (N1 p hp).1) hcn hoc (cl, ocl) (.head _), N2⟩
  clear F N N1 N2 kp1 hpn hcn hoc
  try dsimp only
  (repeat' (first | ((((fail_if_success (with_reducible show wpAny _ _ (pyIter (Value.ref _)) _ _ _)); (fail_if_success (with_reducible show wpAny _ _ (call (Value.ref _) _) _ _ _)); (fail_if_success (with_reducible show wpAny _ _ (exec (Stmt.While _ _ _ _) _) _ _ _)); (fail_if_success (with_reducible show wpAny _ _ (exec (Stmt.For _ _ _ _ _) _) _ _ _)); (fail_if_success (with_reducible show wpAny _ _ (compareOp _ (Value.ref _) (Value.ref _)) _ _ _)); (fail_if_success (with_reducible show wpAny _ _ (subscriptTail _ _ (Value.ref _) (Value.int _ _)) _ _ _)); (fail_if_success (with_reducible show wpAny _ _ (eval (PySem.Expr.ListComp _ _ _ _) _) _ _ _)); (fail_if_success (with_reducible show wpAny _ _ (call (Value.builtin "len") _) _ _ _)); (fail_if_success (with_reducible show wpAny _ _ (call (Value.builtin "dict.get") _) _ _ _)); (fail_if_success (with_reducible show wpAny _ _ (setItem (Value.ref _) _ _) _ _ _)); (fail_if_success (with_reducible show wpAny _ _ (compareOp CmpOp.In _ (Value.ref _)) _ _ _)))); walk1) | ((((fail_if_success (with_reducible show wpAny _ _ (pyIter (Value.ref _)) _ _ _)); (fail_if_success (with_reducible show wpAny _ _ (call (Value.ref _) _) _ _ _)); (fail_if_success (with_reducible show wpAny _ _ (exec (Stmt.While _ _ _ _) _) _ _ _)); (fail_if_success (with_reducible show wpAny _ _ (exec (Stmt.For _ _ _ _ _) _) _ _ _)); (fail_if_success (with_reducible show wpAny _ _ (compareOp _ (Value.ref _) (Value.ref _)) _ _ _)); (fail_if_success (with_reducible show wpAny _ _ (subscriptTail _ _ (Value.ref _) (Value.int _ _)) _ _ _)); (fail_if_success (with_reducible show wpAny _ _ (eval (PySem.Expr.ListComp _ _ _ _) _) _ _ _)); (fail_if_success (with_reducible show wpAny _ _ (call (Value.builtin "len") _) _ _ _)); (fail_if_success (with_reducible show wpAny _ _ (call (Value.builtin "dict.get") _) _ _ _)); (fail_if_success (with_reducible show wpAny _ _ (setItem (Value.ref _) _ _) _ _ _)); (fail_if_success (with_reducible show wpAny _ _ (compareOp CmpOp.In _ (Value.ref _)) _ _ _)))); dsimp only; (((fail_if_success (with_reducible show wpAny _ _ (pyIter (Value.ref _)) _ _ _)); (fail_if_success (with_reducible show wpAny _ _ (call (Value.ref _) _) _ _ _)); (fail_if_success (with_reducible show wpAny _ _ (exec (Stmt.While _ _ _ _) _) _ _ _)); (fail_if_success (with_reducible show wpAny _ _ (exec (Stmt.For _ _ _ _ _) _) _ _ _)); (fail_if_success (with_reducible show wpAny _ _ (compareOp _ (Value.ref _) (Value.ref _)) _ _ _)); (fail_if_success (with_reducible show wpAny _ _ (subscriptTail _ _ (Value.ref _) (Value.int _ _)) _ _ _)); (fail_if_success (with_reducible show wpAny _ _ (eval (PySem.Expr.ListComp _ _ _ _) _) _ _ _)); (fail_if_success (with_reducible show wpAny _ _ (call (Value.builtin "len") _) _ _ _)); (fail_if_success (with_reducible show wpAny _ _ (call (Value.builtin "dict.get") _) _ _ _)); (fail_if_success (with_reducible show wpAny _ _ (setItem (Value.ref _) _ _) _ _ _)); (fail_if_success (with_reducible show wpAny _ _ (compareOp CmpOp.In _ (Value.ref _)) _ _ _)))); walk1)))
  rename Fr _ _ _ _ => F; rename News _ _ _ _ => N
  have hgp : g₀.get? pot = none := N.fresh (.tail _ (.head _))
  refine c_dip (dp := dp) (un := un) (pot := pot) (cl := cl) KX T (by exact F.keep) (by lia) (by lia) (by exact ispot_led N (.tail _ (.head _)) hat1 hz1 hz1') hgp (by exact hCl _ (N.get (.head _))) (by decide) (by decide) ?_
  intro h2 tk2 r tr hk2 hP hr0 hr7
  have F2 := fr_mod F N (.tail _ (.head _)) hk2
  obtain ⟨at2, ta2, z2, tz2, c2, hpe, hat2, hz2, hz2'⟩ := hP
  have N2 := news_upd N (o' := listOf #[.ref cl, .int at2 ta2, .int z2 tz2] c2) (by k_upd) hk2 hpe
  clear F N hk2 hpe hat1 hz1 hz1'
  try dsimp only
  (repeat' (first | ((((fail_if_success (with_reducible show wpAny _ _ (pyIter (Value.ref _)) _ _ _)); (fail_if_success (with_reducible show wpAny _ _ (call (Value.ref _) _) _ _ _)); (fail_if_success (with_reducible show wpAny _ _ (exec (Stmt.While _ _ _ _) _) _ _ _)); (fail_if_success (with_reducible show wpAny _ _ (exec (Stmt.For _ _ _ _ _) _) _ _ _)); (fail_if_success (with_reducible show wpAny _ _ (compareOp _ (Value.ref _) (Value.ref _)) _ _ _)); (fail_if_success (with_reducible show wpAny _ _ (subscriptTail _ _ (Value.ref _) (Value.int _ _)) _ _ _)); (fail_if_success (with_reducible show wpAny _ _ (eval (PySem.Expr.ListComp _ _ _ _) _) _ _ _)); (fail_if_success (with_reducible show wpAny _ _ (call (Value.builtin "len") _) _ _ _)); (fail_if_success (with_reducible show wpAny _ _ (call (Value.builtin "dict.get") _) _ _ _)); (fail_if_success (with_reducible show wpAny _ _ (setItem (Value.ref _) _ _) _ _ _)); (fail_if_success (with_reducible show wpAny _ _ (compareOp CmpOp.In _ (Value.ref _)) _ _ _)))); walk1) | ((((fail_if_success (with_reducible show wpAny _ _ (pyIter (Value.ref _)) _ _ _)); (fail_if_success (with_reducible show wpAny _ _ (call (Value.ref _) _) _ _ _)); (fail_if_success (with_reducible show wpAny _ _ (exec (Stmt.While _ _ _ _) _) _ _ _)); (fail_if_success (with_reducible show wpAny _ _ (exec (Stmt.For _ _ _ _ _) _) _ _ _)); (fail_if_success (with_reducible show wpAny _ _ (compareOp _ (Value.ref _) (Value.ref _)) _ _ _)); (fail_if_success (with_reducible show wpAny _ _ (subscriptTail _ _ (Value.ref _) (Value.int _ _)) _ _ _)); (fail_if_success (with_reducible show wpAny _ _ (eval (PySem.Expr.ListComp _ _ _ _) _) _ _ _)); (fail_if_success (with_reducible show wpAny _ _ (call (Value.builtin "len") _) _ _ _)); (fail_if_success (with_reducible show wpAny _ _ (call (Value.builtin "dict.get") _) _ _ _)); (fail_if_success (with_reducible show wpAny _ _ (setItem (Value.ref _) _ _) _ _ _)); (fail_if_success (with_reducible show wpAny _ _ (compareOp CmpOp.In _ (Value.ref _)) _ _ _)))); dsimp only; (((fail_if_success (with_reducible show wpAny _ _ (pyIter (Value.ref _)) _ _ _)); (fail_if_success (with_reducible show wpAny _ _ (call (Value.ref _) _) _ _ _)); (fail_if_success (with_reducible show wpAny _ _ (exec (Stmt.While _ _ _ _) _) _ _ _)); (fail_if_success (with_reducible show wpAny _ _ (exec (Stmt.For _ _ _ _ _) _) _ _ _)); (fail_if_success (with_reducible show wpAny _ _ (compareOp _ (Value.ref _) (Value.ref _)) _ _ _)); (fail_if_success (with_reducible show wpAny _ _ (subscriptTail _ _ (Value.ref _) (Value.int _ _)) _ _ _)); (fail_if_success (with_reducible show wpAny _ _ (eval (PySem.Expr.ListComp _ _ _ _) _) _ _ _)); (fail_if_success (with_reducible show wpAny _ _ (call (Value.builtin "len") _) _ _ _)); (fail_if_success (with_reducible show wpAny _ _ (call (Value.builtin "dict.get") _) _ _ _)); (fail_if_success (with_reducible show wpAny _ _ (setItem (Value.ref _) _ _) _ _ _)); (fail_if_success (with_reducible show wpAny _ _ (compareOp CmpOp.In _ (Value.ref _)) _ _ _)))); walk1)))
  rename Fr _ _ _ _ => F; rename News _ _ _ _ => N
  generalize hmany : 1 + r = many at *
  have hm1 : 1 ≤ many := by lia
  have hm7 : many ≤ 7 := by lia
  have hm100 : many ≤ 100 := by lia
  clear hmany hr0 hr7
  have h37b := F.keep _ _ h37
  refine c_things (dp := dp) (un := un) (pot := pot) (cl := cl) KX T (by exact F.keep) (by lia) (by lia) (by exact ispot_led N (.tail _ (.head _)) hat2 hz2 hz2') hgp (by exact hCl _ (N.get (.head _))) hm1 hm7 ?_
  intro h3 tk3 tp th ld nodes parts lead objs hk3 hP htp htpn hobj hB3
  dsimp only at hk3 htpn hobj hB3
  have hoP : ∀ p ∈ objs, p.1 ≠ pot := fun p hp q => ne_free N (hobj p hp).1 _ (.tail _ (.head _)) q.symm
  have hoL : ∀ p ∈ objs, p.1 ≠ L₀ + 1 := fun p hp q => ne_free N (hobj p hp).1 _ (.tail _ (.tail _ (.head _))) q.symm
  have F3 := fr_mod F N (.tail _ (.head _)) hk3
  obtain ⟨at3, ta3, z3, tz3, c3, hpe, hat3, hz3, hz3'⟩ := hP
  have N3 := news_upd N (o' := listOf #[.ref cl, .int at3 ta3, .int z3 tz3] c3) (by k_upd) hk3 hpe
  have Np := news_free2 F N3 htpn htp
  have N4 := News.append Np (news_objs F hobj)
  simp only [List.cons_append, List.nil_append] at N4
  have htp1 : @Ne Nat cl tp := ne_free N htpn _ (.head _)
  clear F N hk3 hpe hat2 hz2 hz2' hobj N3 Np htp htpn
  try dsimp only
  (repeat' (first | ((((fail_if_success (with_reducible show wpAny _ _ (pyIter (Value.ref _)) _ _ _)); (fail_if_success (with_reducible show wpAny _ _ (call (Value.ref _) _) _ _ _)); (fail_if_success (with_reducible show wpAny _ _ (exec (Stmt.While _ _ _ _) _) _ _ _)); (fail_if_success (with_reducible show wpAny _ _ (exec (Stmt.For _ _ _ _ _) _) _ _ _)); (fail_if_success (with_reducible show wpAny _ _ (compareOp _ (Value.ref _) (Value.ref _)) _ _ _)); (fail_if_success (with_reducible show wpAny _ _ (subscriptTail _ _ (Value.ref _) (Value.int _ _)) _ _ _)); (fail_if_success (with_reducible show wpAny _ _ (eval (PySem.Expr.ListComp _ _ _ _) _) _ _ _)); (fail_if_success (with_reducible show wpAny _ _ (call (Value.builtin "len") _) _ _ _)); (fail_if_success (with_reducible show wpAny _ _ (call (Value.builtin "dict.get") _) _ _ _)); (fail_if_success (with_reducible show wpAny _ _ (setItem (Value.ref _) _ _) _ _ _)); (fail_if_success (with_reducible show wpAny _ _ (compareOp CmpOp.In _ (Value.ref _)) _ _ _)))); walk1) | ((((fail_if_success (with_reducible show wpAny _ _ (pyIter (Value.ref _)) _ _ _)); (fail_if_success (with_reducible show wpAny _ _ (call (Value.ref _) _) _ _ _)); (fail_if_success (with_reducible show wpAny _ _ (exec (Stmt.While _ _ _ _) _) _ _ _)); (fail_if_success (with_reducible show wpAny _ _ (exec (Stmt.For _ _ _ _ _) _) _ _ _)); (fail_if_success (with_reducible show wpAny _ _ (compareOp _ (Value.ref _) (Value.ref _)) _ _ _)); (fail_if_success (with_reducible show wpAny _ _ (subscriptTail _ _ (Value.ref _) (Value.int _ _)) _ _ _)); (fail_if_success (with_reducible show wpAny _ _ (eval (PySem.Expr.ListComp _ _ _ _) _) _ _ _)); (fail_if_success (with_reducible show wpAny _ _ (call (Value.builtin "len") _) _ _ _)); (fail_if_success (with_reducible show wpAny _ _ (call (Value.builtin "dict.get") _) _ _ _)); (fail_if_success (with_reducible show wpAny _ _ (setItem (Value.ref _) _ _) _ _ _)); (fail_if_success (with_reducible show wpAny _ _ (compareOp CmpOp.In _ (Value.ref _)) _ _ _)))); dsimp only; (((fail_if_success (with_reducible show wpAny _ _ (pyIter (Value.ref _)) _ _ _)); (fail_if_success (with_reducible show wpAny _ _ (call (Value.ref _) _) _ _ _)); (fail_if_success (with_reducible show wpAny _ _ (exec (Stmt.While _ _ _ _) _) _ _ _)); (fail_if_success (with_reducible show wpAny _ _ (exec (Stmt.For _ _ _ _ _) _) _ _ _)); (fail_if_success (with_reducible show wpAny _ _ (compareOp _ (Value.ref _) (Value.ref _)) _ _ _)); (fail_if_success (with_reducible show wpAny _ _ (subscriptTail _ _ (Value.ref _) (Value.int _ _)) _ _ _)); (fail_if_success (with_reducible show wpAny _ _ (eval (PySem.Expr.ListComp _ _ _ _) _) _ _ _)); (fail_if_success (with_reducible show wpAny _ _ (call (Value.builtin "len") _) _ _ _)); (fail_if_success (with_reducible show wpAny _ _ (call (Value.builtin "dict.get") _) _ _ _)); (fail_if_success (with_reducible show wpAny _ _ (setItem (Value.ref _) _ _) _ _ _)); (fail_if_success (with_reducible show wpAny _ _ (compareOp CmpOp.In _ (Value.ref _)) _ _ _)))); walk1)))
  rename Fr _ _ _ _ => F; rename News _ _ _ _ => N
  replace N := N.tail'
  refine c_dip (dp := dp) (un := un) (pot := pot) (cl := cl) KX T (by exact F.keep) (by lia) (by lia) (by exact ispot_led N (.tail _ (.head _)) hat3 hz3 hz3') hgp (by exact hCl _ (N.get (.head _))) hm1 (by lia) ?_
  intro h4 tk4 r tr hk4 hP hr0 hr7
  have F4 := fr_mod F N (.tail _ (.head _)) hk4
  obtain ⟨at4, ta4, z4, tz4, c4, hpe, hat4, hz4, hz4'⟩ := hP
  have N4 := news_upd N (o' := listOf #[.ref cl, .int at4 ta4, .int z4 tz4] c4) (by k_upd) hk4 hpe
  clear F N hk4 hpe hat3 hz3 hz3'
  try dsimp only
  (repeat' (first | ((((fail_if_success (with_reducible show wpAny _ _ (pyIter (Value.ref _)) _ _ _)); (fail_if_success (with_reducible show wpAny _ _ (call (Value.ref _) _) _ _ _)); (fail_if_success (with_reducible show wpAny _ _ (exec (Stmt.While _ _ _ _) _) _ _ _)); (fail_if_success (with_reducible show wpAny _ _ (exec (Stmt.For _ _ _ _ _) _) _ _ _)); (fail_if_success (with_reducible show wpAny _ _ (compareOp _ (Value.ref _) (Value.ref _)) _ _ _)); (fail_if_success (with_reducible show wpAny _ _ (subscriptTail _ _ (Value.ref _) (Value.int _ _)) _ _ _)); (fail_if_success (with_reducible show wpAny _ _ (eval (PySem.Expr.ListComp _ _ _ _) _) _ _ _)); (fail_if_success (with_reducible show wpAny _ _ (call (Value.builtin "len") _) _ _ _)); (fail_if_success (with_reducible show wpAny _ _ (call (Value.builtin "dict.get") _) _ _ _)); (fail_if_success (with_reducible show wpAny _ _ (setItem (Value.ref _) _ _) _ _ _)); (fail_if_success (with_reducible show wpAny _ _ (compareOp CmpOp.In _ (Value.ref _)) _ _ _)))); walk1) | ((((fail_if_success (with_reducible show wpAny _ _ (pyIter (Value.ref _)) _ _ _)); (fail_if_success (with_reducible show wpAny _ _ (call (Value.ref _) _) _ _ _)); (fail_if_success (with_reducible show wpAny _ _ (exec (Stmt.While _ _ _ _) _) _ _ _)); (fail_if_success (with_reducible show wpAny _ _ (exec (Stmt.For _ _ _ _ _) _) _ _ _)); (fail_if_success (with_reducible show wpAny _ _ (compareOp _ (Value.ref _) (Value.ref _)) _ _ _)); (fail_if_success (with_reducible show wpAny _ _ (subscriptTail _ _ (Value.ref _) (Value.int _ _)) _ _ _)); (fail_if_success (with_reducible show wpAny _ _ (eval (PySem.Expr.ListComp _ _ _ _) _) _ _ _)); (fail_if_success (with_reducible show wpAny _ _ (call (Value.builtin "len") _) _ _ _)); (fail_if_success (with_reducible show wpAny _ _ (call (Value.builtin "dict.get") _) _ _ _)); (fail_if_success (with_reducible show wpAny _ _ (setItem (Value.ref _) _ _) _ _ _)); (fail_if_success (with_reducible show wpAny _ _ (compareOp CmpOp.In _ (Value.ref _)) _ _ _)))); dsimp only; (((fail_if_success (with_reducible show wpAny _ _ (pyIter (Value.ref _)) _ _ _)); (fail_if_success (with_reducible show wpAny _ _ (call (Value.ref _) _) _ _ _)); (fail_if_success (with_reducible show wpAny _ _ (exec (Stmt.While _ _ _ _) _) _ _ _)); (fail_if_success (with_reducible show wpAny _ _ (exec (Stmt.For _ _ _ _ _) _) _ _ _)); (fail_if_success (with_reducible show wpAny _ _ (compareOp _ (Value.ref _) (Value.ref _)) _ _ _)); (fail_if_success (with_reducible show wpAny _ _ (subscriptTail _ _ (Value.ref _) (Value.int _ _)) _ _ _)); (fail_if_success (with_reducible show wpAny _ _ (eval (PySem.Expr.ListComp _ _ _ _) _) _ _ _)); (fail_if_success (with_reducible show wpAny _ _ (call (Value.builtin "len") _) _ _ _)); (fail_if_success (with_reducible show wpAny _ _ (call (Value.builtin "dict.get") _) _ _ _)); (fail_if_success (with_reducible show wpAny _ _ (setItem (Value.ref _) _ _) _ _ _)); (fail_if_success (with_reducible show wpAny _ _ (compareOp CmpOp.In _ (Value.ref _)) _ _ _)))); walk1)))
  rename Fr _ _ _ _ => F; rename News _ _ _ _ => N
  have hBl := hB3 _ fun p hp => N.get (.tail _ (.tail _ (.tail _ hp)))
  obtain ⟨f, hf⟩ : ∃ f : Nat, r = (f : Int) := ⟨r.toNat, by lia⟩
  subst hf
  have hfn : f < nodes.length := by have := hBl.len; lia
  obtain ⟨a0, ha0⟩ : ∃ a, nodes[f]? = some a := ⟨_, List.getElem?_eq_getElem hfn⟩
  refine item_at (k := (f : Int)) hBl.th (by lia) (by lia) (v := .ref a0) (by simp [ha0]) ?_ (by with_unfolding_all rfl)
  (repeat' (first | ((((fail_if_success (with_reducible show wpAny _ _ (pyIter (Value.ref _)) _ _ _)); (fail_if_success (with_reducible show wpAny _ _ (call (Value.ref _) _) _ _ _)); (fail_if_success (with_reducible show wpAny _ _ (exec (Stmt.While _ _ _ _) _) _ _ _)); (fail_if_success (with_reducible show wpAny _ _ (exec (Stmt.For _ _ _ _ _) _) _ _ _)); (fail_if_success (with_reducible show wpAny _ _ (compareOp _ (Value.ref _) (Value.ref _)) _ _ _)); (fail_if_success (with_reducible show wpAny _ _ (subscriptTail _ _ (Value.ref _) (Value.int _ _)) _ _ _)); (fail_if_success (with_reducible show wpAny _ _ (eval (PySem.Expr.ListComp _ _ _ _) _) _ _ _)); (fail_if_success (with_reducible show wpAny _ _ (call (Value.builtin "len") _) _ _ _)); (fail_if_success (with_reducible show wpAny _ _ (call (Value.builtin "dict.get") _) _ _ _)); (fail_if_success (with_reducible show wpAny _ _ (setItem (Value.ref _) _ _) _ _ _)); (fail_if_success (with_reducible show wpAny _ _ (compareOp CmpOp.In _ (Value.ref _)) _ _ _)))); walk1) | ((((fail_if_success (with_reducible show wpAny _ _ (pyIter (Value.ref _)) _ _ _)); (fail_if_success (with_reducible show wpAny _ _ (call (Value.ref _) _) _ _ _)); (fail_if_success (with_reducible show wpAny _ _ (exec (Stmt.While _ _ _ _) _) _ _ _)); (fail_if_success (with_reducible show wpAny _ _ (exec (Stmt.For _ _ _ _ _) _) _ _ _)); (fail_if_success (with_reducible show wpAny _ _ (compareOp _ (Value.ref _) (Value.ref _)) _ _ _)); (fail_if_success (with_reducible show wpAny _ _ (subscriptTail _ _ (Value.ref _) (Value.int _ _)) _ _ _)); (fail_if_success (with_reducible show wpAny _ _ (eval (PySem.Expr.ListComp _ _ _ _) _) _ _ _)); (fail_if_success (with_reducible show wpAny _ _ (call (Value.builtin "len") _) _ _ _)); (fail_if_success (with_reducible show wpAny _ _ (call (Value.builtin "dict.get") _) _ _ _)); (fail_if_success (with_reducible show wpAny _ _ (setItem (Value.ref _) _ _) _ _ _)); (fail_if_success (with_reducible show wpAny _ _ (compareOp CmpOp.In _ (Value.ref _)) _ _ _)))); dsimp only; (((fail_if_success (with_reducible show wpAny _ _ (pyIter (Value.ref _)) _ _ _)); (fail_if_success (with_reducible show wpAny _ _ (call (Value.ref _) _) _ _ _)); (fail_if_success (with_reducible show wpAny _ _ (exec (Stmt.While _ _ _ _) _) _ _ _)); (fail_if_success (with_reducible show wpAny _ _ (exec (Stmt.For _ _ _ _ _) _) _ _ _)); (fail_if_success (with_reducible show wpAny _ _ (compareOp _ (Value.ref _) (Value.ref _)) _ _ _)); (fail_if_success (with_reducible show wpAny _ _ (subscriptTail _ _ (Value.ref _) (Value.int _ _)) _ _ _)); (fail_if_success (with_reducible show wpAny _ _ (eval (PySem.Expr.ListComp _ _ _ _) _) _ _ _)); (fail_if_success (with_reducible show wpAny _ _ (call (Value.builtin "len") _) _ _ _)); (fail_if_success (with_reducible show wpAny _ _ (call (Value.builtin "dict.get") _) _ _ _)); (fail_if_success (with_reducible show wpAny _ _ (setItem (Value.ref _) _ _) _ _ _)); (fail_if_success (with_reducible show wpAny _ _ (compareOp CmpOp.In _ (Value.ref _)) _ _ _)))); walk1)))
  rename Fr _ _ _ _ => F; rename News _ _ _ _ => N
  refine' wpAny_call (make_h (fI := 158) (KX.keeps F.keep) ?m1 ?m2 ?m3 ?_)
  case m1 => k_is
  case m2 => k_is
  case m3 => k_is
  intro lb dx h5 kp5 hx5 hdx5 hdl hdlt
  dsimp only at kp5 hdl
  have hlbl := Nat.le_trans hdl (Nat.le_of_lt (show dx < lb by rw [hdlt]; exact Nat.lt_succ_self dx))
  refine c_init (dp := dp + 1) (un := un + 1) KX T (by exact fun b o e => kp5 _ _ (F.keep _ _ e)) (by lia) (by lia) hx5 hdx5 (of_no F.keep (fresh_of hdl)) kp5 (fresh_of hdl) hBl.node hBl.kid hBl.few3 (by have := hBl.len; lia) (List.mem_of_getElem? ha0) ?_
  intro h6 tk6 lsh lnu H1 H2 H3 k1 k2 k3 tl vnu c5 c6 shared C kp6 hdx6 hlsh hlnu hints hn1 hn2 hne hsn hsm hcov hsh
  dsimp only at kp6 hn1 hn2
  refine ⟨rfl, ?_⟩
  dsimp only
  have hltd := lt_new N hdl
  have hltb := lt_new N hlbl
  have hls4 := of_no kp5 hn1
  have hln4 := of_no kp5 hn2
  have hnes := ne_free N hls4
  have hnen := ne_free N hln4
  have hdn4 := fresh_of hdl
  have hbn4 := fresh_of hlbl
  have u1 : @Eq Nat lb (dx + 1) := hdlt
  have u7 : @Ne Nat lb dx := ar_s u1
  have u2 : @Ne Nat lb lsh := fun q => by rw [← (show (lb : Addr) = lsh from q), hx5] at hn1; cases hn1
  have u3 : @Ne Nat dx lsh := fun q => by rw [← (show (dx : Addr) = lsh from q), hdx5] at hn1; cases hn1
  have u4 : @Ne Nat lb lnu := fun q => by rw [← (show (lb : Addr) = lnu from q), hx5] at hn2; cases hn2
  have u5 : @Ne Nat dx lnu := fun q => by rw [← (show (dx : Addr) = lnu from q), hdx5] at hn2; cases hn2
  have u6 : @Ne Nat lsh lnu := hne
  have y1 : @LT.lt Nat _ cl dx := hltd _ (.head _)
  have y2 : @LT.lt Nat _ pot dx := hltd _ (.tail _ (.head _))
  have y3 : @LT.lt Nat _ (L₀ + 1) dx := hltd _ (.tail _ (.tail _ (.head _)))
  have y10 : @LT.lt Nat _ pot lb := ar_l u1 y2
  have y4 : @Ne Nat cl lsh := hnes _ (.head _)
  have y5 : @Ne Nat pot lsh := hnes _ (.tail _ (.head _))
  have y6 : @Ne Nat (L₀ + 1) lsh := hnes _ (.tail _ (.tail _ (.head _)))
  have y7 : @Ne Nat cl lnu := hnen _ (.head _)
  have y8 : @Ne Nat pot lnu := hnen _ (.tail _ (.head _))
  have y9 : @Ne Nat (L₀ + 1) lnu := hnen _ (.tail _ (.tail _ (.head _)))
  have hoD : ∀ p ∈ objs, p.1 ≠ dx := fun p hp => Nat.ne_of_lt (hltd p (.tail _ (.tail _ (.tail _ hp))))
  have hoN : ∀ p ∈ objs, p.1 ≠ lnu := fun p hp => hnen p (.tail _ (.tail _ (.tail _ hp)))
  have hlb6 := kp6 _ _ (show lb ≠ dx by rw [hdlt]; exact Nat.succ_ne_self dx) hx5
  have F6 := fr_at F fun b o _ e => kp6 b o (Nat.ne_of_lt (Nat.lt_of_lt_of_le (Heap.lt_size e) hdl)) (kp5 b o e)
  have N5 : News _ _ h6 _ := fun p hp => ⟨kp6 _ _ (Nat.ne_of_lt (hltd p hp)) (kp5 _ _ (N p hp).1), (N p hp).2⟩
  have N6 := news_free2 F (news_free2 F (news_free2 F (news_free2 F N5 hbn4 hlb6) hdn4 hdx6) hln4 hlnu) hls4 hlsh
  have hBl6 := hB3 _ fun p hp => N6.get (.tail _ (.tail _ (.tail _ (.tail _ (.tail _ (.tail _ (.tail _ hp)))))))
  clear N5 hltd hltb hls4 hln4 hnes hnen hdn4 hbn4 hlb6 hdx6 hlnu hlsh hx5 hdx5 hn1 hn2 kp5 kp6 hdl hlbl F N hBl
  try dsimp only
  (repeat' (first | ((((fail_if_success (with_reducible show wpAny _ _ (pyIter (Value.ref _)) _ _ _)); (fail_if_success (with_reducible show wpAny _ _ (call (Value.ref _) _) _ _ _)); (fail_if_success (with_reducible show wpAny _ _ (exec (Stmt.While _ _ _ _) _) _ _ _)); (fail_if_success (with_reducible show wpAny _ _ (exec (Stmt.For _ _ _ _ _) _) _ _ _)); (fail_if_success (with_reducible show wpAny _ _ (compareOp _ (Value.ref _) (Value.ref _)) _ _ _)); (fail_if_success (with_reducible show wpAny _ _ (subscriptTail _ _ (Value.ref _) (Value.int _ _)) _ _ _)); (fail_if_success (with_reducible show wpAny _ _ (eval (PySem.Expr.ListComp _ _ _ _) _) _ _ _)); (fail_if_success (with_reducible show wpAny _ _ (call (Value.builtin "len") _) _ _ _)); (fail_if_success (with_reducible show wpAny _ _ (call (Value.builtin "dict.get") _) _ _ _)); (fail_if_success (with_reducible show wpAny _ _ (setItem (Value.ref _) _ _) _ _ _)); (fail_if_success (with_reducible show wpAny _ _ (compareOp CmpOp.In _ (Value.ref _)) _ _ _)))); walk1) | ((((fail_if_success (with_reducible show wpAny _ _ (pyIter (Value.ref _)) _ _ _)); (fail_if_success (with_reducible show wpAny _ _ (call (Value.ref _) _) _ _ _)); (fail_if_success (with_reducible show wpAny _ _ (exec (Stmt.While _ _ _ _) _) _ _ _)); (fail_if_success (with_reducible show wpAny _ _ (exec (Stmt.For _ _ _ _ _) _) _ _ _)); (fail_if_success (with_reducible show wpAny _ _ (compareOp _ (Value.ref _) (Value.ref _)) _ _ _)); (fail_if_success (with_reducible show wpAny _ _ (subscriptTail _ _ (Value.ref _) (Value.int _ _)) _ _ _)); (fail_if_success (with_reducible show wpAny _ _ (eval (PySem.Expr.ListComp _ _ _ _) _) _ _ _)); (fail_if_success (with_reducible show wpAny _ _ (call (Value.builtin "len") _) _ _ _)); (fail_if_success (with_reducible show wpAny _ _ (call (Value.builtin "dict.get") _) _ _ _)); (fail_if_success (with_reducible show wpAny _ _ (setItem (Value.ref _) _ _) _ _ _)); (fail_if_success (with_reducible show wpAny _ _ (compareOp CmpOp.In _ (Value.ref _)) _ _ _)))); dsimp only; (((fail_if_success (with_reducible show wpAny _ _ (pyIter (Value.ref _)) _ _ _)); (fail_if_success (with_reducible show wpAny _ _ (call (Value.ref _) _) _ _ _)); (fail_if_success (with_reducible show wpAny _ _ (exec (Stmt.While _ _ _ _) _) _ _ _)); (fail_if_success (with_reducible show wpAny _ _ (exec (Stmt.For _ _ _ _ _) _) _ _ _)); (fail_if_success (with_reducible show wpAny _ _ (compareOp _ (Value.ref _) (Value.ref _)) _ _ _)); (fail_if_success (with_reducible show wpAny _ _ (subscriptTail _ _ (Value.ref _) (Value.int _ _)) _ _ _)); (fail_if_success (with_reducible show wpAny _ _ (eval (PySem.Expr.ListComp _ _ _ _) _) _ _ _)); (fail_if_success (with_reducible show wpAny _ _ (call (Value.builtin "len") _) _ _ _)); (fail_if_success (with_reducible show wpAny _ _ (call (Value.builtin "dict.get") _) _ _ _)); (fail_if_success (with_reducible show wpAny _ _ (setItem (Value.ref _) _ _) _ _ _)); (fail_if_success (with_reducible show wpAny _ _ (compareOp CmpOp.In _ (Value.ref _)) _ _ _)))); walk1)))
  rename Fr _ _ _ _ => F; rename News _ _ _ _ => N
  refine c_ways (dp := dp) (un := un) KX T (by exact F.keep) (by lia) (by lia) hBl6.ld (by have := hBl6.lenl; lia) ?_
  intro h7 tk7 wl vwc wcs c7 C2 kp7 hwln hwl hiwc hwcl hcov2 htot
  dsimp only at kp7 hwln
  have F7 := F.keeps kp7
  have N7 := N.keeps kp7
  have N8 := news_free2 F N7 hwln hwl
  have hwlp := ne_free N hwln
  have v1 : @Ne Nat lnu wl := hwlp _ (.tail _ (.head _))
  have v2 : @Ne Nat dx wl := hwlp _ (.tail _ (.tail _ (.head _)))
  have v3 : @Ne Nat pot wl := hwlp _ (.tail _ (.tail _ (.tail _ (.tail _ (.tail _ (.head _))))))
  have v4 : @Ne Nat (L₀ + 1) wl := hwlp _ (.tail _ (.tail _ (.tail _ (.tail _ (.tail _ (.tail _ (.head _)))))))
  clear F N N7 kp7 hwln hwl hBl6
  try dsimp only
  (repeat' (first | ((((fail_if_success (with_reducible show wpAny _ _ (pyIter (Value.ref _)) _ _ _)); (fail_if_success (with_reducible show wpAny _ _ (call (Value.ref _) _) _ _ _)); (fail_if_success (with_reducible show wpAny _ _ (exec (Stmt.While _ _ _ _) _) _ _ _)); (fail_if_success (with_reducible show wpAny _ _ (exec (Stmt.For _ _ _ _ _) _) _ _ _)); (fail_if_success (with_reducible show wpAny _ _ (compareOp _ (Value.ref _) (Value.ref _)) _ _ _)); (fail_if_success (with_reducible show wpAny _ _ (subscriptTail _ _ (Value.ref _) (Value.int _ _)) _ _ _)); (fail_if_success (with_reducible show wpAny _ _ (eval (PySem.Expr.ListComp _ _ _ _) _) _ _ _)); (fail_if_success (with_reducible show wpAny _ _ (call (Value.builtin "len") _) _ _ _)); (fail_if_success (with_reducible show wpAny _ _ (call (Value.builtin "dict.get") _) _ _ _)); (fail_if_success (with_reducible show wpAny _ _ (setItem (Value.ref _) _ _) _ _ _)); (fail_if_success (with_reducible show wpAny _ _ (compareOp CmpOp.In _ (Value.ref _)) _ _ _)))); walk1) | ((((fail_if_success (with_reducible show wpAny _ _ (pyIter (Value.ref _)) _ _ _)); (fail_if_success (with_reducible show wpAny _ _ (call (Value.ref _) _) _ _ _)); (fail_if_success (with_reducible show wpAny _ _ (exec (Stmt.While _ _ _ _) _) _ _ _)); (fail_if_success (with_reducible show wpAny _ _ (exec (Stmt.For _ _ _ _ _) _) _ _ _)); (fail_if_success (with_reducible show wpAny _ _ (compareOp _ (Value.ref _) (Value.ref _)) _ _ _)); (fail_if_success (with_reducible show wpAny _ _ (subscriptTail _ _ (Value.ref _) (Value.int _ _)) _ _ _)); (fail_if_success (with_reducible show wpAny _ _ (eval (PySem.Expr.ListComp _ _ _ _) _) _ _ _)); (fail_if_success (with_reducible show wpAny _ _ (call (Value.builtin "len") _) _ _ _)); (fail_if_success (with_reducible show wpAny _ _ (call (Value.builtin "dict.get") _) _ _ _)); (fail_if_success (with_reducible show wpAny _ _ (setItem (Value.ref _) _ _) _ _ _)); (fail_if_success (with_reducible show wpAny _ _ (compareOp CmpOp.In _ (Value.ref _)) _ _ _)))); dsimp only; (((fail_if_success (with_reducible show wpAny _ _ (pyIter (Value.ref _)) _ _ _)); (fail_if_success (with_reducible show wpAny _ _ (call (Value.ref _) _) _ _ _)); (fail_if_success (with_reducible show wpAny _ _ (exec (Stmt.While _ _ _ _) _) _ _ _)); (fail_if_success (with_reducible show wpAny _ _ (exec (Stmt.For _ _ _ _ _) _) _ _ _)); (fail_if_success (with_reducible show wpAny _ _ (compareOp _ (Value.ref _) (Value.ref _)) _ _ _)); (fail_if_success (with_reducible show wpAny _ _ (subscriptTail _ _ (Value.ref _) (Value.int _ _)) _ _ _)); (fail_if_success (with_reducible show wpAny _ _ (eval (PySem.Expr.ListComp _ _ _ _) _) _ _ _)); (fail_if_success (with_reducible show wpAny _ _ (call (Value.builtin "len") _) _ _ _)); (fail_if_success (with_reducible show wpAny _ _ (call (Value.builtin "dict.get") _) _ _ _)); (fail_if_success (with_reducible show wpAny _ _ (setItem (Value.ref _) _ _) _ _ _)); (fail_if_success (with_reducible show wpAny _ _ (compareOp CmpOp.In _ (Value.ref _)) _ _ _)))); walk1)))
  rename_i nd _ ond _ _ _ hi0 hf0 lnd Dt _ _ _ _ olb hlbc _ _ F N
  replace N := N.tail'
  obtain ⟨s1, s2, s3, s4, s5, s6, s7, s8, s9⟩ := id lnd
  have hoQ : ∀ p ∈ objs, p.1 ≠ nd := fun p hp => Nat.ne_of_lt (allLt_all lnd.2.2.2.2.2.2.2.2 p hp)
  have hsl : shared.length < 2 ^ 20 := by
    have h1 := nodup_le hsn hsm
    have h2 : nodes.length ≤ 7 := by have := (hB3 _ fun p hp => N.get (.tail _ (.tail _ (.tail _ (.tail _ (.tail _ (.tail _ (.tail _ (.tail _ (.tail _ hp)))))))))).len; lia
    exact Nat.lt_of_le_of_lt (Nat.le_trans h1 h2) (by decide)
  refine ListComp_list (by with_unfolding_all rfl) (by decide) rfl (by decide) rfl rfl ?_ (by with_unfolding_all (intro _; rfl))
  refine nameB_L (v := .ref th) F.ns rfl ?_ rfl rfl rfl rfl
  have hBl9 := hB3 _ fun p hp => N.get (.tail _ (.tail _ (.tail _ (.tail _ (.tail _ (.tail _ (.tail _ (.tail _ (.tail _ hp)))))))))
  refine ⟨th, nodes.map Value.ref, fun _ k ys _ => ys = (nodes.take k).map fun a => Value.bool (decide (0 ≤ place shared (.ref a))), rfl, hBl9.th, ⟨by rw [List.length_map]; have := hBl9.len; lia, fun _ _ _ _ _ h _ => h, fun _ => rfl, ?elt⟩, ?fin⟩
  case elt =>
    rintro C0 G k v ys s₃ m₃ hC hv hlen hys hn3 hmx ⟨h10, tk10, rfl⟩ hk10 hG
    dsimp only at hC hn3 hk10 hG
    obtain ⟨a, ha⟩ : ∃ a, nodes[k]? = some a ∧ v = .ref a := by
      rw [List.getElem?_map] at hv
      cases q : nodes[k]? with
      | none => rw [q] at hv; cases hv
      | some a => rw [q] at hv; cases hv; exact ⟨a, rfl, rfl⟩
    obtain ⟨ha, rfl⟩ := ha
    have F10 := F.keeps hk10
    have N10 := N.keeps hk10
    have hol := N10.get (a := L₀ + 1) (o := olb) (by simp)
    have hitm : ∀ a ∈ nodes, Itm h10 (.ref a) := fun a ha => ((hBl9.node a ha).keeps hk10).itm
    clear F N hBl9
    (repeat' (first | ((((fail_if_success (with_reducible show wpAny _ _ (call (Value.ref _) _) _ _ _)); (fail_if_success (with_reducible show wpAny _ _ (eval (PySem.Expr.Name _ _) _) _ _ _)); (fail_if_success (with_reducible show wpAny _ _ (subscriptTail _ _ (Value.ref _) (Value.int _ _)) _ _ _)); (fail_if_success (with_reducible show wpAny _ _ (newList _) _ _ _)); (fail_if_success (with_reducible show Exists _)))); walk1) | ((((fail_if_success (with_reducible show wpAny _ _ (call (Value.ref _) _) _ _ _)); (fail_if_success (with_reducible show wpAny _ _ (eval (PySem.Expr.Name _ _) _) _ _ _)); (fail_if_success (with_reducible show wpAny _ _ (subscriptTail _ _ (Value.ref _) (Value.int _ _)) _ _ _)); (fail_if_success (with_reducible show wpAny _ _ (newList _) _ _ _)); (fail_if_success (with_reducible show Exists _)))); dsimp only; (((fail_if_success (with_reducible show wpAny _ _ (call (Value.ref _) _) _ _ _)); (fail_if_success (with_reducible show wpAny _ _ (eval (PySem.Expr.Name _ _) _) _ _ _)); (fail_if_success (with_reducible show wpAny _ _ (subscriptTail _ _ (Value.ref _) (Value.int _ _)) _ _ _)); (fail_if_success (with_reducible show wpAny _ _ (newList _) _ _ _)); (fail_if_success (with_reducible show Exists _)))); walk1)))
    refine nameB_C (c := L₀ + 1) rfl hol hlbc ?_ rfl rfl rfl
    (repeat' (first | ((((fail_if_success (with_reducible show wpAny _ _ (call (Value.ref _) _) _ _ _)); (fail_if_success (with_reducible show wpAny _ _ (eval (PySem.Expr.Name _ _) _) _ _ _)); (fail_if_success (with_reducible show wpAny _ _ (subscriptTail _ _ (Value.ref _) (Value.int _ _)) _ _ _)); (fail_if_success (with_reducible show wpAny _ _ (newList _) _ _ _)); (fail_if_success (with_reducible show Exists _)))); walk1) | ((((fail_if_success (with_reducible show wpAny _ _ (call (Value.ref _) _) _ _ _)); (fail_if_success (with_reducible show wpAny _ _ (eval (PySem.Expr.Name _ _) _) _ _ _)); (fail_if_success (with_reducible show wpAny _ _ (subscriptTail _ _ (Value.ref _) (Value.int _ _)) _ _ _)); (fail_if_success (with_reducible show wpAny _ _ (newList _) _ _ _)); (fail_if_success (with_reducible show Exists _)))); dsimp only; (((fail_if_success (with_reducible show wpAny _ _ (call (Value.ref _) _) _ _ _)); (fail_if_success (with_reducible show wpAny _ _ (eval (PySem.Expr.Name _ _) _) _ _ _)); (fail_if_success (with_reducible show wpAny _ _ (subscriptTail _ _ (Value.ref _) (Value.int _ _)) _ _ _)); (fail_if_success (with_reducible show wpAny _ _ (newList _) _ _ _)); (fail_if_success (with_reducible show Exists _)))); walk1)))
    refine nameB_L hn3 hmx ?_ rfl rfl rfl rfl
    (repeat' (first | ((((fail_if_success (with_reducible show wpAny _ _ (call (Value.ref _) _) _ _ _)); (fail_if_success (with_reducible show wpAny _ _ (eval (PySem.Expr.Name _ _) _) _ _ _)); (fail_if_success (with_reducible show wpAny _ _ (subscriptTail _ _ (Value.ref _) (Value.int _ _)) _ _ _)); (fail_if_success (with_reducible show wpAny _ _ (newList _) _ _ _)); (fail_if_success (with_reducible show Exists _)))); walk1) | ((((fail_if_success (with_reducible show wpAny _ _ (call (Value.ref _) _) _ _ _)); (fail_if_success (with_reducible show wpAny _ _ (eval (PySem.Expr.Name _ _) _) _ _ _)); (fail_if_success (with_reducible show wpAny _ _ (subscriptTail _ _ (Value.ref _) (Value.int _ _)) _ _ _)); (fail_if_success (with_reducible show wpAny _ _ (newList _) _ _ _)); (fail_if_success (with_reducible show Exists _)))); dsimp only; (((fail_if_success (with_reducible show wpAny _ _ (call (Value.ref _) _) _ _ _)); (fail_if_success (with_reducible show wpAny _ _ (eval (PySem.Expr.Name _ _) _) _ _ _)); (fail_if_success (with_reducible show wpAny _ _ (subscriptTail _ _ (Value.ref _) (Value.int _ _)) _ _ _)); (fail_if_success (with_reducible show wpAny _ _ (newList _) _ _ _)); (fail_if_success (with_reducible show Exists _)))); walk1)))
    refine c_has (dp := dp) (un := un) (lsh := lsh) (as := shared) KX T (by exact F10.keep) (by lia) (by lia) (N10.get (a := lb) (o := instObj 175 dx) (by simp)) (N10.get (.tail _ (.tail _ (.tail _ (.tail _ (.head _)))))) (News.isList N10 (.tail _ (.tail _ (.head _)))) hsl (hitm a (List.mem_of_getElem? ha)) (fun b hb => hitm b (hsm b hb)) ?_
    intro h11 tk11 kp11
    refine ⟨_, _, rfl, kp11, ?_⟩
    rw [hys, List.take_add_one, ha]
    simp
  case fin =>
    rintro D9 G9 h9 tk9 bs1 cD9 hD9 hget9 hl9 hbs1 kp9
    dsimp only at hD9 kp9
    rw [List.length_map, List.take_length] at hbs1
    have F9 := F.keeps kp9
    have N9 := news_add F N kp9 hget9 hD9
    have hbs1' : bs1 = (nodes.map fun a => decide (0 ≤ place shared (.ref a))).map Value.bool := by rw [hbs1, List.map_map]; rfl
    clear F N hget9 hl9 hbs1
    refine ListComp_list (by with_unfolding_all rfl) (by decide) rfl (by decide) rfl rfl ?_ (by with_unfolding_all (intro _; rfl))
    refine nameB_L (v := .ref wl) F9.ns rfl ?_ rfl rfl rfl rfl
    refine ⟨wl, vwc, fun _ k ys _ => ys = (wcs.take k).map fun e => Value.bool (decide (1 < e)), rfl, News.isList N9 (.tail _ (.tail _ (.head _))), ⟨by have h1 := hiwc.length; have h2 := hBl9.ld.small; lia, fun _ _ _ _ _ h _ => h, fun _ => rfl, ?elt⟩, ?fin⟩
    case elt =>
      rintro C0 G k v ys s₃ m₃ hC hv hlen hys hn3 hmx ⟨h10, tk10, rfl⟩ hk10 hG
      obtain ⟨e, te, rfl, hle⟩ := hiwc.at k v hv
      clear F9 N9
      (repeat' (first | ((((fail_if_success (with_reducible show wpAny _ _ (call (Value.ref _) _) _ _ _)); (fail_if_success (with_reducible show wpAny _ _ (eval (PySem.Expr.Name _ _) _) _ _ _)); (fail_if_success (with_reducible show wpAny _ _ (subscriptTail _ _ (Value.ref _) (Value.int _ _)) _ _ _)); (fail_if_success (with_reducible show wpAny _ _ (newList _) _ _ _)); (fail_if_success (with_reducible show Exists _)))); walk1) | ((((fail_if_success (with_reducible show wpAny _ _ (call (Value.ref _) _) _ _ _)); (fail_if_success (with_reducible show wpAny _ _ (eval (PySem.Expr.Name _ _) _) _ _ _)); (fail_if_success (with_reducible show wpAny _ _ (subscriptTail _ _ (Value.ref _) (Value.int _ _)) _ _ _)); (fail_if_success (with_reducible show wpAny _ _ (newList _) _ _ _)); (fail_if_success (with_reducible show Exists _)))); dsimp only; (((fail_if_success (with_reducible show wpAny _ _ (call (Value.ref _) _) _ _ _)); (fail_if_success (with_reducible show wpAny _ _ (eval (PySem.Expr.Name _ _) _) _ _ _)); (fail_if_success (with_reducible show wpAny _ _ (subscriptTail _ _ (Value.ref _) (Value.int _ _)) _ _ _)); (fail_if_success (with_reducible show wpAny _ _ (newList _) _ _ _)); (fail_if_success (with_reducible show Exists _)))); walk1)))
      refine nameB_L hn3 hmx ?_ rfl rfl rfl rfl
      (repeat' (first | ((((fail_if_success (with_reducible show wpAny _ _ (call (Value.ref _) _) _ _ _)); (fail_if_success (with_reducible show wpAny _ _ (eval (PySem.Expr.Name _ _) _) _ _ _)); (fail_if_success (with_reducible show wpAny _ _ (subscriptTail _ _ (Value.ref _) (Value.int _ _)) _ _ _)); (fail_if_success (with_reducible show wpAny _ _ (newList _) _ _ _)); (fail_if_success (with_reducible show Exists _)))); walk1) | ((((fail_if_success (with_reducible show wpAny _ _ (call (Value.ref _) _) _ _ _)); (fail_if_success (with_reducible show wpAny _ _ (eval (PySem.Expr.Name _ _) _) _ _ _)); (fail_if_success (with_reducible show wpAny _ _ (subscriptTail _ _ (Value.ref _) (Value.int _ _)) _ _ _)); (fail_if_success (with_reducible show wpAny _ _ (newList _) _ _ _)); (fail_if_success (with_reducible show Exists _)))); dsimp only; (((fail_if_success (with_reducible show wpAny _ _ (call (Value.ref _) _) _ _ _)); (fail_if_success (with_reducible show wpAny _ _ (eval (PySem.Expr.Name _ _) _) _ _ _)); (fail_if_success (with_reducible show wpAny _ _ (subscriptTail _ _ (Value.ref _) (Value.int _ _)) _ _ _)); (fail_if_success (with_reducible show wpAny _ _ (newList _) _ _ _)); (fail_if_success (with_reducible show Exists _)))); walk1)))
      refine ⟨_, _, rfl, fun b o e => e, ?_⟩
      rw [hys, List.take_add_one, hle]
      simp
    case fin =>
      rintro D10 G10 h10 tk10 bs2 cD10 hD10 hget10 hl10 hbs2 kp10
      dsimp only at hD10 kp10
      rw [← hiwc.length.symm, List.take_length] at hbs2
      have F10 := F9.keeps kp10
      have N10 := news_add F9 N9 kp10 hget10 hD10
      clear F9 N9 hget10 hl10
      have hkey : ∀ (i : Nat) (a : Addr) (e : Int), nodes[i]? = some a → wcs[i]? = some e → (a ∈ shared ↔ 1 < e) := fun i a e h1 h2 => by
        have h3 := htot i (by have := (List.getElem?_eq_some_iff.mp h2).1; lia)
        rw [h2] at h3
        have h4 := hBl9.same ha0 hcov hcov2 h1
        rw [hsh a, h4]
        cases h3
        lia
      have hwn : wcs.length = nodes.length := by rw [hwcl, hBl9.lenl]
      have hbb := bools_same hwn hkey
      have hbs2' : bs2 = (nodes.map fun a => decide (0 ≤ place shared (.ref a))).map Value.bool := by rw [hbs2, ← hbb, List.map_map]; rfl
      subst hbs1' hbs2'
      refine ne_bools (bs := nodes.map fun a => decide (0 ≤ place shared (.ref a))) (News.isList N10 (.tail _ (.head _))) (News.isList N10 (.head _)) (by show un + 64 < cLine; lia) ?_
      have F := F10
      have N := N10.tail'.tail'
      clear F10 N10 hbs2 hbb hcov hcov2 hsh htot
      try dsimp only
      (repeat' (first | ((((fail_if_success (with_reducible show wpAny _ _ (pyIter (Value.ref _)) _ _ _)); (fail_if_success (with_reducible show wpAny _ _ (call (Value.ref _) _) _ _ _)); (fail_if_success (with_reducible show wpAny _ _ (exec (Stmt.While _ _ _ _) _) _ _ _)); (fail_if_success (with_reducible show wpAny _ _ (exec (Stmt.For _ _ _ _ _) _) _ _ _)); (fail_if_success (with_reducible show wpAny _ _ (compareOp _ (Value.ref _) (Value.ref _)) _ _ _)); (fail_if_success (with_reducible show wpAny _ _ (subscriptTail _ _ (Value.ref _) (Value.int _ _)) _ _ _)); (fail_if_success (with_reducible show wpAny _ _ (eval (PySem.Expr.ListComp _ _ _ _) _) _ _ _)); (fail_if_success (with_reducible show wpAny _ _ (call (Value.builtin "len") _) _ _ _)); (fail_if_success (with_reducible show wpAny _ _ (call (Value.builtin "dict.get") _) _ _ _)); (fail_if_success (with_reducible show wpAny _ _ (setItem (Value.ref _) _ _) _ _ _)); (fail_if_success (with_reducible show wpAny _ _ (compareOp CmpOp.In _ (Value.ref _)) _ _ _)))); walk1) | ((((fail_if_success (with_reducible show wpAny _ _ (pyIter (Value.ref _)) _ _ _)); (fail_if_success (with_reducible show wpAny _ _ (call (Value.ref _) _) _ _ _)); (fail_if_success (with_reducible show wpAny _ _ (exec (Stmt.While _ _ _ _) _) _ _ _)); (fail_if_success (with_reducible show wpAny _ _ (exec (Stmt.For _ _ _ _ _) _) _ _ _)); (fail_if_success (with_reducible show wpAny _ _ (compareOp _ (Value.ref _) (Value.ref _)) _ _ _)); (fail_if_success (with_reducible show wpAny _ _ (subscriptTail _ _ (Value.ref _) (Value.int _ _)) _ _ _)); (fail_if_success (with_reducible show wpAny _ _ (eval (PySem.Expr.ListComp _ _ _ _) _) _ _ _)); (fail_if_success (with_reducible show wpAny _ _ (call (Value.builtin "len") _) _ _ _)); (fail_if_success (with_reducible show wpAny _ _ (call (Value.builtin "dict.get") _) _ _ _)); (fail_if_success (with_reducible show wpAny _ _ (setItem (Value.ref _) _ _) _ _ _)); (fail_if_success (with_reducible show wpAny _ _ (compareOp CmpOp.In _ (Value.ref _)) _ _ _)))); dsimp only; (((fail_if_success (with_reducible show wpAny _ _ (pyIter (Value.ref _)) _ _ _)); (fail_if_success (with_reducible show wpAny _ _ (call (Value.ref _) _) _ _ _)); (fail_if_success (with_reducible show wpAny _ _ (exec (Stmt.While _ _ _ _) _) _ _ _)); (fail_if_success (with_reducible show wpAny _ _ (exec (Stmt.For _ _ _ _ _) _) _ _ _)); (fail_if_success (with_reducible show wpAny _ _ (compareOp _ (Value.ref _) (Value.ref _)) _ _ _)); (fail_if_success (with_reducible show wpAny _ _ (subscriptTail _ _ (Value.ref _) (Value.int _ _)) _ _ _)); (fail_if_success (with_reducible show wpAny _ _ (eval (PySem.Expr.ListComp _ _ _ _) _) _ _ _)); (fail_if_success (with_reducible show wpAny _ _ (call (Value.builtin "len") _) _ _ _)); (fail_if_success (with_reducible show wpAny _ _ (call (Value.builtin "dict.get") _) _ _ _)); (fail_if_success (with_reducible show wpAny _ _ (setItem (Value.ref _) _ _) _ _ _)); (fail_if_success (with_reducible show wpAny _ _ (compareOp CmpOp.In _ (Value.ref _)) _ _ _)))); walk1)))
      have hitm : ∀ {h0 h : Heap}, Built h0 h many th ld nodes parts lead → ∀ a ∈ nodes, Itm h (.ref a) := fun b a ha => (b.node a ha).itm
      have hp7 : ∀ t, decide (0 ≤ place shared (.int 7 t)) = false := fun t => by simp [place]
      have hp37 : decide (0 ≤ place shared (.ref 37)) = false := by
        rw [decide_eq_false_iff_not, place_iff]
        intro q
        have := hBl9.new 37 (hsm 37 q)
        rw [h37b] at this; cases this
      rename Fr _ _ _ _ => F; rename News _ _ _ _ => N
      have hBl := hB3 _ fun p hp => N.get (.tail _ (.tail _ (.tail _ (.tail _ (.tail _ (.tail _ (.tail _ (.tail _ (.tail _ hp)))))))))
      refine c_has (dp := dp) (un := un) (lsh := lsh) (as := shared) KX T (by exact F.keep) (by lia) (by lia) (N.get (a := lb) (o := instObj 175 dx) (by simp)) (N.get (.tail _ (.tail _ (.tail _ (.tail _ (.head _)))))) (News.isList N (.tail _ (.tail _ (.head _)))) hsl (.inl ⟨_, _, rfl⟩) (fun b hb => hitm hBl b (hsm b hb)) ?_
      intro h11 tk11 kp11
      rw [hp7]
      have F11 := F.keeps kp11
      have N11 := N.keeps kp11
      clear F N hBl kp11
      try dsimp only
      (repeat' (first | ((((fail_if_success (with_reducible show wpAny _ _ (pyIter (Value.ref _)) _ _ _)); (fail_if_success (with_reducible show wpAny _ _ (call (Value.ref _) _) _ _ _)); (fail_if_success (with_reducible show wpAny _ _ (exec (Stmt.While _ _ _ _) _) _ _ _)); (fail_if_success (with_reducible show wpAny _ _ (exec (Stmt.For _ _ _ _ _) _) _ _ _)); (fail_if_success (with_reducible show wpAny _ _ (compareOp _ (Value.ref _) (Value.ref _)) _ _ _)); (fail_if_success (with_reducible show wpAny _ _ (subscriptTail _ _ (Value.ref _) (Value.int _ _)) _ _ _)); (fail_if_success (with_reducible show wpAny _ _ (eval (PySem.Expr.ListComp _ _ _ _) _) _ _ _)); (fail_if_success (with_reducible show wpAny _ _ (call (Value.builtin "len") _) _ _ _)); (fail_if_success (with_reducible show wpAny _ _ (call (Value.builtin "dict.get") _) _ _ _)); (fail_if_success (with_reducible show wpAny _ _ (setItem (Value.ref _) _ _) _ _ _)); (fail_if_success (with_reducible show wpAny _ _ (compareOp CmpOp.In _ (Value.ref _)) _ _ _)))); walk1) | ((((fail_if_success (with_reducible show wpAny _ _ (pyIter (Value.ref _)) _ _ _)); (fail_if_success (with_reducible show wpAny _ _ (call (Value.ref _) _) _ _ _)); (fail_if_success (with_reducible show wpAny _ _ (exec (Stmt.While _ _ _ _) _) _ _ _)); (fail_if_success (with_reducible show wpAny _ _ (exec (Stmt.For _ _ _ _ _) _) _ _ _)); (fail_if_success (with_reducible show wpAny _ _ (compareOp _ (Value.ref _) (Value.ref _)) _ _ _)); (fail_if_success (with_reducible show wpAny _ _ (subscriptTail _ _ (Value.ref _) (Value.int _ _)) _ _ _)); (fail_if_success (with_reducible show wpAny _ _ (eval (PySem.Expr.ListComp _ _ _ _) _) _ _ _)); (fail_if_success (with_reducible show wpAny _ _ (call (Value.builtin "len") _) _ _ _)); (fail_if_success (with_reducible show wpAny _ _ (call (Value.builtin "dict.get") _) _ _ _)); (fail_if_success (with_reducible show wpAny _ _ (setItem (Value.ref _) _ _) _ _ _)); (fail_if_success (with_reducible show wpAny _ _ (compareOp CmpOp.In _ (Value.ref _)) _ _ _)))); dsimp only; (((fail_if_success (with_reducible show wpAny _ _ (pyIter (Value.ref _)) _ _ _)); (fail_if_success (with_reducible show wpAny _ _ (call (Value.ref _) _) _ _ _)); (fail_if_success (with_reducible show wpAny _ _ (exec (Stmt.While _ _ _ _) _) _ _ _)); (fail_if_success (with_reducible show wpAny _ _ (exec (Stmt.For _ _ _ _ _) _) _ _ _)); (fail_if_success (with_reducible show wpAny _ _ (compareOp _ (Value.ref _) (Value.ref _)) _ _ _)); (fail_if_success (with_reducible show wpAny _ _ (subscriptTail _ _ (Value.ref _) (Value.int _ _)) _ _ _)); (fail_if_success (with_reducible show wpAny _ _ (eval (PySem.Expr.ListComp _ _ _ _) _) _ _ _)); (fail_if_success (with_reducible show wpAny _ _ (call (Value.builtin "len") _) _ _ _)); (fail_if_success (with_reducible show wpAny _ _ (call (Value.builtin "dict.get") _) _ _ _)); (fail_if_success (with_reducible show wpAny _ _ (setItem (Value.ref _) _ _) _ _ _)); (fail_if_success (with_reducible show wpAny _ _ (compareOp CmpOp.In _ (Value.ref _)) _ _ _)))); walk1)))
      rename Fr _ _ _ _ => F; rename News _ _ _ _ => N
      have hBl := hB3 _ fun p hp => N.get (.tail _ (.tail _ (.tail _ (.tail _ (.tail _ (.tail _ (.tail _ (.tail _ (.tail _ hp)))))))))
      refine c_has (dp := dp) (un := un) (lsh := lsh) (as := shared) KX T (by exact F.keep) (by lia) (by lia) (N.get (a := lb) (o := instObj 175 dx) (by simp)) (N.get (.tail _ (.tail _ (.tail _ (.tail _ (.head _)))))) (News.isList N (.tail _ (.tail _ (.head _)))) hsl (.inr ⟨37, o37, rfl, F.keep _ _ h37, hc37⟩) (fun b hb => hitm hBl b (hsm b hb)) ?_
      intro h12 tk12 kp12
      rw [hp37]
      have F12 := F.keeps kp12
      have N12 := N.keeps kp12
      clear F N hBl kp12
      try dsimp only
      (repeat' (first | ((((fail_if_success (with_reducible show wpAny _ _ (pyIter (Value.ref _)) _ _ _)); (fail_if_success (with_reducible show wpAny _ _ (call (Value.ref _) _) _ _ _)); (fail_if_success (with_reducible show wpAny _ _ (exec (Stmt.While _ _ _ _) _) _ _ _)); (fail_if_success (with_reducible show wpAny _ _ (exec (Stmt.For _ _ _ _ _) _) _ _ _)); (fail_if_success (with_reducible show wpAny _ _ (compareOp _ (Value.ref _) (Value.ref _)) _ _ _)); (fail_if_success (with_reducible show wpAny _ _ (subscriptTail _ _ (Value.ref _) (Value.int _ _)) _ _ _)); (fail_if_success (with_reducible show wpAny _ _ (eval (PySem.Expr.ListComp _ _ _ _) _) _ _ _)); (fail_if_success (with_reducible show wpAny _ _ (call (Value.builtin "len") _) _ _ _)); (fail_if_success (with_reducible show wpAny _ _ (call (Value.builtin "dict.get") _) _ _ _)); (fail_if_success (with_reducible show wpAny _ _ (setItem (Value.ref _) _ _) _ _ _)); (fail_if_success (with_reducible show wpAny _ _ (compareOp CmpOp.In _ (Value.ref _)) _ _ _)))); walk1) | ((((fail_if_success (with_reducible show wpAny _ _ (pyIter (Value.ref _)) _ _ _)); (fail_if_success (with_reducible show wpAny _ _ (call (Value.ref _) _) _ _ _)); (fail_if_success (with_reducible show wpAny _ _ (exec (Stmt.While _ _ _ _) _) _ _ _)); (fail_if_success (with_reducible show wpAny _ _ (exec (Stmt.For _ _ _ _ _) _) _ _ _)); (fail_if_success (with_reducible show wpAny _ _ (compareOp _ (Value.ref _) (Value.ref _)) _ _ _)); (fail_if_success (with_reducible show wpAny _ _ (subscriptTail _ _ (Value.ref _) (Value.int _ _)) _ _ _)); (fail_if_success (with_reducible show wpAny _ _ (eval (PySem.Expr.ListComp _ _ _ _) _) _ _ _)); (fail_if_success (with_reducible show wpAny _ _ (call (Value.builtin "len") _) _ _ _)); (fail_if_success (with_reducible show wpAny _ _ (call (Value.builtin "dict.get") _) _ _ _)); (fail_if_success (with_reducible show wpAny _ _ (setItem (Value.ref _) _ _) _ _ _)); (fail_if_success (with_reducible show wpAny _ _ (compareOp CmpOp.In _ (Value.ref _)) _ _ _)))); dsimp only; (((fail_if_success (with_reducible show wpAny _ _ (pyIter (Value.ref _)) _ _ _)); (fail_if_success (with_reducible show wpAny _ _ (call (Value.ref _) _) _ _ _)); (fail_if_success (with_reducible show wpAny _ _ (exec (Stmt.While _ _ _ _) _) _ _ _)); (fail_if_success (with_reducible show wpAny _ _ (exec (Stmt.For _ _ _ _ _) _) _ _ _)); (fail_if_success (with_reducible show wpAny _ _ (compareOp _ (Value.ref _) (Value.ref _)) _ _ _)); (fail_if_success (with_reducible show wpAny _ _ (subscriptTail _ _ (Value.ref _) (Value.int _ _)) _ _ _)); (fail_if_success (with_reducible show wpAny _ _ (eval (PySem.Expr.ListComp _ _ _ _) _) _ _ _)); (fail_if_success (with_reducible show wpAny _ _ (call (Value.builtin "len") _) _ _ _)); (fail_if_success (with_reducible show wpAny _ _ (call (Value.builtin "dict.get") _) _ _ _)); (fail_if_success (with_reducible show wpAny _ _ (setItem (Value.ref _) _ _) _ _ _)); (fail_if_success (with_reducible show wpAny _ _ (compareOp CmpOp.In _ (Value.ref _)) _ _ _)))); walk1)))
      rename Fr _ _ _ _ => F; rename News _ _ _ _ => N
      refine len_list (News.isList N (.tail _ (.tail _ (.head _)))) (by simp; lia) ?_
      (repeat' (first | ((((fail_if_success (with_reducible show wpAny _ _ (pyIter (Value.ref _)) _ _ _)); (fail_if_success (with_reducible show wpAny _ _ (call (Value.ref _) _) _ _ _)); (fail_if_success (with_reducible show wpAny _ _ (exec (Stmt.While _ _ _ _) _) _ _ _)); (fail_if_success (with_reducible show wpAny _ _ (exec (Stmt.For _ _ _ _ _) _) _ _ _)); (fail_if_success (with_reducible show wpAny _ _ (compareOp _ (Value.ref _) (Value.ref _)) _ _ _)); (fail_if_success (with_reducible show wpAny _ _ (subscriptTail _ _ (Value.ref _) (Value.int _ _)) _ _ _)); (fail_if_success (with_reducible show wpAny _ _ (eval (PySem.Expr.ListComp _ _ _ _) _) _ _ _)); (fail_if_success (with_reducible show wpAny _ _ (call (Value.builtin "len") _) _ _ _)); (fail_if_success (with_reducible show wpAny _ _ (call (Value.builtin "dict.get") _) _ _ _)); (fail_if_success (with_reducible show wpAny _ _ (setItem (Value.ref _) _ _) _ _ _)); (fail_if_success (with_reducible show wpAny _ _ (compareOp CmpOp.In _ (Value.ref _)) _ _ _)))); walk1) | ((((fail_if_success (with_reducible show wpAny _ _ (pyIter (Value.ref _)) _ _ _)); (fail_if_success (with_reducible show wpAny _ _ (call (Value.ref _) _) _ _ _)); (fail_if_success (with_reducible show wpAny _ _ (exec (Stmt.While _ _ _ _) _) _ _ _)); (fail_if_success (with_reducible show wpAny _ _ (exec (Stmt.For _ _ _ _ _) _) _ _ _)); (fail_if_success (with_reducible show wpAny _ _ (compareOp _ (Value.ref _) (Value.ref _)) _ _ _)); (fail_if_success (with_reducible show wpAny _ _ (subscriptTail _ _ (Value.ref _) (Value.int _ _)) _ _ _)); (fail_if_success (with_reducible show wpAny _ _ (eval (PySem.Expr.ListComp _ _ _ _) _) _ _ _)); (fail_if_success (with_reducible show wpAny _ _ (call (Value.builtin "len") _) _ _ _)); (fail_if_success (with_reducible show wpAny _ _ (call (Value.builtin "dict.get") _) _ _ _)); (fail_if_success (with_reducible show wpAny _ _ (setItem (Value.ref _) _ _) _ _ _)); (fail_if_success (with_reducible show wpAny _ _ (compareOp CmpOp.In _ (Value.ref _)) _ _ _)))); dsimp only; (((fail_if_success (with_reducible show wpAny _ _ (pyIter (Value.ref _)) _ _ _)); (fail_if_success (with_reducible show wpAny _ _ (call (Value.ref _) _) _ _ _)); (fail_if_success (with_reducible show wpAny _ _ (exec (Stmt.While _ _ _ _) _) _ _ _)); (fail_if_success (with_reducible show wpAny _ _ (exec (Stmt.For _ _ _ _ _) _) _ _ _)); (fail_if_success (with_reducible show wpAny _ _ (compareOp _ (Value.ref _) (Value.ref _)) _ _ _)); (fail_if_success (with_reducible show wpAny _ _ (subscriptTail _ _ (Value.ref _) (Value.int _ _)) _ _ _)); (fail_if_success (with_reducible show wpAny _ _ (eval (PySem.Expr.ListComp _ _ _ _) _) _ _ _)); (fail_if_success (with_reducible show wpAny _ _ (call (Value.builtin "len") _) _ _ _)); (fail_if_success (with_reducible show wpAny _ _ (call (Value.builtin "dict.get") _) _ _ _)); (fail_if_success (with_reducible show wpAny _ _ (setItem (Value.ref _) _ _) _ _ _)); (fail_if_success (with_reducible show wpAny _ _ (compareOp CmpOp.In _ (Value.ref _)) _ _ _)))); walk1)))
      rename Fr _ _ _ _ => F; rename News _ _ _ _ => N
      refine ListComp_filter (by with_unfolding_all rfl) (by decide) rfl (by decide) rfl rfl ?_ (by with_unfolding_all (intro _; rfl))
      refine nameB_L (v := .ref wl) F.ns rfl ?_ rfl rfl rfl rfl
      refine ⟨wl, vwc, fun i => decide (1 < wcs.getD i 0), rfl, News.isList N (.tail _ (.head _)), by have h1 := hiwc.length; have h2 := hBl9.ld.small; lia, ?tst, ?elt, ?fin⟩
      case tst =>
        intro C0 i v s₂ m₂ hv hn2 hm2
        obtain ⟨e, te, rfl, hle⟩ := hiwc.at i v hv
        clear F N
        (repeat' (first | ((((((fail_if_success (with_reducible show wpAny _ _ (call (Value.ref _) _) _ _ _)); (fail_if_success (with_reducible show wpAny _ _ (eval (PySem.Expr.Name _ _) _) _ _ _)); (fail_if_success (with_reducible show wpAny _ _ (subscriptTail _ _ (Value.ref _) (Value.int _ _)) _ _ _)); (fail_if_success (with_reducible show wpAny _ _ (newList _) _ _ _)); (fail_if_success (with_reducible show Exists _)))); (fail_if_success (with_reducible show And _ _)))); walk1) | ((((((fail_if_success (with_reducible show wpAny _ _ (call (Value.ref _) _) _ _ _)); (fail_if_success (with_reducible show wpAny _ _ (eval (PySem.Expr.Name _ _) _) _ _ _)); (fail_if_success (with_reducible show wpAny _ _ (subscriptTail _ _ (Value.ref _) (Value.int _ _)) _ _ _)); (fail_if_success (with_reducible show wpAny _ _ (newList _) _ _ _)); (fail_if_success (with_reducible show Exists _)))); (fail_if_success (with_reducible show And _ _)))); dsimp only; (((((fail_if_success (with_reducible show wpAny _ _ (call (Value.ref _) _) _ _ _)); (fail_if_success (with_reducible show wpAny _ _ (eval (PySem.Expr.Name _ _) _) _ _ _)); (fail_if_success (with_reducible show wpAny _ _ (subscriptTail _ _ (Value.ref _) (Value.int _ _)) _ _ _)); (fail_if_success (with_reducible show wpAny _ _ (newList _) _ _ _)); (fail_if_success (with_reducible show Exists _)))); (fail_if_success (with_reducible show And _ _)))); walk1)))
        refine nameB_L hn2 hm2 ?_ rfl rfl rfl rfl
        (repeat' (first | ((((((fail_if_success (with_reducible show wpAny _ _ (call (Value.ref _) _) _ _ _)); (fail_if_success (with_reducible show wpAny _ _ (eval (PySem.Expr.Name _ _) _) _ _ _)); (fail_if_success (with_reducible show wpAny _ _ (subscriptTail _ _ (Value.ref _) (Value.int _ _)) _ _ _)); (fail_if_success (with_reducible show wpAny _ _ (newList _) _ _ _)); (fail_if_success (with_reducible show Exists _)))); (fail_if_success (with_reducible show And _ _)))); walk1) | ((((((fail_if_success (with_reducible show wpAny _ _ (call (Value.ref _) _) _ _ _)); (fail_if_success (with_reducible show wpAny _ _ (eval (PySem.Expr.Name _ _) _) _ _ _)); (fail_if_success (with_reducible show wpAny _ _ (subscriptTail _ _ (Value.ref _) (Value.int _ _)) _ _ _)); (fail_if_success (with_reducible show wpAny _ _ (newList _) _ _ _)); (fail_if_success (with_reducible show Exists _)))); (fail_if_success (with_reducible show And _ _)))); dsimp only; (((((fail_if_success (with_reducible show wpAny _ _ (call (Value.ref _) _) _ _ _)); (fail_if_success (with_reducible show wpAny _ _ (eval (PySem.Expr.Name _ _) _) _ _ _)); (fail_if_success (with_reducible show wpAny _ _ (subscriptTail _ _ (Value.ref _) (Value.int _ _)) _ _ _)); (fail_if_success (with_reducible show wpAny _ _ (newList _) _ _ _)); (fail_if_success (with_reducible show Exists _)))); (fail_if_success (with_reducible show And _ _)))); walk1)))
        refine ⟨?_, _, rfl⟩
        show decide (1 < e) = decide (1 < wcs.getD i 0)
        rw [List.getD_eq_getElem?_getD, hle]
        rfl
      case elt =>
        intro C0 s₂
        clear F N
        (repeat' (first | ((((fail_if_success (with_reducible show wpAny _ _ (call (Value.ref _) _) _ _ _)); (fail_if_success (with_reducible show wpAny _ _ (eval (PySem.Expr.Name _ _) _) _ _ _)); (fail_if_success (with_reducible show wpAny _ _ (subscriptTail _ _ (Value.ref _) (Value.int _ _)) _ _ _)); (fail_if_success (with_reducible show wpAny _ _ (newList _) _ _ _)); (fail_if_success (with_reducible show Exists _)))); walk1) | ((((fail_if_success (with_reducible show wpAny _ _ (call (Value.ref _) _) _ _ _)); (fail_if_success (with_reducible show wpAny _ _ (eval (PySem.Expr.Name _ _) _) _ _ _)); (fail_if_success (with_reducible show wpAny _ _ (subscriptTail _ _ (Value.ref _) (Value.int _ _)) _ _ _)); (fail_if_success (with_reducible show wpAny _ _ (newList _) _ _ _)); (fail_if_success (with_reducible show Exists _)))); dsimp only; (((fail_if_success (with_reducible show wpAny _ _ (call (Value.ref _) _) _ _ _)); (fail_if_success (with_reducible show wpAny _ _ (eval (PySem.Expr.Name _ _) _) _ _ _)); (fail_if_success (with_reducible show wpAny _ _ (subscriptTail _ _ (Value.ref _) (Value.int _ _)) _ _ _)); (fail_if_success (with_reducible show wpAny _ _ (newList _) _ _ _)); (fail_if_success (with_reducible show Exists _)))); walk1)))
        exact ⟨_, rfl⟩
      case fin =>
        rintro D9 h13 tk13 zs cD9 hD9 hget9 hl9 kp9
        dsimp only at hD9 kp9
        have F13 := F.keeps kp9
        have N13 := news_add F N kp9 hget9 hD9
        rw [hiwc.length, filter_len hwn hBl9.nd hsn hsm hkey] at hl9
        clear F N hget9
        try dsimp only
        (repeat' (first | ((((fail_if_success (with_reducible show wpAny _ _ (pyIter (Value.ref _)) _ _ _)); (fail_if_success (with_reducible show wpAny _ _ (call (Value.ref _) _) _ _ _)); (fail_if_success (with_reducible show wpAny _ _ (exec (Stmt.While _ _ _ _) _) _ _ _)); (fail_if_success (with_reducible show wpAny _ _ (exec (Stmt.For _ _ _ _ _) _) _ _ _)); (fail_if_success (with_reducible show wpAny _ _ (compareOp _ (Value.ref _) (Value.ref _)) _ _ _)); (fail_if_success (with_reducible show wpAny _ _ (subscriptTail _ _ (Value.ref _) (Value.int _ _)) _ _ _)); (fail_if_success (with_reducible show wpAny _ _ (eval (PySem.Expr.ListComp _ _ _ _) _) _ _ _)); (fail_if_success (with_reducible show wpAny _ _ (call (Value.builtin "len") _) _ _ _)); (fail_if_success (with_reducible show wpAny _ _ (call (Value.builtin "dict.get") _) _ _ _)); (fail_if_success (with_reducible show wpAny _ _ (setItem (Value.ref _) _ _) _ _ _)); (fail_if_success (with_reducible show wpAny _ _ (compareOp CmpOp.In _ (Value.ref _)) _ _ _)))); walk1) | ((((fail_if_success (with_reducible show wpAny _ _ (pyIter (Value.ref _)) _ _ _)); (fail_if_success (with_reducible show wpAny _ _ (call (Value.ref _) _) _ _ _)); (fail_if_success (with_reducible show wpAny _ _ (exec (Stmt.While _ _ _ _) _) _ _ _)); (fail_if_success (with_reducible show wpAny _ _ (exec (Stmt.For _ _ _ _ _) _) _ _ _)); (fail_if_success (with_reducible show wpAny _ _ (compareOp _ (Value.ref _) (Value.ref _)) _ _ _)); (fail_if_success (with_reducible show wpAny _ _ (subscriptTail _ _ (Value.ref _) (Value.int _ _)) _ _ _)); (fail_if_success (with_reducible show wpAny _ _ (eval (PySem.Expr.ListComp _ _ _ _) _) _ _ _)); (fail_if_success (with_reducible show wpAny _ _ (call (Value.builtin "len") _) _ _ _)); (fail_if_success (with_reducible show wpAny _ _ (call (Value.builtin "dict.get") _) _ _ _)); (fail_if_success (with_reducible show wpAny _ _ (setItem (Value.ref _) _ _) _ _ _)); (fail_if_success (with_reducible show wpAny _ _ (compareOp CmpOp.In _ (Value.ref _)) _ _ _)))); dsimp only; (((fail_if_success (with_reducible show wpAny _ _ (pyIter (Value.ref _)) _ _ _)); (fail_if_success (with_reducible show wpAny _ _ (call (Value.ref _) _) _ _ _)); (fail_if_success (with_reducible show wpAny _ _ (exec (Stmt.While _ _ _ _) _) _ _ _)); (fail_if_success (with_reducible show wpAny _ _ (exec (Stmt.For _ _ _ _ _) _) _ _ _)); (fail_if_success (with_reducible show wpAny _ _ (compareOp _ (Value.ref _) (Value.ref _)) _ _ _)); (fail_if_success (with_reducible show wpAny _ _ (subscriptTail _ _ (Value.ref _) (Value.int _ _)) _ _ _)); (fail_if_success (with_reducible show wpAny _ _ (eval (PySem.Expr.ListComp _ _ _ _) _) _ _ _)); (fail_if_success (with_reducible show wpAny _ _ (call (Value.builtin "len") _) _ _ _)); (fail_if_success (with_reducible show wpAny _ _ (call (Value.builtin "dict.get") _) _ _ _)); (fail_if_success (with_reducible show wpAny _ _ (setItem (Value.ref _) _ _) _ _ _)); (fail_if_success (with_reducible show wpAny _ _ (compareOp CmpOp.In _ (Value.ref _)) _ _ _)))); walk1)))
        refine len_list (News.isList N13 (.head _)) (by simp; lia) ?_
        rw [show zs.toArray.size = shared.length by simpa using hl9, show (shared.map Value.ref).toArray.size = shared.length by simp]
        (repeat' (first | ((((fail_if_success (with_reducible show wpAny _ _ (pyIter (Value.ref _)) _ _ _)); (fail_if_success (with_reducible show wpAny _ _ (call (Value.ref _) _) _ _ _)); (fail_if_success (with_reducible show wpAny _ _ (exec (Stmt.While _ _ _ _) _) _ _ _)); (fail_if_success (with_reducible show wpAny _ _ (exec (Stmt.For _ _ _ _ _) _) _ _ _)); (fail_if_success (with_reducible show wpAny _ _ (compareOp _ (Value.ref _) (Value.ref _)) _ _ _)); (fail_if_success (with_reducible show wpAny _ _ (subscriptTail _ _ (Value.ref _) (Value.int _ _)) _ _ _)); (fail_if_success (with_reducible show wpAny _ _ (eval (PySem.Expr.ListComp _ _ _ _) _) _ _ _)); (fail_if_success (with_reducible show wpAny _ _ (call (Value.builtin "len") _) _ _ _)); (fail_if_success (with_reducible show wpAny _ _ (call (Value.builtin "dict.get") _) _ _ _)); (fail_if_success (with_reducible show wpAny _ _ (setItem (Value.ref _) _ _) _ _ _)); (fail_if_success (with_reducible show wpAny _ _ (compareOp CmpOp.In _ (Value.ref _)) _ _ _)))); walk1) | ((((fail_if_success (with_reducible show wpAny _ _ (pyIter (Value.ref _)) _ _ _)); (fail_if_success (with_reducible show wpAny _ _ (call (Value.ref _) _) _ _ _)); (fail_if_success (with_reducible show wpAny _ _ (exec (Stmt.While _ _ _ _) _) _ _ _)); (fail_if_success (with_reducible show wpAny _ _ (exec (Stmt.For _ _ _ _ _) _) _ _ _)); (fail_if_success (with_reducible show wpAny _ _ (compareOp _ (Value.ref _) (Value.ref _)) _ _ _)); (fail_if_success (with_reducible show wpAny _ _ (subscriptTail _ _ (Value.ref _) (Value.int _ _)) _ _ _)); (fail_if_success (with_reducible show wpAny _ _ (eval (PySem.Expr.ListComp _ _ _ _) _) _ _ _)); (fail_if_success (with_reducible show wpAny _ _ (call (Value.builtin "len") _) _ _ _)); (fail_if_success (with_reducible show wpAny _ _ (call (Value.builtin "dict.get") _) _ _ _)); (fail_if_success (with_reducible show wpAny _ _ (setItem (Value.ref _) _ _) _ _ _)); (fail_if_success (with_reducible show wpAny _ _ (compareOp CmpOp.In _ (Value.ref _)) _ _ _)))); dsimp only; (((fail_if_success (with_reducible show wpAny _ _ (pyIter (Value.ref _)) _ _ _)); (fail_if_success (with_reducible show wpAny _ _ (call (Value.ref _) _) _ _ _)); (fail_if_success (with_reducible show wpAny _ _ (exec (Stmt.While _ _ _ _) _) _ _ _)); (fail_if_success (with_reducible show wpAny _ _ (exec (Stmt.For _ _ _ _ _) _) _ _ _)); (fail_if_success (with_reducible show wpAny _ _ (compareOp _ (Value.ref _) (Value.ref _)) _ _ _)); (fail_if_success (with_reducible show wpAny _ _ (subscriptTail _ _ (Value.ref _) (Value.int _ _)) _ _ _)); (fail_if_success (with_reducible show wpAny _ _ (eval (PySem.Expr.ListComp _ _ _ _) _) _ _ _)); (fail_if_success (with_reducible show wpAny _ _ (call (Value.builtin "len") _) _ _ _)); (fail_if_success (with_reducible show wpAny _ _ (call (Value.builtin "dict.get") _) _ _ _)); (fail_if_success (with_reducible show wpAny _ _ (setItem (Value.ref _) _ _) _ _ _)); (fail_if_success (with_reducible show wpAny _ _ (compareOp CmpOp.In _ (Value.ref _)) _ _ _)))); walk1)))
        · rename (¬ _) => q
          exact absurd rfl q
        rename Fr _ _ _ _ => F; rename News _ _ _ _ => N
        replace N := N.tail'
        refine For_invV g₀ rfl rfl ?_
        (repeat' (first | ((((fail_if_success (with_reducible show wpAny _ _ (pyIter (Value.ref _)) _ _ _)); (fail_if_success (with_reducible show wpAny _ _ (call (Value.ref _) _) _ _ _)); (fail_if_success (with_reducible show wpAny _ _ (exec (Stmt.While _ _ _ _) _) _ _ _)); (fail_if_success (with_reducible show wpAny _ _ (exec (Stmt.For _ _ _ _ _) _) _ _ _)); (fail_if_success (with_reducible show wpAny _ _ (compareOp _ (Value.ref _) (Value.ref _)) _ _ _)); (fail_if_success (with_reducible show wpAny _ _ (subscriptTail _ _ (Value.ref _) (Value.int _ _)) _ _ _)); (fail_if_success (with_reducible show wpAny _ _ (eval (PySem.Expr.ListComp _ _ _ _) _) _ _ _)); (fail_if_success (with_reducible show wpAny _ _ (call (Value.builtin "len") _) _ _ _)); (fail_if_success (with_reducible show wpAny _ _ (call (Value.builtin "dict.get") _) _ _ _)); (fail_if_success (with_reducible show wpAny _ _ (setItem (Value.ref _) _ _) _ _ _)); (fail_if_success (with_reducible show wpAny _ _ (compareOp CmpOp.In _ (Value.ref _)) _ _ _)))); walk1) | ((((fail_if_success (with_reducible show wpAny _ _ (pyIter (Value.ref _)) _ _ _)); (fail_if_success (with_reducible show wpAny _ _ (call (Value.ref _) _) _ _ _)); (fail_if_success (with_reducible show wpAny _ _ (exec (Stmt.While _ _ _ _) _) _ _ _)); (fail_if_success (with_reducible show wpAny _ _ (exec (Stmt.For _ _ _ _ _) _) _ _ _)); (fail_if_success (with_reducible show wpAny _ _ (compareOp _ (Value.ref _) (Value.ref _)) _ _ _)); (fail_if_success (with_reducible show wpAny _ _ (subscriptTail _ _ (Value.ref _) (Value.int _ _)) _ _ _)); (fail_if_success (with_reducible show wpAny _ _ (eval (PySem.Expr.ListComp _ _ _ _) _) _ _ _)); (fail_if_success (with_reducible show wpAny _ _ (call (Value.builtin "len") _) _ _ _)); (fail_if_success (with_reducible show wpAny _ _ (call (Value.builtin "dict.get") _) _ _ _)); (fail_if_success (with_reducible show wpAny _ _ (setItem (Value.ref _) _ _) _ _ _)); (fail_if_success (with_reducible show wpAny _ _ (compareOp CmpOp.In _ (Value.ref _)) _ _ _)))); dsimp only; (((fail_if_success (with_reducible show wpAny _ _ (pyIter (Value.ref _)) _ _ _)); (fail_if_success (with_reducible show wpAny _ _ (call (Value.ref _) _) _ _ _)); (fail_if_success (with_reducible show wpAny _ _ (exec (Stmt.While _ _ _ _) _) _ _ _)); (fail_if_success (with_reducible show wpAny _ _ (exec (Stmt.For _ _ _ _ _) _) _ _ _)); (fail_if_success (with_reducible show wpAny _ _ (compareOp _ (Value.ref _) (Value.ref _)) _ _ _)); (fail_if_success (with_reducible show wpAny _ _ (subscriptTail _ _ (Value.ref _) (Value.int _ _)) _ _ _)); (fail_if_success (with_reducible show wpAny _ _ (eval (PySem.Expr.ListComp _ _ _ _) _) _ _ _)); (fail_if_success (with_reducible show wpAny _ _ (call (Value.builtin "len") _) _ _ _)); (fail_if_success (with_reducible show wpAny _ _ (call (Value.builtin "dict.get") _) _ _ _)); (fail_if_success (with_reducible show wpAny _ _ (setItem (Value.ref _) _ _) _ _ _)); (fail_if_success (with_reducible show wpAny _ _ (compareOp CmpOp.In _ (Value.ref _)) _ _ _)))); walk1)))
        rename Fr _ _ _ _ => F; rename News _ _ _ _ => N; rename IsRange _ _ _ _ _ _ _ _ => R
        obtain ⟨M0, hM0, F⟩ : ∃ M, M = _ ∧ Fr g₀ L₀ _ M := ⟨_, rfl, F⟩
        obtain ⟨J, hJ⟩ : ∃ J, J = J3 PySem.Challenge.rw_oj0016_01.row.prog w M0 nd wl lsh lnu dx lb cl pot (L₀ + 1) ocl olb nodes shared vwc c5 c7 H1 H2 H3 k1 k2 k3 objs := ⟨_, rfl⟩
        refine iter_range J rfl R (by decide) (by decide) F N ?hj ?turn ?done rfl
        case hj =>
          rw [hJ]
          refine ⟨M0 (Str.ofString "step"), M0 (Str.ofString "at"), M0 (Str.ofString "due"), ond, [], [], vnu, _, c6, 0, tl, at4, ta4, z4, tz4, c4, ?_, rfl, hi0, hf0, hints, RInv.start _ _, ⟨by lia, by lia⟩, hat4, hz4, hz4'⟩
          have n1 : Str.ofString "at" ≠ Str.ofString "due" := by decide
          have n2 : Str.ofString "step" ≠ Str.ofString "due" := by decide
          have n3 : Str.ofString "step" ≠ Str.ofString "at" := by decide
          funext y
          by_cases y1 : y = Str.ofString "due"
          · simp [y1]
          · by_cases y2 : y = Str.ofString "at"
            · simp [y2, n1]
            · by_cases y3 : y = Str.ofString "step"
              · simp [y3, n2, n3]
              · simp [y1, y2, y3]
        case turn =>
          clear F N R
          rintro i tv m₁ news₁ h14 tk14 I oI hi hJJ F N hneI
          rw [hJ] at hJJ
          obtain ⟨us, ua, ud, ond', kvs, DD, vnu', nums, c6', c, tl', at_, ta, z, tz, c4', rfl, rfl, hdo, hfl, hnu, hR, ⟨hc0, hci⟩, ⟨hat, hz0, hz1⟩⟩ := hJJ
          subst hM0
          simp only [List.forall_mem_cons] at hneI
          obtain ⟨q1, q2, q3, q4, q5, q6, q7, q8, q9, hoI⟩ := hneI
          replace q1 := neN q1; replace q2 := neN q2; replace q3 := neN q3; replace q4 := neN q4; replace q5 := neN q5; replace q6 := neN q6; replace q7 := neN q7; replace q8 := neN q8; replace q9 := neN q9
          (repeat' (first | ((((fail_if_success (with_reducible show wpAny _ _ (pyIter (Value.ref _)) _ _ _)); (fail_if_success (with_reducible show wpAny _ _ (call (Value.ref _) _) _ _ _)); (fail_if_success (with_reducible show wpAny _ _ (exec (Stmt.While _ _ _ _) _) _ _ _)); (fail_if_success (with_reducible show wpAny _ _ (exec (Stmt.For _ _ _ _ _) _) _ _ _)); (fail_if_success (with_reducible show wpAny _ _ (compareOp _ (Value.ref _) (Value.ref _)) _ _ _)); (fail_if_success (with_reducible show wpAny _ _ (subscriptTail _ _ (Value.ref _) (Value.int _ _)) _ _ _)); (fail_if_success (with_reducible show wpAny _ _ (eval (PySem.Expr.ListComp _ _ _ _) _) _ _ _)); (fail_if_success (with_reducible show wpAny _ _ (call (Value.builtin "len") _) _ _ _)); (fail_if_success (with_reducible show wpAny _ _ (call (Value.builtin "dict.get") _) _ _ _)); (fail_if_success (with_reducible show wpAny _ _ (setItem (Value.ref _) _ _) _ _ _)); (fail_if_success (with_reducible show wpAny _ _ (compareOp CmpOp.In _ (Value.ref _)) _ _ _)))); walk1) | ((((fail_if_success (with_reducible show wpAny _ _ (pyIter (Value.ref _)) _ _ _)); (fail_if_success (with_reducible show wpAny _ _ (call (Value.ref _) _) _ _ _)); (fail_if_success (with_reducible show wpAny _ _ (exec (Stmt.While _ _ _ _) _) _ _ _)); (fail_if_success (with_reducible show wpAny _ _ (exec (Stmt.For _ _ _ _ _) _) _ _ _)); (fail_if_success (with_reducible show wpAny _ _ (compareOp _ (Value.ref _) (Value.ref _)) _ _ _)); (fail_if_success (with_reducible show wpAny _ _ (subscriptTail _ _ (Value.ref _) (Value.int _ _)) _ _ _)); (fail_if_success (with_reducible show wpAny _ _ (eval (PySem.Expr.ListComp _ _ _ _) _) _ _ _)); (fail_if_success (with_reducible show wpAny _ _ (call (Value.builtin "len") _) _ _ _)); (fail_if_success (with_reducible show wpAny _ _ (call (Value.builtin "dict.get") _) _ _ _)); (fail_if_success (with_reducible show wpAny _ _ (setItem (Value.ref _) _ _) _ _ _)); (fail_if_success (with_reducible show wpAny _ _ (compareOp CmpOp.In _ (Value.ref _)) _ _ _)))); dsimp only; (((fail_if_success (with_reducible show wpAny _ _ (pyIter (Value.ref _)) _ _ _)); (fail_if_success (with_reducible show wpAny _ _ (call (Value.ref _) _) _ _ _)); (fail_if_success (with_reducible show wpAny _ _ (exec (Stmt.While _ _ _ _) _) _ _ _)); (fail_if_success (with_reducible show wpAny _ _ (exec (Stmt.For _ _ _ _ _) _) _ _ _)); (fail_if_success (with_reducible show wpAny _ _ (compareOp _ (Value.ref _) (Value.ref _)) _ _ _)); (fail_if_success (with_reducible show wpAny _ _ (subscriptTail _ _ (Value.ref _) (Value.int _ _)) _ _ _)); (fail_if_success (with_reducible show wpAny _ _ (eval (PySem.Expr.ListComp _ _ _ _) _) _ _ _)); (fail_if_success (with_reducible show wpAny _ _ (call (Value.builtin "len") _) _ _ _)); (fail_if_success (with_reducible show wpAny _ _ (call (Value.builtin "dict.get") _) _ _ _)); (fail_if_success (with_reducible show wpAny _ _ (setItem (Value.ref _) _ _) _ _ _)); (fail_if_success (with_reducible show wpAny _ _ (compareOp CmpOp.In _ (Value.ref _)) _ _ _)))); walk1)))
          rename Fr _ _ _ _ => F; rename News _ _ _ _ => N
          refine c_dip (dp := dp) (un := un) (pot := pot) (cl := cl) KX T (by exact F.keep) hd2 hu30 (by exact ispot_led N (.tail _ (.tail _ (.tail _ (.tail _ (.tail _ (.tail _ (.tail _ (.tail _ (.head _))))))))) hat hz0 hz1) hgp (by exact hCl _ (N.get (.tail _ (.tail _ (.tail _ (.tail _ (.tail _ (.tail _ (.tail _ (.head _)))))))))) hm1 hm100 ?_
          intro h15 tk15 r tr hk15 hP hr0 hr7
          have F15 := fr_mod F N (.tail _ (.tail _ (.tail _ (.tail _ (.tail _ (.tail _ (.tail _ (.tail _ (.head _))))))))) hk15
          obtain ⟨at5, ta5, z5, tz5, c15, hpe, hat5, hz5, hz5'⟩ := hP
          have N15 := news_upd N (o' := listOf #[.ref cl, .int at5 ta5, .int z5 tz5] c15) (by k_upd) hk15 hpe
          clear F N hk15 hpe hat hz0 hz1
          obtain ⟨k, hk⟩ : ∃ k : Nat, r = (k : Int) := ⟨r.toNat, (Int.toNat_of_nonneg hr0).symm⟩
          subst hk
          have hkn : k < nodes.length := ar_kn hBl9.len hr7
          have hk63 : (k : Int) < 2 ^ 63 := ar_k63 hm7 hr7
          obtain ⟨a, ha⟩ : ∃ a, nodes[k]? = some a := ⟨_, List.getElem?_eq_getElem hkn⟩
          obtain ⟨e, he⟩ : ∃ e, wcs[k]? = some e := ⟨_, List.getElem?_eq_getElem (by rw [hwn]; exact hkn)⟩
          have hae := hkey k a e ha he
          obtain ⟨te, hve⟩ : ∃ te, vwc[k]? = some (.int e te) := by
            have hkv : k < vwc.length := by rw [hiwc.length, hwn]; exact hkn
            obtain ⟨e', te', h1, h2⟩ := hiwc.at k _ (List.getElem?_eq_getElem hkv)
            rw [he] at h2; cases h2
            exact ⟨te', by rw [List.getElem?_eq_getElem hkv, h1]⟩
          (repeat' (first | ((((fail_if_success (with_reducible show wpAny _ _ (pyIter (Value.ref _)) _ _ _)); (fail_if_success (with_reducible show wpAny _ _ (call (Value.ref _) _) _ _ _)); (fail_if_success (with_reducible show wpAny _ _ (exec (Stmt.While _ _ _ _) _) _ _ _)); (fail_if_success (with_reducible show wpAny _ _ (exec (Stmt.For _ _ _ _ _) _) _ _ _)); (fail_if_success (with_reducible show wpAny _ _ (compareOp _ (Value.ref _) (Value.ref _)) _ _ _)); (fail_if_success (with_reducible show wpAny _ _ (subscriptTail _ _ (Value.ref _) (Value.int _ _)) _ _ _)); (fail_if_success (with_reducible show wpAny _ _ (eval (PySem.Expr.ListComp _ _ _ _) _) _ _ _)); (fail_if_success (with_reducible show wpAny _ _ (call (Value.builtin "len") _) _ _ _)); (fail_if_success (with_reducible show wpAny _ _ (call (Value.builtin "dict.get") _) _ _ _)); (fail_if_success (with_reducible show wpAny _ _ (setItem (Value.ref _) _ _) _ _ _)); (fail_if_success (with_reducible show wpAny _ _ (compareOp CmpOp.In _ (Value.ref _)) _ _ _)))); walk1) | ((((fail_if_success (with_reducible show wpAny _ _ (pyIter (Value.ref _)) _ _ _)); (fail_if_success (with_reducible show wpAny _ _ (call (Value.ref _) _) _ _ _)); (fail_if_success (with_reducible show wpAny _ _ (exec (Stmt.While _ _ _ _) _) _ _ _)); (fail_if_success (with_reducible show wpAny _ _ (exec (Stmt.For _ _ _ _ _) _) _ _ _)); (fail_if_success (with_reducible show wpAny _ _ (compareOp _ (Value.ref _) (Value.ref _)) _ _ _)); (fail_if_success (with_reducible show wpAny _ _ (subscriptTail _ _ (Value.ref _) (Value.int _ _)) _ _ _)); (fail_if_success (with_reducible show wpAny _ _ (eval (PySem.Expr.ListComp _ _ _ _) _) _ _ _)); (fail_if_success (with_reducible show wpAny _ _ (call (Value.builtin "len") _) _ _ _)); (fail_if_success (with_reducible show wpAny _ _ (call (Value.builtin "dict.get") _) _ _ _)); (fail_if_success (with_reducible show wpAny _ _ (setItem (Value.ref _) _ _) _ _ _)); (fail_if_success (with_reducible show wpAny _ _ (compareOp CmpOp.In _ (Value.ref _)) _ _ _)))); dsimp only; (((fail_if_success (with_reducible show wpAny _ _ (pyIter (Value.ref _)) _ _ _)); (fail_if_success (with_reducible show wpAny _ _ (call (Value.ref _) _) _ _ _)); (fail_if_success (with_reducible show wpAny _ _ (exec (Stmt.While _ _ _ _) _) _ _ _)); (fail_if_success (with_reducible show wpAny _ _ (exec (Stmt.For _ _ _ _ _) _) _ _ _)); (fail_if_success (with_reducible show wpAny _ _ (compareOp _ (Value.ref _) (Value.ref _)) _ _ _)); (fail_if_success (with_reducible show wpAny _ _ (subscriptTail _ _ (Value.ref _) (Value.int _ _)) _ _ _)); (fail_if_success (with_reducible show wpAny _ _ (eval (PySem.Expr.ListComp _ _ _ _) _) _ _ _)); (fail_if_success (with_reducible show wpAny _ _ (call (Value.builtin "len") _) _ _ _)); (fail_if_success (with_reducible show wpAny _ _ (call (Value.builtin "dict.get") _) _ _ _)); (fail_if_success (with_reducible show wpAny _ _ (setItem (Value.ref _) _ _) _ _ _)); (fail_if_success (with_reducible show wpAny _ _ (compareOp CmpOp.In _ (Value.ref _)) _ _ _)))); walk1)))
          rename Fr _ _ _ _ => F; rename News _ _ _ _ => N
          rename (_ ∧ _ ∧ _ ∧ _ ∧ _ ∧ _ ∧ _ ∧ _ ∧ _ ∧ _ ∧ AllLt _ _) => lA
          obtain ⟨a1, a2, a3, a4, a5, a6, a7, a8, a9, a10, aA⟩ := lA
          refine item_at (k := (k : Int)) (News.isList (a := wl) N (.tail _ (.tail _ (.tail _ (.head _))))) (Int.natCast_nonneg k) hk63 (v := .int e te) (by simpa using hve) ?_ (by with_unfolding_all rfl)
          (repeat' (first | ((((fail_if_success (with_reducible show wpAny _ _ (pyIter (Value.ref _)) _ _ _)); (fail_if_success (with_reducible show wpAny _ _ (call (Value.ref _) _) _ _ _)); (fail_if_success (with_reducible show wpAny _ _ (exec (Stmt.While _ _ _ _) _) _ _ _)); (fail_if_success (with_reducible show wpAny _ _ (exec (Stmt.For _ _ _ _ _) _) _ _ _)); (fail_if_success (with_reducible show wpAny _ _ (compareOp _ (Value.ref _) (Value.ref _)) _ _ _)); (fail_if_success (with_reducible show wpAny _ _ (subscriptTail _ _ (Value.ref _) (Value.int _ _)) _ _ _)); (fail_if_success (with_reducible show wpAny _ _ (eval (PySem.Expr.ListComp _ _ _ _) _) _ _ _)); (fail_if_success (with_reducible show wpAny _ _ (call (Value.builtin "len") _) _ _ _)); (fail_if_success (with_reducible show wpAny _ _ (call (Value.builtin "dict.get") _) _ _ _)); (fail_if_success (with_reducible show wpAny _ _ (setItem (Value.ref _) _ _) _ _ _)); (fail_if_success (with_reducible show wpAny _ _ (compareOp CmpOp.In _ (Value.ref _)) _ _ _)))); walk1) | ((((fail_if_success (with_reducible show wpAny _ _ (pyIter (Value.ref _)) _ _ _)); (fail_if_success (with_reducible show wpAny _ _ (call (Value.ref _) _) _ _ _)); (fail_if_success (with_reducible show wpAny _ _ (exec (Stmt.While _ _ _ _) _) _ _ _)); (fail_if_success (with_reducible show wpAny _ _ (exec (Stmt.For _ _ _ _ _) _) _ _ _)); (fail_if_success (with_reducible show wpAny _ _ (compareOp _ (Value.ref _) (Value.ref _)) _ _ _)); (fail_if_success (with_reducible show wpAny _ _ (subscriptTail _ _ (Value.ref _) (Value.int _ _)) _ _ _)); (fail_if_success (with_reducible show wpAny _ _ (eval (PySem.Expr.ListComp _ _ _ _) _) _ _ _)); (fail_if_success (with_reducible show wpAny _ _ (call (Value.builtin "len") _) _ _ _)); (fail_if_success (with_reducible show wpAny _ _ (call (Value.builtin "dict.get") _) _ _ _)); (fail_if_success (with_reducible show wpAny _ _ (setItem (Value.ref _) _ _) _ _ _)); (fail_if_success (with_reducible show wpAny _ _ (compareOp CmpOp.In _ (Value.ref _)) _ _ _)))); dsimp only; (((fail_if_success (with_reducible show wpAny _ _ (pyIter (Value.ref _)) _ _ _)); (fail_if_success (with_reducible show wpAny _ _ (call (Value.ref _) _) _ _ _)); (fail_if_success (with_reducible show wpAny _ _ (exec (Stmt.While _ _ _ _) _) _ _ _)); (fail_if_success (with_reducible show wpAny _ _ (exec (Stmt.For _ _ _ _ _) _) _ _ _)); (fail_if_success (with_reducible show wpAny _ _ (compareOp _ (Value.ref _) (Value.ref _)) _ _ _)); (fail_if_success (with_reducible show wpAny _ _ (subscriptTail _ _ (Value.ref _) (Value.int _ _)) _ _ _)); (fail_if_success (with_reducible show wpAny _ _ (eval (PySem.Expr.ListComp _ _ _ _) _) _ _ _)); (fail_if_success (with_reducible show wpAny _ _ (call (Value.builtin "len") _) _ _ _)); (fail_if_success (with_reducible show wpAny _ _ (call (Value.builtin "dict.get") _) _ _ _)); (fail_if_success (with_reducible show wpAny _ _ (setItem (Value.ref _) _ _) _ _ _)); (fail_if_success (with_reducible show wpAny _ _ (compareOp CmpOp.In _ (Value.ref _)) _ _ _)))); walk1)))
          · rename (1 < e) => hlt
            have ham : a ∈ shared := hae.mpr hlt
            have hcnt := hR.cnt
            rename Fr _ _ _ _ => F; rename News _ _ _ _ => N
            obtain ⟨v, bb, nums2, c2, hmet, hget, hsome, hR2, hc2⟩ := hR.turn hBl9.nd ha ham hc0 hci
            refine len_tab (knd := intKind PySem.Challenge.rw_oj0016_01.row.prog w) (enc := PyData.int) (TabAt.ofNews N (.tail _ (.tail _ (.head _))) (by assumption) hdo hfl) (ar_fit hcnt hci hi) ?_
            rw [hcnt]
            (repeat' (first | ((((fail_if_success (with_reducible show wpAny _ _ (pyIter (Value.ref _)) _ _ _)); (fail_if_success (with_reducible show wpAny _ _ (call (Value.ref _) _) _ _ _)); (fail_if_success (with_reducible show wpAny _ _ (exec (Stmt.While _ _ _ _) _) _ _ _)); (fail_if_success (with_reducible show wpAny _ _ (exec (Stmt.For _ _ _ _ _) _) _ _ _)); (fail_if_success (with_reducible show wpAny _ _ (compareOp _ (Value.ref _) (Value.ref _)) _ _ _)); (fail_if_success (with_reducible show wpAny _ _ (subscriptTail _ _ (Value.ref _) (Value.int _ _)) _ _ _)); (fail_if_success (with_reducible show wpAny _ _ (eval (PySem.Expr.ListComp _ _ _ _) _) _ _ _)); (fail_if_success (with_reducible show wpAny _ _ (call (Value.builtin "len") _) _ _ _)); (fail_if_success (with_reducible show wpAny _ _ (call (Value.builtin "dict.get") _) _ _ _)); (fail_if_success (with_reducible show wpAny _ _ (setItem (Value.ref _) _ _) _ _ _)); (fail_if_success (with_reducible show wpAny _ _ (compareOp CmpOp.In _ (Value.ref _)) _ _ _)))); walk1) | ((((fail_if_success (with_reducible show wpAny _ _ (pyIter (Value.ref _)) _ _ _)); (fail_if_success (with_reducible show wpAny _ _ (call (Value.ref _) _) _ _ _)); (fail_if_success (with_reducible show wpAny _ _ (exec (Stmt.While _ _ _ _) _) _ _ _)); (fail_if_success (with_reducible show wpAny _ _ (exec (Stmt.For _ _ _ _ _) _) _ _ _)); (fail_if_success (with_reducible show wpAny _ _ (compareOp _ (Value.ref _) (Value.ref _)) _ _ _)); (fail_if_success (with_reducible show wpAny _ _ (subscriptTail _ _ (Value.ref _) (Value.int _ _)) _ _ _)); (fail_if_success (with_reducible show wpAny _ _ (eval (PySem.Expr.ListComp _ _ _ _) _) _ _ _)); (fail_if_success (with_reducible show wpAny _ _ (call (Value.builtin "len") _) _ _ _)); (fail_if_success (with_reducible show wpAny _ _ (call (Value.builtin "dict.get") _) _ _ _)); (fail_if_success (with_reducible show wpAny _ _ (setItem (Value.ref _) _ _) _ _ _)); (fail_if_success (with_reducible show wpAny _ _ (compareOp CmpOp.In _ (Value.ref _)) _ _ _)))); dsimp only; (((fail_if_success (with_reducible show wpAny _ _ (pyIter (Value.ref _)) _ _ _)); (fail_if_success (with_reducible show wpAny _ _ (call (Value.ref _) _) _ _ _)); (fail_if_success (with_reducible show wpAny _ _ (exec (Stmt.While _ _ _ _) _) _ _ _)); (fail_if_success (with_reducible show wpAny _ _ (exec (Stmt.For _ _ _ _ _) _) _ _ _)); (fail_if_success (with_reducible show wpAny _ _ (compareOp _ (Value.ref _) (Value.ref _)) _ _ _)); (fail_if_success (with_reducible show wpAny _ _ (subscriptTail _ _ (Value.ref _) (Value.int _ _)) _ _ _)); (fail_if_success (with_reducible show wpAny _ _ (eval (PySem.Expr.ListComp _ _ _ _) _) _ _ _)); (fail_if_success (with_reducible show wpAny _ _ (call (Value.builtin "len") _) _ _ _)); (fail_if_success (with_reducible show wpAny _ _ (call (Value.builtin "dict.get") _) _ _ _)); (fail_if_success (with_reducible show wpAny _ _ (setItem (Value.ref _) _ _) _ _ _)); (fail_if_success (with_reducible show wpAny _ _ (compareOp CmpOp.In _ (Value.ref _)) _ _ _)))); walk1)))
            rename Fr _ _ _ _ => F; rename News _ _ _ _ => N
            refine call_get2_intTab (TabAt.ofNews N (.tail _ (.tail _ (.head _))) (by assumption) hdo hfl) (.int _ _) ?_
            intro vg hvg
            rw [hget] at hvg
            obtain ⟨tg, rfl⟩ : ∃ t, vg = .int v t := by have q : Reads h14 vg (.int v) [] := hvg h14; cases q; exact ⟨_, rfl⟩
            (repeat' (first | ((((fail_if_success (with_reducible show wpAny _ _ (pyIter (Value.ref _)) _ _ _)); (fail_if_success (with_reducible show wpAny _ _ (call (Value.ref _) _) _ _ _)); (fail_if_success (with_reducible show wpAny _ _ (exec (Stmt.While _ _ _ _) _) _ _ _)); (fail_if_success (with_reducible show wpAny _ _ (exec (Stmt.For _ _ _ _ _) _) _ _ _)); (fail_if_success (with_reducible show wpAny _ _ (compareOp _ (Value.ref _) (Value.ref _)) _ _ _)); (fail_if_success (with_reducible show wpAny _ _ (subscriptTail _ _ (Value.ref _) (Value.int _ _)) _ _ _)); (fail_if_success (with_reducible show wpAny _ _ (eval (PySem.Expr.ListComp _ _ _ _) _) _ _ _)); (fail_if_success (with_reducible show wpAny _ _ (call (Value.builtin "len") _) _ _ _)); (fail_if_success (with_reducible show wpAny _ _ (call (Value.builtin "dict.get") _) _ _ _)); (fail_if_success (with_reducible show wpAny _ _ (setItem (Value.ref _) _ _) _ _ _)); (fail_if_success (with_reducible show wpAny _ _ (compareOp CmpOp.In _ (Value.ref _)) _ _ _)))); walk1) | ((((fail_if_success (with_reducible show wpAny _ _ (pyIter (Value.ref _)) _ _ _)); (fail_if_success (with_reducible show wpAny _ _ (call (Value.ref _) _) _ _ _)); (fail_if_success (with_reducible show wpAny _ _ (exec (Stmt.While _ _ _ _) _) _ _ _)); (fail_if_success (with_reducible show wpAny _ _ (exec (Stmt.For _ _ _ _ _) _) _ _ _)); (fail_if_success (with_reducible show wpAny _ _ (compareOp _ (Value.ref _) (Value.ref _)) _ _ _)); (fail_if_success (with_reducible show wpAny _ _ (subscriptTail _ _ (Value.ref _) (Value.int _ _)) _ _ _)); (fail_if_success (with_reducible show wpAny _ _ (eval (PySem.Expr.ListComp _ _ _ _) _) _ _ _)); (fail_if_success (with_reducible show wpAny _ _ (call (Value.builtin "len") _) _ _ _)); (fail_if_success (with_reducible show wpAny _ _ (call (Value.builtin "dict.get") _) _ _ _)); (fail_if_success (with_reducible show wpAny _ _ (setItem (Value.ref _) _ _) _ _ _)); (fail_if_success (with_reducible show wpAny _ _ (compareOp CmpOp.In _ (Value.ref _)) _ _ _)))); dsimp only; (((fail_if_success (with_reducible show wpAny _ _ (pyIter (Value.ref _)) _ _ _)); (fail_if_success (with_reducible show wpAny _ _ (call (Value.ref _) _) _ _ _)); (fail_if_success (with_reducible show wpAny _ _ (exec (Stmt.While _ _ _ _) _) _ _ _)); (fail_if_success (with_reducible show wpAny _ _ (exec (Stmt.For _ _ _ _ _) _) _ _ _)); (fail_if_success (with_reducible show wpAny _ _ (compareOp _ (Value.ref _) (Value.ref _)) _ _ _)); (fail_if_success (with_reducible show wpAny _ _ (subscriptTail _ _ (Value.ref _) (Value.int _ _)) _ _ _)); (fail_if_success (with_reducible show wpAny _ _ (eval (PySem.Expr.ListComp _ _ _ _) _) _ _ _)); (fail_if_success (with_reducible show wpAny _ _ (call (Value.builtin "len") _) _ _ _)); (fail_if_success (with_reducible show wpAny _ _ (call (Value.builtin "dict.get") _) _ _ _)); (fail_if_success (with_reducible show wpAny _ _ (setItem (Value.ref _) _ _) _ _ _)); (fail_if_success (with_reducible show wpAny _ _ (compareOp CmpOp.In _ (Value.ref _)) _ _ _)))); walk1)))
            rename Fr _ _ _ _ => F; rename News _ _ _ _ => N
            refine in_intTab (TabAt.ofNews N (.tail _ (.tail _ (.head _))) (by assumption) hdo hfl) ?_
            rw [hsome]
            (repeat' (first | ((((fail_if_success (with_reducible show wpAny _ _ (pyIter (Value.ref _)) _ _ _)); (fail_if_success (with_reducible show wpAny _ _ (call (Value.ref _) _) _ _ _)); (fail_if_success (with_reducible show wpAny _ _ (exec (Stmt.While _ _ _ _) _) _ _ _)); (fail_if_success (with_reducible show wpAny _ _ (exec (Stmt.For _ _ _ _ _) _) _ _ _)); (fail_if_success (with_reducible show wpAny _ _ (compareOp _ (Value.ref _) (Value.ref _)) _ _ _)); (fail_if_success (with_reducible show wpAny _ _ (subscriptTail _ _ (Value.ref _) (Value.int _ _)) _ _ _)); (fail_if_success (with_reducible show wpAny _ _ (eval (PySem.Expr.ListComp _ _ _ _) _) _ _ _)); (fail_if_success (with_reducible show wpAny _ _ (call (Value.builtin "len") _) _ _ _)); (fail_if_success (with_reducible show wpAny _ _ (call (Value.builtin "dict.get") _) _ _ _)); (fail_if_success (with_reducible show wpAny _ _ (setItem (Value.ref _) _ _) _ _ _)); (fail_if_success (with_reducible show wpAny _ _ (compareOp CmpOp.In _ (Value.ref _)) _ _ _)))); walk1) | ((((fail_if_success (with_reducible show wpAny _ _ (pyIter (Value.ref _)) _ _ _)); (fail_if_success (with_reducible show wpAny _ _ (call (Value.ref _) _) _ _ _)); (fail_if_success (with_reducible show wpAny _ _ (exec (Stmt.While _ _ _ _) _) _ _ _)); (fail_if_success (with_reducible show wpAny _ _ (exec (Stmt.For _ _ _ _ _) _) _ _ _)); (fail_if_success (with_reducible show wpAny _ _ (compareOp _ (Value.ref _) (Value.ref _)) _ _ _)); (fail_if_success (with_reducible show wpAny _ _ (subscriptTail _ _ (Value.ref _) (Value.int _ _)) _ _ _)); (fail_if_success (with_reducible show wpAny _ _ (eval (PySem.Expr.ListComp _ _ _ _) _) _ _ _)); (fail_if_success (with_reducible show wpAny _ _ (call (Value.builtin "len") _) _ _ _)); (fail_if_success (with_reducible show wpAny _ _ (call (Value.builtin "dict.get") _) _ _ _)); (fail_if_success (with_reducible show wpAny _ _ (setItem (Value.ref _) _ _) _ _ _)); (fail_if_success (with_reducible show wpAny _ _ (compareOp CmpOp.In _ (Value.ref _)) _ _ _)))); dsimp only; (((fail_if_success (with_reducible show wpAny _ _ (pyIter (Value.ref _)) _ _ _)); (fail_if_success (with_reducible show wpAny _ _ (call (Value.ref _) _) _ _ _)); (fail_if_success (with_reducible show wpAny _ _ (exec (Stmt.While _ _ _ _) _) _ _ _)); (fail_if_success (with_reducible show wpAny _ _ (exec (Stmt.For _ _ _ _ _) _) _ _ _)); (fail_if_success (with_reducible show wpAny _ _ (compareOp _ (Value.ref _) (Value.ref _)) _ _ _)); (fail_if_success (with_reducible show wpAny _ _ (subscriptTail _ _ (Value.ref _) (Value.int _ _)) _ _ _)); (fail_if_success (with_reducible show wpAny _ _ (eval (PySem.Expr.ListComp _ _ _ _) _) _ _ _)); (fail_if_success (with_reducible show wpAny _ _ (call (Value.builtin "len") _) _ _ _)); (fail_if_success (with_reducible show wpAny _ _ (call (Value.builtin "dict.get") _) _ _ _)); (fail_if_success (with_reducible show wpAny _ _ (setItem (Value.ref _) _ _) _ _ _)); (fail_if_success (with_reducible show wpAny _ _ (compareOp CmpOp.In _ (Value.ref _)) _ _ _)))); walk1)))
            walk1
            (repeat' (first | ((((fail_if_success (with_reducible show wpAny _ _ (pyIter (Value.ref _)) _ _ _)); (fail_if_success (with_reducible show wpAny _ _ (call (Value.ref _) _) _ _ _)); (fail_if_success (with_reducible show wpAny _ _ (exec (Stmt.While _ _ _ _) _) _ _ _)); (fail_if_success (with_reducible show wpAny _ _ (exec (Stmt.For _ _ _ _ _) _) _ _ _)); (fail_if_success (with_reducible show wpAny _ _ (compareOp _ (Value.ref _) (Value.ref _)) _ _ _)); (fail_if_success (with_reducible show wpAny _ _ (subscriptTail _ _ (Value.ref _) (Value.int _ _)) _ _ _)); (fail_if_success (with_reducible show wpAny _ _ (eval (PySem.Expr.ListComp _ _ _ _) _) _ _ _)); (fail_if_success (with_reducible show wpAny _ _ (call (Value.builtin "len") _) _ _ _)); (fail_if_success (with_reducible show wpAny _ _ (call (Value.builtin "dict.get") _) _ _ _)); (fail_if_success (with_reducible show wpAny _ _ (setItem (Value.ref _) _ _) _ _ _)); (fail_if_success (with_reducible show wpAny _ _ (compareOp CmpOp.In _ (Value.ref _)) _ _ _)))); walk1) | ((((fail_if_success (with_reducible show wpAny _ _ (pyIter (Value.ref _)) _ _ _)); (fail_if_success (with_reducible show wpAny _ _ (call (Value.ref _) _) _ _ _)); (fail_if_success (with_reducible show wpAny _ _ (exec (Stmt.While _ _ _ _) _) _ _ _)); (fail_if_success (with_reducible show wpAny _ _ (exec (Stmt.For _ _ _ _ _) _) _ _ _)); (fail_if_success (with_reducible show wpAny _ _ (compareOp _ (Value.ref _) (Value.ref _)) _ _ _)); (fail_if_success (with_reducible show wpAny _ _ (subscriptTail _ _ (Value.ref _) (Value.int _ _)) _ _ _)); (fail_if_success (with_reducible show wpAny _ _ (eval (PySem.Expr.ListComp _ _ _ _) _) _ _ _)); (fail_if_success (with_reducible show wpAny _ _ (call (Value.builtin "len") _) _ _ _)); (fail_if_success (with_reducible show wpAny _ _ (call (Value.builtin "dict.get") _) _ _ _)); (fail_if_success (with_reducible show wpAny _ _ (setItem (Value.ref _) _ _) _ _ _)); (fail_if_success (with_reducible show wpAny _ _ (compareOp CmpOp.In _ (Value.ref _)) _ _ _)))); dsimp only; (((fail_if_success (with_reducible show wpAny _ _ (pyIter (Value.ref _)) _ _ _)); (fail_if_success (with_reducible show wpAny _ _ (call (Value.ref _) _) _ _ _)); (fail_if_success (with_reducible show wpAny _ _ (exec (Stmt.While _ _ _ _) _) _ _ _)); (fail_if_success (with_reducible show wpAny _ _ (exec (Stmt.For _ _ _ _ _) _) _ _ _)); (fail_if_success (with_reducible show wpAny _ _ (compareOp _ (Value.ref _) (Value.ref _)) _ _ _)); (fail_if_success (with_reducible show wpAny _ _ (subscriptTail _ _ (Value.ref _) (Value.int _ _)) _ _ _)); (fail_if_success (with_reducible show wpAny _ _ (eval (PySem.Expr.ListComp _ _ _ _) _) _ _ _)); (fail_if_success (with_reducible show wpAny _ _ (call (Value.builtin "len") _) _ _ _)); (fail_if_success (with_reducible show wpAny _ _ (call (Value.builtin "dict.get") _) _ _ _)); (fail_if_success (with_reducible show wpAny _ _ (setItem (Value.ref _) _ _) _ _ _)); (fail_if_success (with_reducible show wpAny _ _ (compareOp CmpOp.In _ (Value.ref _)) _ _ _)))); walk1)))
            rename Fr _ _ _ _ => F; rename News _ _ _ _ => N
            rename (_ ∧ _ ∧ _ ∧ _ ∧ _ ∧ _ ∧ _ ∧ _ ∧ _ ∧ _ ∧ _ ∧ AllLt _ _) => lB
            obtain ⟨b0, b1, b2, b3, b4, b5, b6, b7, b8, b9, b10, bA⟩ := lB
            refine setItem_K PyProof.V.same_int (intKind_is _ _ _ _) (.int _ _) F N (by k_updF) hdo hfl ?_ (ar_sz hcnt hci hi)
            intro h17 ond2 F N hdo2 hfl2
            try dsimp only at N
            (repeat' (first | ((((fail_if_success (with_reducible show wpAny _ _ (pyIter (Value.ref _)) _ _ _)); (fail_if_success (with_reducible show wpAny _ _ (call (Value.ref _) _) _ _ _)); (fail_if_success (with_reducible show wpAny _ _ (exec (Stmt.While _ _ _ _) _) _ _ _)); (fail_if_success (with_reducible show wpAny _ _ (exec (Stmt.For _ _ _ _ _) _) _ _ _)); (fail_if_success (with_reducible show wpAny _ _ (compareOp _ (Value.ref _) (Value.ref _)) _ _ _)); (fail_if_success (with_reducible show wpAny _ _ (subscriptTail _ _ (Value.ref _) (Value.int _ _)) _ _ _)); (fail_if_success (with_reducible show wpAny _ _ (eval (PySem.Expr.ListComp _ _ _ _) _) _ _ _)); (fail_if_success (with_reducible show wpAny _ _ (call (Value.builtin "len") _) _ _ _)); (fail_if_success (with_reducible show wpAny _ _ (call (Value.builtin "dict.get") _) _ _ _)); (fail_if_success (with_reducible show wpAny _ _ (setItem (Value.ref _) _ _) _ _ _)); (fail_if_success (with_reducible show wpAny _ _ (compareOp CmpOp.In _ (Value.ref _)) _ _ _)))); walk1) | ((((fail_if_success (with_reducible show wpAny _ _ (pyIter (Value.ref _)) _ _ _)); (fail_if_success (with_reducible show wpAny _ _ (call (Value.ref _) _) _ _ _)); (fail_if_success (with_reducible show wpAny _ _ (exec (Stmt.While _ _ _ _) _) _ _ _)); (fail_if_success (with_reducible show wpAny _ _ (exec (Stmt.For _ _ _ _ _) _) _ _ _)); (fail_if_success (with_reducible show wpAny _ _ (compareOp _ (Value.ref _) (Value.ref _)) _ _ _)); (fail_if_success (with_reducible show wpAny _ _ (subscriptTail _ _ (Value.ref _) (Value.int _ _)) _ _ _)); (fail_if_success (with_reducible show wpAny _ _ (eval (PySem.Expr.ListComp _ _ _ _) _) _ _ _)); (fail_if_success (with_reducible show wpAny _ _ (call (Value.builtin "len") _) _ _ _)); (fail_if_success (with_reducible show wpAny _ _ (call (Value.builtin "dict.get") _) _ _ _)); (fail_if_success (with_reducible show wpAny _ _ (setItem (Value.ref _) _ _) _ _ _)); (fail_if_success (with_reducible show wpAny _ _ (compareOp CmpOp.In _ (Value.ref _)) _ _ _)))); dsimp only; (((fail_if_success (with_reducible show wpAny _ _ (pyIter (Value.ref _)) _ _ _)); (fail_if_success (with_reducible show wpAny _ _ (call (Value.ref _) _) _ _ _)); (fail_if_success (with_reducible show wpAny _ _ (exec (Stmt.While _ _ _ _) _) _ _ _)); (fail_if_success (with_reducible show wpAny _ _ (exec (Stmt.For _ _ _ _ _) _) _ _ _)); (fail_if_success (with_reducible show wpAny _ _ (compareOp _ (Value.ref _) (Value.ref _)) _ _ _)); (fail_if_success (with_reducible show wpAny _ _ (subscriptTail _ _ (Value.ref _) (Value.int _ _)) _ _ _)); (fail_if_success (with_reducible show wpAny _ _ (eval (PySem.Expr.ListComp _ _ _ _) _) _ _ _)); (fail_if_success (with_reducible show wpAny _ _ (call (Value.builtin "len") _) _ _ _)); (fail_if_success (with_reducible show wpAny _ _ (call (Value.builtin "dict.get") _) _ _ _)); (fail_if_success (with_reducible show wpAny _ _ (setItem (Value.ref _) _ _) _ _ _)); (fail_if_success (with_reducible show wpAny _ _ (compareOp CmpOp.In _ (Value.ref _)) _ _ _)))); walk1)))
            rename Fr _ _ _ _ => F; rename News _ _ _ _ => N
            have hBl := hB3 _ fun p hp => N.get (.tail _ (.tail _ (.tail _ (.tail _ (.tail _ (.tail _ (.tail _ (.tail _ (.tail _ (.tail _ (.tail _ (.tail _ (hp)))))))))))))
            refine item_at (k := (k : Int)) hBl.th (Int.natCast_nonneg k) hk63 (v := .ref a) (by simp [ha]) ?_ (by with_unfolding_all rfl)
            (repeat' (first | ((((fail_if_success (with_reducible show wpAny _ _ (pyIter (Value.ref _)) _ _ _)); (fail_if_success (with_reducible show wpAny _ _ (call (Value.ref _) _) _ _ _)); (fail_if_success (with_reducible show wpAny _ _ (exec (Stmt.While _ _ _ _) _) _ _ _)); (fail_if_success (with_reducible show wpAny _ _ (exec (Stmt.For _ _ _ _ _) _) _ _ _)); (fail_if_success (with_reducible show wpAny _ _ (compareOp _ (Value.ref _) (Value.ref _)) _ _ _)); (fail_if_success (with_reducible show wpAny _ _ (subscriptTail _ _ (Value.ref _) (Value.int _ _)) _ _ _)); (fail_if_success (with_reducible show wpAny _ _ (eval (PySem.Expr.ListComp _ _ _ _) _) _ _ _)); (fail_if_success (with_reducible show wpAny _ _ (call (Value.builtin "len") _) _ _ _)); (fail_if_success (with_reducible show wpAny _ _ (call (Value.builtin "dict.get") _) _ _ _)); (fail_if_success (with_reducible show wpAny _ _ (setItem (Value.ref _) _ _) _ _ _)); (fail_if_success (with_reducible show wpAny _ _ (compareOp CmpOp.In _ (Value.ref _)) _ _ _)))); walk1) | ((((fail_if_success (with_reducible show wpAny _ _ (pyIter (Value.ref _)) _ _ _)); (fail_if_success (with_reducible show wpAny _ _ (call (Value.ref _) _) _ _ _)); (fail_if_success (with_reducible show wpAny _ _ (exec (Stmt.While _ _ _ _) _) _ _ _)); (fail_if_success (with_reducible show wpAny _ _ (exec (Stmt.For _ _ _ _ _) _) _ _ _)); (fail_if_success (with_reducible show wpAny _ _ (compareOp _ (Value.ref _) (Value.ref _)) _ _ _)); (fail_if_success (with_reducible show wpAny _ _ (subscriptTail _ _ (Value.ref _) (Value.int _ _)) _ _ _)); (fail_if_success (with_reducible show wpAny _ _ (eval (PySem.Expr.ListComp _ _ _ _) _) _ _ _)); (fail_if_success (with_reducible show wpAny _ _ (call (Value.builtin "len") _) _ _ _)); (fail_if_success (with_reducible show wpAny _ _ (call (Value.builtin "dict.get") _) _ _ _)); (fail_if_success (with_reducible show wpAny _ _ (setItem (Value.ref _) _ _) _ _ _)); (fail_if_success (with_reducible show wpAny _ _ (compareOp CmpOp.In _ (Value.ref _)) _ _ _)))); dsimp only; (((fail_if_success (with_reducible show wpAny _ _ (pyIter (Value.ref _)) _ _ _)); (fail_if_success (with_reducible show wpAny _ _ (call (Value.ref _) _) _ _ _)); (fail_if_success (with_reducible show wpAny _ _ (exec (Stmt.While _ _ _ _) _) _ _ _)); (fail_if_success (with_reducible show wpAny _ _ (exec (Stmt.For _ _ _ _ _) _) _ _ _)); (fail_if_success (with_reducible show wpAny _ _ (compareOp _ (Value.ref _) (Value.ref _)) _ _ _)); (fail_if_success (with_reducible show wpAny _ _ (subscriptTail _ _ (Value.ref _) (Value.int _ _)) _ _ _)); (fail_if_success (with_reducible show wpAny _ _ (eval (PySem.Expr.ListComp _ _ _ _) _) _ _ _)); (fail_if_success (with_reducible show wpAny _ _ (call (Value.builtin "len") _) _ _ _)); (fail_if_success (with_reducible show wpAny _ _ (call (Value.builtin "dict.get") _) _ _ _)); (fail_if_success (with_reducible show wpAny _ _ (setItem (Value.ref _) _ _) _ _ _)); (fail_if_success (with_reducible show wpAny _ _ (compareOp CmpOp.In _ (Value.ref _)) _ _ _)))); walk1)))
            rename Fr _ _ _ _ => F; rename News _ _ _ _ => N
            refine c_met (dp := dp) (un := un) (lsh := lsh) (lnu := lnu) (dxl := dx) (as := shared) (nums := nums) (c := c) KX T (by exact F.keep) hd4 hu40 (N.get (.tail _ (.tail _ (.tail _ (.tail _ (.tail _ (.tail _ (.tail _ (.tail _ (.head _)))))))))) (N.get (.tail _ (.tail _ (.tail _ (.tail _ (.tail _ (.tail _ (.tail _ (.head _))))))))) (News.isList N (.tail _ (.tail _ (.tail _ (.tail _ (.tail _ (.head _))))))) (N.get (.tail _ (.tail _ (.tail _ (.tail _ (.tail _ (.tail _ (.head _)))))))) hnu hR.len hne (N.fresh (.tail _ (.tail _ (.tail _ (.tail _ (.tail _ (.tail _ (.tail _ (.head _))))))))) (N.fresh (.tail _ (.tail _ (.tail _ (.tail _ (.tail _ (.tail _ (.head _)))))))) hc0 hsl (hitm hBl a (List.mem_of_getElem? ha)) (fun b hb => hitm hBl b (hsm b hb)) ?_
            intro h16 tk16 tp t2 tt vnu2 c16 hk16 htpn hdx16 hlnu16 hnu2 htp
            dsimp only at hk16 htpn
            rw [hmet] at hdx16 hnu2 htp
            have N16 := news_two N (by k_upd) (by k_upd) hk16 hdx16 hlnu16 (show lnu ≠ dx from Ne.symm u5)
            have F16 := fr_two F N (.tail _ (.tail _ (.tail _ (.tail _ (.tail _ (.tail _ (.tail _ (.head _)))))))) (.tail _ (.tail _ (.tail _ (.tail _ (.tail _ (.tail _ (.head _))))))) hk16
            have N17 := news_free2 F N16 htpn htp
            clear F N N16 hk16 hdx16 hlnu16 htpn htp hBl
            try dsimp only
            (repeat' (first | ((((fail_if_success (with_reducible show wpAny _ _ (pyIter (Value.ref _)) _ _ _)); (fail_if_success (with_reducible show wpAny _ _ (call (Value.ref _) _) _ _ _)); (fail_if_success (with_reducible show wpAny _ _ (exec (Stmt.While _ _ _ _) _) _ _ _)); (fail_if_success (with_reducible show wpAny _ _ (exec (Stmt.For _ _ _ _ _) _) _ _ _)); (fail_if_success (with_reducible show wpAny _ _ (compareOp _ (Value.ref _) (Value.ref _)) _ _ _)); (fail_if_success (with_reducible show wpAny _ _ (subscriptTail _ _ (Value.ref _) (Value.int _ _)) _ _ _)); (fail_if_success (with_reducible show wpAny _ _ (eval (PySem.Expr.ListComp _ _ _ _) _) _ _ _)); (fail_if_success (with_reducible show wpAny _ _ (call (Value.builtin "len") _) _ _ _)); (fail_if_success (with_reducible show wpAny _ _ (call (Value.builtin "dict.get") _) _ _ _)); (fail_if_success (with_reducible show wpAny _ _ (setItem (Value.ref _) _ _) _ _ _)); (fail_if_success (with_reducible show wpAny _ _ (compareOp CmpOp.In _ (Value.ref _)) _ _ _)))); walk1) | ((((fail_if_success (with_reducible show wpAny _ _ (pyIter (Value.ref _)) _ _ _)); (fail_if_success (with_reducible show wpAny _ _ (call (Value.ref _) _) _ _ _)); (fail_if_success (with_reducible show wpAny _ _ (exec (Stmt.While _ _ _ _) _) _ _ _)); (fail_if_success (with_reducible show wpAny _ _ (exec (Stmt.For _ _ _ _ _) _) _ _ _)); (fail_if_success (with_reducible show wpAny _ _ (compareOp _ (Value.ref _) (Value.ref _)) _ _ _)); (fail_if_success (with_reducible show wpAny _ _ (subscriptTail _ _ (Value.ref _) (Value.int _ _)) _ _ _)); (fail_if_success (with_reducible show wpAny _ _ (eval (PySem.Expr.ListComp _ _ _ _) _) _ _ _)); (fail_if_success (with_reducible show wpAny _ _ (call (Value.builtin "len") _) _ _ _)); (fail_if_success (with_reducible show wpAny _ _ (call (Value.builtin "dict.get") _) _ _ _)); (fail_if_success (with_reducible show wpAny _ _ (setItem (Value.ref _) _ _) _ _ _)); (fail_if_success (with_reducible show wpAny _ _ (compareOp CmpOp.In _ (Value.ref _)) _ _ _)))); dsimp only; (((fail_if_success (with_reducible show wpAny _ _ (pyIter (Value.ref _)) _ _ _)); (fail_if_success (with_reducible show wpAny _ _ (call (Value.ref _) _) _ _ _)); (fail_if_success (with_reducible show wpAny _ _ (exec (Stmt.While _ _ _ _) _) _ _ _)); (fail_if_success (with_reducible show wpAny _ _ (exec (Stmt.For _ _ _ _ _) _) _ _ _)); (fail_if_success (with_reducible show wpAny _ _ (compareOp _ (Value.ref _) (Value.ref _)) _ _ _)); (fail_if_success (with_reducible show wpAny _ _ (subscriptTail _ _ (Value.ref _) (Value.int _ _)) _ _ _)); (fail_if_success (with_reducible show wpAny _ _ (eval (PySem.Expr.ListComp _ _ _ _) _) _ _ _)); (fail_if_success (with_reducible show wpAny _ _ (call (Value.builtin "len") _) _ _ _)); (fail_if_success (with_reducible show wpAny _ _ (call (Value.builtin "dict.get") _) _ _ _)); (fail_if_success (with_reducible show wpAny _ _ (setItem (Value.ref _) _ _) _ _ _)); (fail_if_success (with_reducible show wpAny _ _ (compareOp CmpOp.In _ (Value.ref _)) _ _ _)))); walk1)))
            rename Fr _ _ _ _ => F; rename News _ _ _ _ => N
            refine ne_pair (N.get (.head _)) rfl rfl (N.get (.tail _ (.head _))) rfl rfl hu64 ?_
            (repeat' (first | ((((fail_if_success (with_reducible show wpAny _ _ (pyIter (Value.ref _)) _ _ _)); (fail_if_success (with_reducible show wpAny _ _ (call (Value.ref _) _) _ _ _)); (fail_if_success (with_reducible show wpAny _ _ (exec (Stmt.While _ _ _ _) _) _ _ _)); (fail_if_success (with_reducible show wpAny _ _ (exec (Stmt.For _ _ _ _ _) _) _ _ _)); (fail_if_success (with_reducible show wpAny _ _ (compareOp _ (Value.ref _) (Value.ref _)) _ _ _)); (fail_if_success (with_reducible show wpAny _ _ (subscriptTail _ _ (Value.ref _) (Value.int _ _)) _ _ _)); (fail_if_success (with_reducible show wpAny _ _ (eval (PySem.Expr.ListComp _ _ _ _) _) _ _ _)); (fail_if_success (with_reducible show wpAny _ _ (call (Value.builtin "len") _) _ _ _)); (fail_if_success (with_reducible show wpAny _ _ (call (Value.builtin "dict.get") _) _ _ _)); (fail_if_success (with_reducible show wpAny _ _ (setItem (Value.ref _) _ _) _ _ _)); (fail_if_success (with_reducible show wpAny _ _ (compareOp CmpOp.In _ (Value.ref _)) _ _ _)))); walk1) | ((((fail_if_success (with_reducible show wpAny _ _ (pyIter (Value.ref _)) _ _ _)); (fail_if_success (with_reducible show wpAny _ _ (call (Value.ref _) _) _ _ _)); (fail_if_success (with_reducible show wpAny _ _ (exec (Stmt.While _ _ _ _) _) _ _ _)); (fail_if_success (with_reducible show wpAny _ _ (exec (Stmt.For _ _ _ _ _) _) _ _ _)); (fail_if_success (with_reducible show wpAny _ _ (compareOp _ (Value.ref _) (Value.ref _)) _ _ _)); (fail_if_success (with_reducible show wpAny _ _ (subscriptTail _ _ (Value.ref _) (Value.int _ _)) _ _ _)); (fail_if_success (with_reducible show wpAny _ _ (eval (PySem.Expr.ListComp _ _ _ _) _) _ _ _)); (fail_if_success (with_reducible show wpAny _ _ (call (Value.builtin "len") _) _ _ _)); (fail_if_success (with_reducible show wpAny _ _ (call (Value.builtin "dict.get") _) _ _ _)); (fail_if_success (with_reducible show wpAny _ _ (setItem (Value.ref _) _ _) _ _ _)); (fail_if_success (with_reducible show wpAny _ _ (compareOp CmpOp.In _ (Value.ref _)) _ _ _)))); dsimp only; (((fail_if_success (with_reducible show wpAny _ _ (pyIter (Value.ref _)) _ _ _)); (fail_if_success (with_reducible show wpAny _ _ (call (Value.ref _) _) _ _ _)); (fail_if_success (with_reducible show wpAny _ _ (exec (Stmt.While _ _ _ _) _) _ _ _)); (fail_if_success (with_reducible show wpAny _ _ (exec (Stmt.For _ _ _ _ _) _) _ _ _)); (fail_if_success (with_reducible show wpAny _ _ (compareOp _ (Value.ref _) (Value.ref _)) _ _ _)); (fail_if_success (with_reducible show wpAny _ _ (subscriptTail _ _ (Value.ref _) (Value.int _ _)) _ _ _)); (fail_if_success (with_reducible show wpAny _ _ (eval (PySem.Expr.ListComp _ _ _ _) _) _ _ _)); (fail_if_success (with_reducible show wpAny _ _ (call (Value.builtin "len") _) _ _ _)); (fail_if_success (with_reducible show wpAny _ _ (call (Value.builtin "dict.get") _) _ _ _)); (fail_if_success (with_reducible show wpAny _ _ (setItem (Value.ref _) _ _) _ _ _)); (fail_if_success (with_reducible show wpAny _ _ (compareOp CmpOp.In _ (Value.ref _)) _ _ _)))); walk1)))
            rename Fr _ _ _ _ => F; rename News _ _ _ _ => N
            refine tend_next F N.tail'.tail'.tail' (List.forall_mem_cons.mpr ⟨q1, List.forall_mem_cons.mpr ⟨q2, List.forall_mem_cons.mpr ⟨q3, List.forall_mem_cons.mpr ⟨q4, List.forall_mem_cons.mpr ⟨q5, List.forall_mem_cons.mpr ⟨q6, List.forall_mem_cons.mpr ⟨q7, List.forall_mem_cons.mpr ⟨q8, List.forall_mem_cons.mpr ⟨q9, hoI⟩⟩⟩⟩⟩⟩⟩⟩⟩) (by rw [hJ]; exact ⟨_, _, _, _, _, _, vnu2, nums2, c16, c2, t2, at5, ta5, z5, tz5, c15, map_due _ us ua ud _ _ _ _, rfl, hdo2, hfl2, hnu2, hR2, hc2, hat5, hz5, hz5'⟩)
          · rename (¬ 1 < e) => hle
            have hna : a ∉ shared := fun q => hle (hae.mp q)
            rename Fr _ _ _ _ => F; rename News _ _ _ _ => N
            have hBl := hB3 _ fun p hp => N.get (.tail _ (.tail _ (.tail _ (.tail _ (.tail _ (.tail _ (.tail _ (.tail _ (.tail _ (.tail _ (.tail _ (hp))))))))))))
            refine item_at (k := (k : Int)) hBl.th (Int.natCast_nonneg k) hk63 (v := .ref a) (by simp [ha]) ?_ (by with_unfolding_all rfl)
            (repeat' (first | ((((fail_if_success (with_reducible show wpAny _ _ (pyIter (Value.ref _)) _ _ _)); (fail_if_success (with_reducible show wpAny _ _ (call (Value.ref _) _) _ _ _)); (fail_if_success (with_reducible show wpAny _ _ (exec (Stmt.While _ _ _ _) _) _ _ _)); (fail_if_success (with_reducible show wpAny _ _ (exec (Stmt.For _ _ _ _ _) _) _ _ _)); (fail_if_success (with_reducible show wpAny _ _ (compareOp _ (Value.ref _) (Value.ref _)) _ _ _)); (fail_if_success (with_reducible show wpAny _ _ (subscriptTail _ _ (Value.ref _) (Value.int _ _)) _ _ _)); (fail_if_success (with_reducible show wpAny _ _ (eval (PySem.Expr.ListComp _ _ _ _) _) _ _ _)); (fail_if_success (with_reducible show wpAny _ _ (call (Value.builtin "len") _) _ _ _)); (fail_if_success (with_reducible show wpAny _ _ (call (Value.builtin "dict.get") _) _ _ _)); (fail_if_success (with_reducible show wpAny _ _ (setItem (Value.ref _) _ _) _ _ _)); (fail_if_success (with_reducible show wpAny _ _ (compareOp CmpOp.In _ (Value.ref _)) _ _ _)))); walk1) | ((((fail_if_success (with_reducible show wpAny _ _ (pyIter (Value.ref _)) _ _ _)); (fail_if_success (with_reducible show wpAny _ _ (call (Value.ref _) _) _ _ _)); (fail_if_success (with_reducible show wpAny _ _ (exec (Stmt.While _ _ _ _) _) _ _ _)); (fail_if_success (with_reducible show wpAny _ _ (exec (Stmt.For _ _ _ _ _) _) _ _ _)); (fail_if_success (with_reducible show wpAny _ _ (compareOp _ (Value.ref _) (Value.ref _)) _ _ _)); (fail_if_success (with_reducible show wpAny _ _ (subscriptTail _ _ (Value.ref _) (Value.int _ _)) _ _ _)); (fail_if_success (with_reducible show wpAny _ _ (eval (PySem.Expr.ListComp _ _ _ _) _) _ _ _)); (fail_if_success (with_reducible show wpAny _ _ (call (Value.builtin "len") _) _ _ _)); (fail_if_success (with_reducible show wpAny _ _ (call (Value.builtin "dict.get") _) _ _ _)); (fail_if_success (with_reducible show wpAny _ _ (setItem (Value.ref _) _ _) _ _ _)); (fail_if_success (with_reducible show wpAny _ _ (compareOp CmpOp.In _ (Value.ref _)) _ _ _)))); dsimp only; (((fail_if_success (with_reducible show wpAny _ _ (pyIter (Value.ref _)) _ _ _)); (fail_if_success (with_reducible show wpAny _ _ (call (Value.ref _) _) _ _ _)); (fail_if_success (with_reducible show wpAny _ _ (exec (Stmt.While _ _ _ _) _) _ _ _)); (fail_if_success (with_reducible show wpAny _ _ (exec (Stmt.For _ _ _ _ _) _) _ _ _)); (fail_if_success (with_reducible show wpAny _ _ (compareOp _ (Value.ref _) (Value.ref _)) _ _ _)); (fail_if_success (with_reducible show wpAny _ _ (subscriptTail _ _ (Value.ref _) (Value.int _ _)) _ _ _)); (fail_if_success (with_reducible show wpAny _ _ (eval (PySem.Expr.ListComp _ _ _ _) _) _ _ _)); (fail_if_success (with_reducible show wpAny _ _ (call (Value.builtin "len") _) _ _ _)); (fail_if_success (with_reducible show wpAny _ _ (call (Value.builtin "dict.get") _) _ _ _)); (fail_if_success (with_reducible show wpAny _ _ (setItem (Value.ref _) _ _) _ _ _)); (fail_if_success (with_reducible show wpAny _ _ (compareOp CmpOp.In _ (Value.ref _)) _ _ _)))); walk1)))
            rename Fr _ _ _ _ => F; rename News _ _ _ _ => N
            refine c_met (dp := dp) (un := un) (lsh := lsh) (lnu := lnu) (dxl := dx) (as := shared) (nums := nums) (c := c) KX T (by exact F.keep) hd4 hu40 (N.get (.tail _ (.tail _ (.tail _ (.tail _ (.tail _ (.tail _ (.tail _ (.head _))))))))) (N.get (.tail _ (.tail _ (.tail _ (.tail _ (.tail _ (.tail _ (.head _)))))))) (News.isList N (.tail _ (.tail _ (.tail _ (.tail _ (.head _)))))) (N.get (.tail _ (.tail _ (.tail _ (.tail _ (.tail _ (.head _))))))) hnu hR.len hne (N.fresh (.tail _ (.tail _ (.tail _ (.tail _ (.tail _ (.tail _ (.head _)))))))) (N.fresh (.tail _ (.tail _ (.tail _ (.tail _ (.tail _ (.head _))))))) hc0 hsl (hitm hBl a (List.mem_of_getElem? ha)) (fun b hb => hitm hBl b (hsm b hb)) ?_
            intro h16 tk16 tp t2 tt vnu2 c16 hk16 htpn hdx16 hlnu16 hnu2 htp
            dsimp only at hk16 htpn
            rw [met_out hna] at hdx16 hnu2 htp
            have N16 := news_two N (by k_upd) (by k_upd) hk16 hdx16 hlnu16 (show lnu ≠ dx from Ne.symm u5)
            have F16 := fr_two F N (.tail _ (.tail _ (.tail _ (.tail _ (.tail _ (.tail _ (.head _))))))) (.tail _ (.tail _ (.tail _ (.tail _ (.tail _ (.head _)))))) hk16
            have N17 := news_free2 F N16 htpn htp
            clear F N N16 hk16 hdx16 hlnu16 htpn htp hBl
            try dsimp only
            (repeat' (first | ((((fail_if_success (with_reducible show wpAny _ _ (pyIter (Value.ref _)) _ _ _)); (fail_if_success (with_reducible show wpAny _ _ (call (Value.ref _) _) _ _ _)); (fail_if_success (with_reducible show wpAny _ _ (exec (Stmt.While _ _ _ _) _) _ _ _)); (fail_if_success (with_reducible show wpAny _ _ (exec (Stmt.For _ _ _ _ _) _) _ _ _)); (fail_if_success (with_reducible show wpAny _ _ (compareOp _ (Value.ref _) (Value.ref _)) _ _ _)); (fail_if_success (with_reducible show wpAny _ _ (subscriptTail _ _ (Value.ref _) (Value.int _ _)) _ _ _)); (fail_if_success (with_reducible show wpAny _ _ (eval (PySem.Expr.ListComp _ _ _ _) _) _ _ _)); (fail_if_success (with_reducible show wpAny _ _ (call (Value.builtin "len") _) _ _ _)); (fail_if_success (with_reducible show wpAny _ _ (call (Value.builtin "dict.get") _) _ _ _)); (fail_if_success (with_reducible show wpAny _ _ (setItem (Value.ref _) _ _) _ _ _)); (fail_if_success (with_reducible show wpAny _ _ (compareOp CmpOp.In _ (Value.ref _)) _ _ _)))); walk1) | ((((fail_if_success (with_reducible show wpAny _ _ (pyIter (Value.ref _)) _ _ _)); (fail_if_success (with_reducible show wpAny _ _ (call (Value.ref _) _) _ _ _)); (fail_if_success (with_reducible show wpAny _ _ (exec (Stmt.While _ _ _ _) _) _ _ _)); (fail_if_success (with_reducible show wpAny _ _ (exec (Stmt.For _ _ _ _ _) _) _ _ _)); (fail_if_success (with_reducible show wpAny _ _ (compareOp _ (Value.ref _) (Value.ref _)) _ _ _)); (fail_if_success (with_reducible show wpAny _ _ (subscriptTail _ _ (Value.ref _) (Value.int _ _)) _ _ _)); (fail_if_success (with_reducible show wpAny _ _ (eval (PySem.Expr.ListComp _ _ _ _) _) _ _ _)); (fail_if_success (with_reducible show wpAny _ _ (call (Value.builtin "len") _) _ _ _)); (fail_if_success (with_reducible show wpAny _ _ (call (Value.builtin "dict.get") _) _ _ _)); (fail_if_success (with_reducible show wpAny _ _ (setItem (Value.ref _) _ _) _ _ _)); (fail_if_success (with_reducible show wpAny _ _ (compareOp CmpOp.In _ (Value.ref _)) _ _ _)))); dsimp only; (((fail_if_success (with_reducible show wpAny _ _ (pyIter (Value.ref _)) _ _ _)); (fail_if_success (with_reducible show wpAny _ _ (call (Value.ref _) _) _ _ _)); (fail_if_success (with_reducible show wpAny _ _ (exec (Stmt.While _ _ _ _) _) _ _ _)); (fail_if_success (with_reducible show wpAny _ _ (exec (Stmt.For _ _ _ _ _) _) _ _ _)); (fail_if_success (with_reducible show wpAny _ _ (compareOp _ (Value.ref _) (Value.ref _)) _ _ _)); (fail_if_success (with_reducible show wpAny _ _ (subscriptTail _ _ (Value.ref _) (Value.int _ _)) _ _ _)); (fail_if_success (with_reducible show wpAny _ _ (eval (PySem.Expr.ListComp _ _ _ _) _) _ _ _)); (fail_if_success (with_reducible show wpAny _ _ (call (Value.builtin "len") _) _ _ _)); (fail_if_success (with_reducible show wpAny _ _ (call (Value.builtin "dict.get") _) _ _ _)); (fail_if_success (with_reducible show wpAny _ _ (setItem (Value.ref _) _ _) _ _ _)); (fail_if_success (with_reducible show wpAny _ _ (compareOp CmpOp.In _ (Value.ref _)) _ _ _)))); walk1)))
            rename Fr _ _ _ _ => F; rename News _ _ _ _ => N
            refine ne_pair (N.get (.head _)) rfl rfl (N.get (.tail _ (.head _))) rfl rfl hu64 ?_
            (repeat' (first | ((((fail_if_success (with_reducible show wpAny _ _ (pyIter (Value.ref _)) _ _ _)); (fail_if_success (with_reducible show wpAny _ _ (call (Value.ref _) _) _ _ _)); (fail_if_success (with_reducible show wpAny _ _ (exec (Stmt.While _ _ _ _) _) _ _ _)); (fail_if_success (with_reducible show wpAny _ _ (exec (Stmt.For _ _ _ _ _) _) _ _ _)); (fail_if_success (with_reducible show wpAny _ _ (compareOp _ (Value.ref _) (Value.ref _)) _ _ _)); (fail_if_success (with_reducible show wpAny _ _ (subscriptTail _ _ (Value.ref _) (Value.int _ _)) _ _ _)); (fail_if_success (with_reducible show wpAny _ _ (eval (PySem.Expr.ListComp _ _ _ _) _) _ _ _)); (fail_if_success (with_reducible show wpAny _ _ (call (Value.builtin "len") _) _ _ _)); (fail_if_success (with_reducible show wpAny _ _ (call (Value.builtin "dict.get") _) _ _ _)); (fail_if_success (with_reducible show wpAny _ _ (setItem (Value.ref _) _ _) _ _ _)); (fail_if_success (with_reducible show wpAny _ _ (compareOp CmpOp.In _ (Value.ref _)) _ _ _)))); walk1) | ((((fail_if_success (with_reducible show wpAny _ _ (pyIter (Value.ref _)) _ _ _)); (fail_if_success (with_reducible show wpAny _ _ (call (Value.ref _) _) _ _ _)); (fail_if_success (with_reducible show wpAny _ _ (exec (Stmt.While _ _ _ _) _) _ _ _)); (fail_if_success (with_reducible show wpAny _ _ (exec (Stmt.For _ _ _ _ _) _) _ _ _)); (fail_if_success (with_reducible show wpAny _ _ (compareOp _ (Value.ref _) (Value.ref _)) _ _ _)); (fail_if_success (with_reducible show wpAny _ _ (subscriptTail _ _ (Value.ref _) (Value.int _ _)) _ _ _)); (fail_if_success (with_reducible show wpAny _ _ (eval (PySem.Expr.ListComp _ _ _ _) _) _ _ _)); (fail_if_success (with_reducible show wpAny _ _ (call (Value.builtin "len") _) _ _ _)); (fail_if_success (with_reducible show wpAny _ _ (call (Value.builtin "dict.get") _) _ _ _)); (fail_if_success (with_reducible show wpAny _ _ (setItem (Value.ref _) _ _) _ _ _)); (fail_if_success (with_reducible show wpAny _ _ (compareOp CmpOp.In _ (Value.ref _)) _ _ _)))); dsimp only; (((fail_if_success (with_reducible show wpAny _ _ (pyIter (Value.ref _)) _ _ _)); (fail_if_success (with_reducible show wpAny _ _ (call (Value.ref _) _) _ _ _)); (fail_if_success (with_reducible show wpAny _ _ (exec (Stmt.While _ _ _ _) _) _ _ _)); (fail_if_success (with_reducible show wpAny _ _ (exec (Stmt.For _ _ _ _ _) _) _ _ _)); (fail_if_success (with_reducible show wpAny _ _ (compareOp _ (Value.ref _) (Value.ref _)) _ _ _)); (fail_if_success (with_reducible show wpAny _ _ (subscriptTail _ _ (Value.ref _) (Value.int _ _)) _ _ _)); (fail_if_success (with_reducible show wpAny _ _ (eval (PySem.Expr.ListComp _ _ _ _) _) _ _ _)); (fail_if_success (with_reducible show wpAny _ _ (call (Value.builtin "len") _) _ _ _)); (fail_if_success (with_reducible show wpAny _ _ (call (Value.builtin "dict.get") _) _ _ _)); (fail_if_success (with_reducible show wpAny _ _ (setItem (Value.ref _) _ _) _ _ _)); (fail_if_success (with_reducible show wpAny _ _ (compareOp CmpOp.In _ (Value.ref _)) _ _ _)))); walk1)))
            rename Fr _ _ _ _ => F; rename News _ _ _ _ => N
            refine tend_next F N.tail'.tail' (List.forall_mem_cons.mpr ⟨q1, List.forall_mem_cons.mpr ⟨q2, List.forall_mem_cons.mpr ⟨q3, List.forall_mem_cons.mpr ⟨q4, List.forall_mem_cons.mpr ⟨q5, List.forall_mem_cons.mpr ⟨q6, List.forall_mem_cons.mpr ⟨q7, List.forall_mem_cons.mpr ⟨q8, List.forall_mem_cons.mpr ⟨q9, hoI⟩⟩⟩⟩⟩⟩⟩⟩⟩) (by rw [hJ]; exact ⟨_, _, _, ond', kvs, DD, vnu2, nums, c16, c, t2, at5, ta5, z5, tz5, c15, map_due1 _ us ua ud _ _ _, rfl, hdo, hfl, hnu2, hR, ⟨hc0, ar_c3 hci⟩, hat5, hz5, hz5'⟩)
        case done =>
          rintro m₁ news₁ h14 tk14 hJJ F N
          rw [hJ] at hJJ
          obtain ⟨us, ua, ud, ond', kvs, DD, vnu', nums, c6', c, tl', at_, ta, z, tz, c4', rfl, rfl, hdo, hfl, hnu, hR, hc, hz⟩ := hJJ
          (repeat' (first | ((((fail_if_success (with_reducible show wpAny _ _ (pyIter (Value.ref _)) _ _ _)); (fail_if_success (with_reducible show wpAny _ _ (call (Value.ref _) _) _ _ _)); (fail_if_success (with_reducible show wpAny _ _ (exec (Stmt.While _ _ _ _) _) _ _ _)); (fail_if_success (with_reducible show wpAny _ _ (exec (Stmt.For _ _ _ _ _) _) _ _ _)); (fail_if_success (with_reducible show wpAny _ _ (compareOp _ (Value.ref _) (Value.ref _)) _ _ _)); (fail_if_success (with_reducible show wpAny _ _ (subscriptTail _ _ (Value.ref _) (Value.int _ _)) _ _ _)); (fail_if_success (with_reducible show wpAny _ _ (eval (PySem.Expr.ListComp _ _ _ _) _) _ _ _)); (fail_if_success (with_reducible show wpAny _ _ (call (Value.builtin "len") _) _ _ _)); (fail_if_success (with_reducible show wpAny _ _ (call (Value.builtin "dict.get") _) _ _ _)); (fail_if_success (with_reducible show wpAny _ _ (setItem (Value.ref _) _ _) _ _ _)); (fail_if_success (with_reducible show wpAny _ _ (compareOp CmpOp.In _ (Value.ref _)) _ _ _)))); walk1) | ((((fail_if_success (with_reducible show wpAny _ _ (pyIter (Value.ref _)) _ _ _)); (fail_if_success (with_reducible show wpAny _ _ (call (Value.ref _) _) _ _ _)); (fail_if_success (with_reducible show wpAny _ _ (exec (Stmt.While _ _ _ _) _) _ _ _)); (fail_if_success (with_reducible show wpAny _ _ (exec (Stmt.For _ _ _ _ _) _) _ _ _)); (fail_if_success (with_reducible show wpAny _ _ (compareOp _ (Value.ref _) (Value.ref _)) _ _ _)); (fail_if_success (with_reducible show wpAny _ _ (subscriptTail _ _ (Value.ref _) (Value.int _ _)) _ _ _)); (fail_if_success (with_reducible show wpAny _ _ (eval (PySem.Expr.ListComp _ _ _ _) _) _ _ _)); (fail_if_success (with_reducible show wpAny _ _ (call (Value.builtin "len") _) _ _ _)); (fail_if_success (with_reducible show wpAny _ _ (call (Value.builtin "dict.get") _) _ _ _)); (fail_if_success (with_reducible show wpAny _ _ (setItem (Value.ref _) _ _) _ _ _)); (fail_if_success (with_reducible show wpAny _ _ (compareOp CmpOp.In _ (Value.ref _)) _ _ _)))); dsimp only; (((fail_if_success (with_reducible show wpAny _ _ (pyIter (Value.ref _)) _ _ _)); (fail_if_success (with_reducible show wpAny _ _ (call (Value.ref _) _) _ _ _)); (fail_if_success (with_reducible show wpAny _ _ (exec (Stmt.While _ _ _ _) _) _ _ _)); (fail_if_success (with_reducible show wpAny _ _ (exec (Stmt.For _ _ _ _ _) _) _ _ _)); (fail_if_success (with_reducible show wpAny _ _ (compareOp _ (Value.ref _) (Value.ref _)) _ _ _)); (fail_if_success (with_reducible show wpAny _ _ (subscriptTail _ _ (Value.ref _) (Value.int _ _)) _ _ _)); (fail_if_success (with_reducible show wpAny _ _ (eval (PySem.Expr.ListComp _ _ _ _) _) _ _ _)); (fail_if_success (with_reducible show wpAny _ _ (call (Value.builtin "len") _) _ _ _)); (fail_if_success (with_reducible show wpAny _ _ (call (Value.builtin "dict.get") _) _ _ _)); (fail_if_success (with_reducible show wpAny _ _ (setItem (Value.ref _) _ _) _ _ _)); (fail_if_success (with_reducible show wpAny _ _ (compareOp CmpOp.In _ (Value.ref _)) _ _ _)))); walk1)))
          subst hQQ
          exact ⟨rfl, _, F, rfl, rfl⟩

end Mine
end
end
end
end
end

theorem PySem.Challenge.cw_oj0016_01_holds : PySem.Challenge.rw_oj0016_01.Holds :=
  Mine.law_holds
