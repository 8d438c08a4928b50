import PyProof.Rows.All
import Wide.All
import OpenK.AllK
import Wide.FinOn
import PySem.Challenge.RW_ok0044_01
open PySem PySem.W PySem.Calls PySem.Spec PyProof.Rows
set_option Elab.async false
set_option maxRecDepth 100000
set_option maxHeartbeats 8000000
namespace Mine
open_top hd for PySem.Challenge.rw_ok0044_01

abbrev PR := PySem.Challenge.rw_ok0044_01.row.prog
abbrev Led := List (Addr × Obj)
abbrev tupOf (xs : List Value) (n : Nat) : Obj := { cls := .type "tuple", data := .seq xs.toArray n }

def Says (w : World) (mean : ExcName → Option Value) (mg mb : Str → Option Value) (f : Addr) (dd uu : Nat) (vs : List Value) (news : Led) (Post : Value → Led → Prop) : Prop :=
  ∀ (dp un : Nat) (gd : Option (List Code)) (cn : Str) (cs : Scope) (a : Addr) (ccd : Value) (cl : List (Str × Addr)) (outer : List Env) (A₀ : Around) (base h₀ : Heap) (L : Addr) (m : Str → Option Value) (s : Shared) (Q E : Value → Shared → Prop),
    Below A₀ base outer h₀ → Fr h₀ L s.heap m → (hd.heap_39 w.params).In h₀ → News h₀ L s.heap news → Top hd.view_39 (looseW hd.view_39 []) mean mg mb h₀ → cs.kind = .function → dp + dd < recursionLimit → un + uu < cLine →
    (∀ r news' h' tk', Fr h₀ L h' m → News h₀ L h' news' → Post r news' → Q r { s with heap := h', toks := tk' }) →
    wpAny (model PySem.Challenge.rw_ok0044_01.row.prog w) (ktrTop dp un gd cn cs L a ccd cl outer) (call (.ref f) vs) Q E s

section
variable {prog : Program} {w : World} {A : Around} {E : Value → Shared → Prop} {s : Shared} {h₀ : Heap} {L D : Addr} {m : Str → Option Value} {xs : List Value} {n : Nat} {news news' : Led} {Q : Value → Shared → Prop}
theorem my_lenL (N : News h₀ L s.heap news) (hm : (D, listOf xs.toArray n) ∈ news) (hz : xs.length ≤ 1000)
    (h : Q (.int xs.length (s.toks + 1)) { s with toks := s.toks + 1 + 1 }) : wpAny (model prog w) A (call (.builtin "len") [.ref D]) Q E s :=
  len_list (News.isList N hm) (by simp only [List.size_toArray]; omega) (by simpa only [List.size_toArray] using h)
theorem my_lenT (N : News h₀ L s.heap news) (hm : (D, tupOf xs n) ∈ news) (hz : xs.length ≤ 1000)
    (h : Q (.int xs.length (s.toks + 1)) { s with toks := s.toks + 1 + 1 }) : wpAny (model prog w) A (call (.builtin "len") [.ref D]) Q E s :=
  len_tuple (News.isTup N hm) (by simp only [List.size_toArray]; omega) (by simpa only [List.size_toArray] using h)
theorem my_append {x : Value} (F : Fr h₀ L s.heap m) (N : News h₀ L s.heap news) (U : Upd D (listOf xs.toArray n) (listOf (xs ++ [x]).toArray (n + 1)) news news') (hz : xs.length ≤ 1000)
    (h : ∀ h', Fr h₀ L h' m → News h₀ L h' news' → Q .none { s with heap := h' }) : wpAny (model prog w) A (call (.builtin "list.append") [.ref D, x]) Q E s := by
  rw [← List.push_toArray] at U
  exact append_K F N U h (by rw [List.size_toArray, sizeLine_eq]; omega)
end
section
variable {prog : Program} {w : World} {A : Around} {E : Value → Shared → Prop} {s : Shared} {h₀ : Heap} {L D : Addr} {m : Str → Option Value} {xs : List Value} {n : Nat} {news news' : Led} {Q : Value → Shared → Prop}
theorem my_tupOf (F : Fr h₀ L s.heap m) (N : News h₀ L s.heap news) (hm : (D, listOf xs.toArray n) ∈ news) (hz : xs.length ≤ 1000)
    (h : ∀ T h', Fr h₀ L h' m → News h₀ L h' ((T, tupOf xs 0) :: news) → (∀ p ∈ news, p.1 < T) → Q (.ref T) { s with heap := h' }) : wpAny (model prog w) A (call (.type "tuple") [.ref D]) Q E s :=
  kde_tupleOf F N (News.isList N hm) (by rw [List.size_toArray]; omega) rfl h
end
section
variable {prog : Program} {w : World} {A : Around} {E : Value → Shared → Prop} {s : Shared} {h₀ : Heap} {L D : Addr} {m : Str → Option Value} {xs : List Value} {n : Nat} {news news' : Led} {Q : Value → Shared → Prop}
theorem my_getLast {v : Value} {u : Tok} (N : News h₀ L s.heap news) (hm : (D, listOf (xs ++ [v]).toArray n) ∈ news) (h : Q v s) : wpAny (model prog w) A (getItem (.ref D) (.int (-1) u)) Q E s := by
  refine wpAny_getItem_list_neg (News.isList N hm) (by omega) (by simp only [List.size_toArray, List.length_append, List.length_cons, List.length_nil]; omega) (by omega) ?_ h
  have e : ((-1 : Int) + ((xs ++ [v]).toArray.size : Nat)).toNat = xs.length := by simp only [List.size_toArray, List.length_append, List.length_cons, List.length_nil]; omega
  rw [e]; simp
theorem my_last {value slice : PySem.Expr} {v : Value} {u : Tok} (N : News h₀ L s.heap news) (hm : (D, listOf (xs ++ [v]).toArray n) ∈ news) (h : Q v s)
    (hs : subscripted slice false (.ref D) (.int (-1) u) = operate [.ref D, .int (-1) u] (getItem (.ref D) (.int (-1) u)) := by with_unfolding_all rfl) :
    wpAny (model prog w) A (subscriptTail value slice (.ref D) (.int (-1) u)) Q E s :=
  tail_any (News.isList N hm).typeIs slot_list_getitem.lookup (my_getLast N hm h) hs
theorem my_itemL {value slice : PySem.Expr} {v : Value} {k : Int} {u : Tok} {j : Nat} (N : News h₀ L s.heap news) (hm : (D, listOf xs.toArray n) ∈ news) (hx : xs[j]? = some v) (hk : k = j) (hz : xs.length ≤ 1000) (h : Q v s)
    (hs : subscripted slice false (.ref D) (.int k u) = operate [.ref D, .int k u] (getItem (.ref D) (.int k u)) := by with_unfolding_all rfl) :
    wpAny (model prog w) A (subscriptTail value slice (.ref D) (.int k u)) Q E s := by
  have hj : j < xs.length := (List.getElem?_eq_some_iff.mp hx).1
  subst hk
  exact tail_any (News.isList N hm).typeIs slot_list_getitem.lookup (getItem_listL (News.isList N hm) (by omega) (by omega) (by simpa using hx) h) hs
theorem my_itemT {value slice : PySem.Expr} {v : Value} {k : Int} {u : Tok} {j : Nat} (N : News h₀ L s.heap news) (hm : (D, tupOf xs n) ∈ news) (hx : xs[j]? = some v) (hk : k = j) (hz : xs.length ≤ 1000) (h : Q v s)
    (hs : subscripted slice false (.ref D) (.int k u) = operate [.ref D, .int k u] (getItem (.ref D) (.int k u)) := by with_unfolding_all rfl) :
    wpAny (model prog w) A (subscriptTail value slice (.ref D) (.int k u)) Q E s := by
  have hj : j < xs.length := (List.getElem?_eq_some_iff.mp hx).1
  subst hk
  refine tail_any (News.isTup N hm).typeIs slot_tuple_getitem.lookup (getItem_tuple (News.isTup N hm) (by omega) (by omega) (j := j) ?_ (by simpa using hx) h) hs
  unfold seqIndex?
  simp only [List.size_toArray]
  split
  · omega
  · rw [if_pos (by simp; omega), Int.toNat_natCast]
theorem kl_last_append (xs : List Value) (v : Value) : kl_last (xs ++ [v]) = some (xs, v) := by
  induction xs with
  | nil => rfl
  | cons x r ih => show (match kl_last (r ++ [v]) with | some (p, y) => some (x :: p, y) | none => some ([], x)) = _; rw [ih]
theorem my_pop {v : Value} (F : Fr h₀ L s.heap m) (N : News h₀ L s.heap news) (U : Upd D (listOf (xs ++ [v]).toArray n) (listOf xs.toArray (n + 1)) news news') (hz : xs.length ≤ 1000)
    (h : ∀ h', Fr h₀ L h' m → News h₀ L h' news' → Q v { s with heap := h' }) : wpAny (model prog w) A (call (.builtin "list.pop") [.ref D]) Q E s :=
  kl_pop F N (kl_last_append xs v) U (by simp only [List.length_append, List.length_cons, List.length_nil, sizeLine_eq]; omega) h
end
/-- a Player's dict: its one field -/
abbrev plD (h : Int) (k : Tok) (S : Addr) : Obj := dictOf [⟨h, Value.str (Str.ofString "stack") k, Value.ref S⟩] 1
/-- a Playing's dict -/
abbrev fmD (w : World) (r : Addr) (turns place over : Int) (t1 t2 t3 k1 k2 k3 k4 k5 : Tok) : Obj :=
  dictOf [⟨PyData.keyHash w.params (Str.ofString "events"), Value.str (Str.ofString "events") k1, Value.ref r⟩, ⟨PyData.keyHash w.params (Str.ofString "turns"), Value.str (Str.ofString "turns") k2, Value.int turns t1⟩,
    ⟨PyData.keyHash w.params (Str.ofString "caller"), Value.str (Str.ofString "caller") k3, Value.none⟩, ⟨PyData.keyHash w.params (Str.ofString "place"), Value.str (Str.ofString "place") k4, Value.int place t2⟩,
    ⟨PyData.keyHash w.params (Str.ofString "over"), Value.str (Str.ofString "over") k5, Value.int over t3⟩] 5

abbrev Mp := Str → Option Value
section
variable {prog : Program} {w : World} {A : Around} {E : Value → Shared → Prop} {s : Shared} {env : Env} {h₀ : Heap} {x : Str} {body : List Stmt} {target : PySem.Expr} {Q : Flow → Shared → Prop}
theorem range_ind {I : Addr} {a : Int} {n : Nat} (J : Nat → Mp → Led → Prop)
    (turn : ∀ i t h tk m news, i < n → J i m news → Fr h₀ env.locals h (fun y => if y = x then some (.int (a + (i : Int)) t) else m y) → News h₀ env.locals h ((I, itR (a + ((i + 1 : Nat) : Int)) ((n : Int) - ((i + 1 : Nat) : Int))) :: news) →
      wpAny (model prog w) A (execs body env) (UnrPost h₀ env.locals { s with heap := h, toks := tk } I (itR (a + ((i + 1 : Nat) : Int)) ((n : Int) - ((i + 1 : Nat) : Int))) (J (i + 1)) Q) E { s with heap := h, toks := tk })
    (done : ∀ h tk m news, J n m news → Fr h₀ env.locals h m → News h₀ env.locals h news → Q .next { s with heap := h, toks := tk }) :
    ∀ k i m news, i + k = n → J i m news → RangeRest prog w A E h₀ env x body Q s I a n k i m news := by
  intro k
  induction k with
  | zero =>
    intro i m news e j h tk F N
    have : i = n := by omega
    subst this
    exact done h tk m news j F N
  | succ k ih =>
    intro i m news e j t h tk F N
    refine wpAny_mono (turn i t h tk m news (by omega) j F N) (fun f s₂ p => ?_) fun _ _ e => e
    cases f with
    | ret v => exact p
    | brk => exact p
    | next =>
      obtain ⟨h', tk', m', news', e', F', N', o', r'⟩ := p
      exact ⟨h', tk', m', news', e', F', N', o', ih (i + 1) m' news' (by omega) r'⟩
    | cont =>
      obtain ⟨h', tk', m', news', e', F', N', o', r'⟩ := p
      exact ⟨h', tk', m', news', e', F', N', o', ih (i + 1) m' news' (by omega) r'⟩
theorem range_inv {r : Addr} {a₀ b₀ : Int} {t₀ u₀ v₀ : Tok} {m₀ : Mp} {news : Led} (n : Nat) (J : Addr → Nat → Mp → Led → Prop)
    (hh : A.handled = none) (hr : IsRange s.heap r a₀ b₀ 1 t₀ u₀ v₀) (hsmall : Builtin.Range.small a₀ b₀ 1 = true) (hn : Builtin.Range.rangeSize a₀ b₀ 1 = (n : Int)) (F : Fr h₀ env.locals s.heap m₀) (N : News h₀ env.locals s.heap news)
    (start : ∀ I : Addr, (∀ p ∈ news, p.1 < I) → J I 0 m₀ news)
    (turn : ∀ I i t h tk m news, i < n → J I i m news → Fr h₀ env.locals h (fun y => if y = x then some (.int (a₀ + (i : Int)) t) else m y) → News h₀ env.locals h ((I, itR (a₀ + ((i + 1 : Nat) : Int)) ((n : Int) - ((i + 1 : Nat) : Int))) :: news) →
      wpAny (model prog w) A (execs body env) (UnrPost h₀ env.locals { s with heap := h, toks := tk } I (itR (a₀ + ((i + 1 : Nat) : Int)) ((n : Int) - ((i + 1 : Nat) : Int))) (J I (i + 1)) Q) E { s with heap := h, toks := tk })
    (done : ∀ I h tk m news, J I n m news → Fr h₀ env.locals h m → News h₀ env.locals h news → Q .next { s with heap := h, toks := tk }) :
    wpAny (model prog w) A (pyIter (.ref r)) (fun it s₂ => LoopAtV prog w A h₀ env x body Q E it s₂) E s :=
  iter_rangeUnr hh hr hsmall hn F N fun I hI => range_ind (J I) (turn I) (done I) n 0 m₀ news (by omega) (start I hI)
theorem tup_ind {α : Type} (f : α → Value) {I : Addr} {keep : Led} (J : List α → List α → Mp → Led → Prop)
    (turn : ∀ pre x r o h tk m news, o.cls = .type "tuple_iterator" → J pre (x :: r) m news → Fr h₀ env.locals h m → News h₀ env.locals h ((I, o) :: news) →
      wpAny (model prog w) A (assign target env (f x)) (fun _ s₂ => wpAny (model prog w) A (execs body env) (UnrPostW h₀ env.locals { s with heap := h, toks := tk } [(I, o)] (fun m' n' => SubL keep n' ∧ J (pre ++ [x]) r m' n') Q) E s₂) E { s with heap := h, toks := tk })
    (done : ∀ pre h tk m news, J pre [] m news → Fr h₀ env.locals h m → News h₀ env.locals h news → Q .next { s with heap := h, toks := tk }) :
    ∀ r pre m news, J pre r m news → ItemsRest prog w A E h₀ env target body Q s [(I, "tuple_iterator")] keep (r.map fun x => Itm.val (f x)) m news := by
  intro r
  induction r with
  | nil => intro pre m news j h tk F N; exact done pre h tk m news j F N
  | cons x r ih =>
    intro pre m news j
    refine ItemsRest.val fun h tk F o ho N => ?_
    refine wpAny_mono (turn pre x r o h tk m news ho j F N) (fun _ s₂ q => wpAny_mono q (fun f s₃ p => ?_) fun _ _ e => e) fun _ _ e => e
    cases f with
    | ret v => exact p
    | brk => exact p
    | next =>
      obtain ⟨h', tk', m', news', e', F', N', o', k', r'⟩ := p
      exact ⟨h', tk', m', news', e', F', N', o', k', ih _ m' news' r'⟩
    | cont =>
      obtain ⟨h', tk', m', news', e', F', N', o', k', r'⟩ := p
      exact ⟨h', tk', m', news', e', F', N', o', k', ih _ m' news' r'⟩
theorem tup_inv {α : Type} (f : α → Value) {ax : Addr} {xs : List α} {n : Nat} {m₀ : Mp} {news : Led} (J : Addr → List α → List α → Mp → Led → Prop)
    (hh : A.handled = none) (F : Fr h₀ env.locals s.heap m₀) (N : News h₀ env.locals s.heap news) (hm : (ax, tupOf (xs.map f) n) ∈ news)
    (start : ∀ I : Addr, (∀ p ∈ news, p.1 < I) → J I [] xs m₀ news)
    (turn : ∀ I pre x r o h tk m news, o.cls = .type "tuple_iterator" → J I pre (x :: r) m news → Fr h₀ env.locals h m → News h₀ env.locals h ((I, o) :: news) →
      wpAny (model prog w) A (assign target env (f x)) (fun _ s₂ => wpAny (model prog w) A (execs body env) (UnrPostW h₀ env.locals { s with heap := h, toks := tk } [(I, o)] (fun m' n' => SubL [(ax, tupOf (xs.map f) n)] n' ∧ J I (pre ++ [x]) r m' n') Q) E s₂) E { s with heap := h, toks := tk })
    (done : ∀ I pre h tk m news, J I pre [] m news → Fr h₀ env.locals h m → News h₀ env.locals h news → Q .next { s with heap := h, toks := tk }) :
    wpAny (model prog w) A (pyIter (.ref ax)) (fun it s₂ => TurnsAt prog w A h₀ env target body Q E it s₂) E s :=
  iter_tupTurns hh F N hm rfl rfl fun I hI => by
    have := tup_ind (prog := prog) (w := w) (A := A) (E := E) (s := s) (env := env) (h₀ := h₀) (body := body) (target := target) (Q := Q) f (J I) (turn I) (done I) xs [] m₀ news (start I hI)
    rw [List.map_map]
    exact this
end
def Halt (P : Prop) : Prop := P
theorem halt {P : Prop} (h : Halt P) : P := h
theorem Halt.go {P : Prop} (h : P) : Halt P := h
def Apart (news : Led) : Prop := (news.map (·.1)).Nodup
theorem apart_nil : Apart [] ↔ True := iff_of_true List.nodup_nil trivial
theorem apart_cons {p : Addr × Obj} {r : Led} : Apart (p :: r) ↔ (∀ q ∈ r, q.1 ≠ p.1) ∧ Apart r := by
  unfold Apart
  rw [List.map_cons, List.nodup_cons]
  refine and_congr_left fun _ => ⟨fun h q hq e => h (e ▸ List.mem_map_of_mem hq), fun h e => ?_⟩
  obtain ⟨q, hq, e⟩ := List.mem_map.mp e
  exact h q hq e
theorem apart_app {a b : Led} : Apart (a ++ b) ↔ Apart a ∧ Apart b ∧ ∀ p ∈ a, ∀ q ∈ b, p.1 ≠ q.1 := by
  unfold Apart
  rw [List.map_append, List.nodup_append]
  refine and_congr_right fun _ => and_congr_right fun _ => ⟨fun h p hp q hq => h _ (List.mem_map_of_mem hp) _ (List.mem_map_of_mem hq), fun h x hx y hy => ?_⟩
  obtain ⟨p, hp, rfl⟩ := List.mem_map.mp hx
  obtain ⟨q, hq, rfl⟩ := List.mem_map.mp hy
  exact h p hp q hq
theorem news_sub {h₀ h : Heap} {L : Addr} {a b : Led} (N : News h₀ L h a) (hs : ∀ p ∈ b, p ∈ a) : News h₀ L h b := fun p hp => N p (hs p hp)
section
variable {w : World} {mean : ExcName → Option Value} {mg mb : Mp} {f : Addr} {dd uu : Nat} {vs : List Value} {news : Led} {Post : Value → Led → Prop}
theorem Says.use {dp un : Nat} {gd : Option (List Code)} {cn : Str} {cs : Scope} {a : Addr} {ccd : Value} {cl : List (Str × Addr)} {outer : List Env} {A₀ : Around} {base h₀ : Heap} {L : Addr} {m : Mp} {s : Shared} {Q E : Value → Shared → Prop}
    (C : Says w mean mg mb f dd uu vs news Post) (B : Below A₀ base outer h₀) (F : Fr h₀ L s.heap m) (X : (hd.heap_39 w.params).In h₀) (N : News h₀ L s.heap news) (T : Top hd.view_39 (looseW hd.view_39 []) mean mg mb h₀)
    (hk : cs.kind = .function) (hd : dp + dd < recursionLimit) (hu : un + uu < cLine)
    (ret : ∀ r news' h' tk', Fr h₀ L h' m → News h₀ L h' news' → Post r news' → Q r { s with heap := h', toks := tk' }) :
    Halt (wpAny (model PySem.Challenge.rw_ok0044_01.row.prog w) (ktrTop dp un gd cn cs L a ccd cl outer) (call (.ref f) vs) Q E s) :=
  C _ _ _ _ _ _ _ _ _ _ _ _ _ _ _ _ _ B F X N T hk hd hu ret
end
theorem apart_two {old news : Led} {x d : Addr} (hA : Apart old) (e : news.map (·.1) = x :: d :: old.map (·.1)) (l1 : ∀ q ∈ old, q.1 < d) (l2 : d < x) : Apart news := by
  unfold Apart at hA ⊢
  rw [e, List.nodup_cons, List.nodup_cons]
  refine ⟨fun h => ?_, fun h => ?_, hA⟩
  · rcases List.mem_cons.mp h with rfl | h
    · exact Nat.lt_irrefl _ l2
    · obtain ⟨q, hq, e⟩ := List.mem_map.mp h
      have h1 := l1 q hq
      rw [e] at h1
      exact Nat.lt_irrefl _ (Nat.lt_trans l2 h1)
  · obtain ⟨q, hq, e⟩ := List.mem_map.mp h
    have h1 := l1 q hq
    rw [e] at h1
    exact Nat.lt_irrefl _ h1
theorem mid_intro {prog : Program} {w : World} {A : Around} {E : Value → Shared → Prop} {s : Shared} {t : Sem Flow} {Q : Flow → Shared → Prop} (P : Heap → Nat → Prop)
    (mid : ∀ h tk, P h tk → Q .next { s with heap := h, toks := tk })
    (loop : ∀ Q' : Flow → Shared → Prop, (∀ h tk, P h tk → Q' .next { s with heap := h, toks := tk }) → (∀ v s', Q (.ret v) s' → Q' (.ret v) s') → wpAny (model prog w) A t Q' E s) :
    wpAny (model prog w) A t Q E s := loop Q mid fun _ _ x => x
def Pass (_ : Nat) : Prop := True
theorem pass (n : Nat) : Pass n := trivial

/-- a sign of a row: a plain int, or a pair (row, turns) at an address -/
inductive Sg where
  | pl (n : Int) (t : Tok)
  | go (a : Addr) (i : Nat) (k : Int)
def Sg.val : Sg → Value
  | .pl n t => .int n t
  | .go a _ _ => .ref a
abbrev Rows := List (Addr × List Sg)
def sgs (rows : Rows) (j : Nat) : List Sg := (rows[j]?.map (·.2)).getD []
structure Fm where
  row : Nat
  turns : Int
  place : Nat
  over : Int
structure MSt where
  stack : List Fm
  told : List Sg
/-- what a turn's end makes of the turns -/
def dec (t : Int) : Int := if t = -1 then -1 else t - 1
def mstep (rows : Rows) (most : Nat) : MSt → Option MSt
  | ⟨[], _⟩ => none
  | ⟨f :: fs, told⟩ =>
    if most ≤ told.length then none
    else if f.turns = 0 ∨ sgs rows f.row = [] then some ⟨fs, told⟩
    else match (sgs rows f.row)[f.place]? with
      | none => some ⟨⟨f.row, dec f.turns, 0, f.over + 1⟩ :: fs, told⟩
      | some (.pl n t) =>
        if n = 50 then some ⟨⟨f.row, f.turns, (sgs rows f.row).length, f.over⟩ :: fs, told ++ [.pl n t]⟩
        else if n = 51 then some ⟨⟨f.row, 1, (sgs rows f.row).length, f.over⟩ :: fs, told ++ [.pl n t]⟩
        else some ⟨⟨f.row, f.turns, f.place + 1, f.over⟩ :: fs, told ++ [.pl n t]⟩
      | some (.go a i k) => some ⟨⟨i, k, 0, 0⟩ :: ⟨f.row, f.turns, f.place + 1, f.over⟩ :: fs, told ++ [.go a i k]⟩
inductive Reach (rows : Rows) (most : Nat) (a : MSt) : MSt → Prop
  | refl : Reach rows most a a
  | tail {b c : MSt} : Reach rows most a b → mstep rows most b = some c → Reach rows most a c
section
variable {rows : Rows} {most : Nat}
theorem Reach.trans {a b c : MSt} (h : Reach rows most a b) (k : Reach rows most b c) : Reach rows most a c := by
  induction k with
  | refl => exact h
  | tail _ e ih => exact .tail ih e
theorem Reach.one {a b : MSt} (e : mstep rows most a = some b) : Reach rows most a b := .tail .refl e
theorem Reach.cmp {a b c : MSt} (h : Reach rows most a b) (k : Reach rows most a c) : Reach rows most b c ∨ Reach rows most c b := by
  induction h with
  | refl => exact .inl k
  | @tail b d _ e ih =>
    rcases ih with ih | ih
    · have key : ∀ c, Reach rows most b c → c = b ∨ Reach rows most d c := by
        intro c hc
        induction hc with
        | refl => exact .inl rfl
        | tail _ e' ih' =>
          rcases ih' with rfl | ih'
          · rw [e] at e'; cases e'; exact .inr .refl
          · exact .inr (.tail ih' e')
      rcases key c ih with rfl | h1
      · exact .inr (.one e)
      · exact .inl h1
    · exact .inr (.tail ih e)
theorem Reach.stuck {a b : MSt} (h : Reach rows most a b) (e : mstep rows most a = none) : b = a := by
  induction h with
  | refl => rfl
  | tail _ e' ih => subst ih; rw [e] at e'; cases e'
theorem Reach.same {a b c : MSt} (h : Reach rows most a b) (k : Reach rows most a c) (hb : mstep rows most b = none) (hc : mstep rows most c = none) : b = c := by
  rcases h.cmp k with x | x
  · exact (x.stuck hb).symm
  · exact x.stuck hc
theorem mstep_full {st : MSt} (h : most ≤ st.told.length) : mstep rows most st = none := by
  obtain ⟨s, t⟩ := st
  cases s with
  | nil => rfl
  | cons f fs => exact if_pos h
theorem mstep_nil {t : List Sg} : mstep rows most ⟨[], t⟩ = none := rfl
theorem mstep_pop {f : Fm} {fs : List Fm} {told : List Sg} (h : told.length < most) (e : f.turns = 0 ∨ sgs rows f.row = []) : mstep rows most ⟨f :: fs, told⟩ = some ⟨fs, told⟩ := by
  show (if most ≤ told.length then none else _) = _
  rw [if_neg (by omega), if_pos e]
theorem mstep_turn {f : Fm} {fs : List Fm} {told : List Sg} (h : told.length < most) (e : ¬(f.turns = 0 ∨ sgs rows f.row = [])) (p : (sgs rows f.row)[f.place]? = none) :
    mstep rows most ⟨f :: fs, told⟩ = some ⟨⟨f.row, dec f.turns, 0, f.over + 1⟩ :: fs, told⟩ := by
  show (if most ≤ told.length then none else _) = _
  rw [if_neg (by omega), if_neg e]
  simp only [p]
theorem mstep_50 {f : Fm} {fs : List Fm} {told : List Sg} {t : Tok} (h : told.length < most) (e : ¬(f.turns = 0 ∨ sgs rows f.row = [])) (p : (sgs rows f.row)[f.place]? = some (.pl 50 t)) :
    mstep rows most ⟨f :: fs, told⟩ = some ⟨⟨f.row, f.turns, (sgs rows f.row).length, f.over⟩ :: fs, told ++ [.pl 50 t]⟩ := by
  show (if most ≤ told.length then none else _) = _
  rw [if_neg (by omega), if_neg e]
  simp only [p]
  rfl
theorem mstep_51 {f : Fm} {fs : List Fm} {told : List Sg} {t : Tok} (h : told.length < most) (e : ¬(f.turns = 0 ∨ sgs rows f.row = [])) (p : (sgs rows f.row)[f.place]? = some (.pl 51 t)) :
    mstep rows most ⟨f :: fs, told⟩ = some ⟨⟨f.row, 1, (sgs rows f.row).length, f.over⟩ :: fs, told ++ [.pl 51 t]⟩ := by
  show (if most ≤ told.length then none else _) = _
  rw [if_neg (by omega), if_neg e]
  simp only [p]
  rfl
theorem mstep_pl {f : Fm} {fs : List Fm} {told : List Sg} {n : Int} {t : Tok} (h : told.length < most) (e : ¬(f.turns = 0 ∨ sgs rows f.row = [])) (p : (sgs rows f.row)[f.place]? = some (.pl n t)) (n1 : n ≠ 50) (n2 : n ≠ 51) :
    mstep rows most ⟨f :: fs, told⟩ = some ⟨⟨f.row, f.turns, f.place + 1, f.over⟩ :: fs, told ++ [.pl n t]⟩ := by
  show (if most ≤ told.length then none else _) = _
  rw [if_neg (by omega), if_neg e]
  simp only [p]
  rw [if_neg n1, if_neg n2]
theorem mstep_go {f : Fm} {fs : List Fm} {told : List Sg} {a : Addr} {i : Nat} {k : Int} (h : told.length < most) (e : ¬(f.turns = 0 ∨ sgs rows f.row = [])) (p : (sgs rows f.row)[f.place]? = some (.go a i k)) :
    mstep rows most ⟨f :: fs, told⟩ = some ⟨⟨i, k, 0, 0⟩ :: ⟨f.row, f.turns, f.place + 1, f.over⟩ :: fs, told ++ [.go a i k]⟩ := by
  show (if most ≤ told.length then none else _) = _
  rw [if_neg (by omega), if_neg e]
  simp only [p]
end

/-- within a due walk: the machine stands at the row's frame; or the signs are all told, and that frame lies somewhere with the turns that are over -/
def DueAt (rows : Rows) (most : Nat) (row : Nat) (turns₀ : Int) (told₀ : List Sg) (turns : Int) (place : Nat) (over : Int) (told : List Sg) : Prop :=
  told.length ≤ most ∧ ∀ S, (told.length < most → Reach rows most ⟨⟨row, turns₀, 0, 0⟩ :: S, told₀⟩ ⟨⟨row, turns, place, over⟩ :: S, told⟩) ∧
    (told.length = most → ∃ S' f, f.over = over ∧ Reach rows most ⟨⟨row, turns₀, 0, 0⟩ :: S, told₀⟩ ⟨S' ++ f :: S, told⟩)
def DueEnd (rows : Rows) (most : Nat) (row : Nat) (turns₀ : Int) (told₀ : List Sg) (over : Int) (told : List Sg) : Prop :=
  told.length ≤ most ∧ ∀ S, (told.length < most → Reach rows most ⟨⟨row, turns₀, 0, 0⟩ :: S, told₀⟩ ⟨S, told⟩) ∧
    (told.length = most → ∃ S' f, f.over = over ∧ Reach rows most ⟨⟨row, turns₀, 0, 0⟩ :: S, told₀⟩ ⟨S' ++ f :: S, told⟩)
section
variable {rows : Rows} {most row : Nat} {turns₀ : Int} {told₀ : List Sg} {turns over : Int} {place : Nat} {told : List Sg}
theorem DueAt.start (h : told₀.length ≤ most) : DueAt rows most row turns₀ told₀ turns₀ 0 0 told₀ :=
  ⟨h, fun S => ⟨fun _ => .refl, fun _ => ⟨[], ⟨row, turns₀, 0, 0⟩, rfl, .refl⟩⟩⟩
theorem DueAt.step {turns' : Int} {place' : Nat} {over' : Int} {told' : List Sg} (D : DueAt rows most row turns₀ told₀ turns place over told) (h : told.length < most) (h' : told'.length ≤ most)
    (e : ∀ S, mstep rows most ⟨⟨row, turns, place, over⟩ :: S, told⟩ = some ⟨⟨row, turns', place', over'⟩ :: S, told'⟩) : DueAt rows most row turns₀ told₀ turns' place' over' told' :=
  ⟨h', fun S => ⟨fun _ => .tail ((D.2 S).1 h) (e S), fun _ => ⟨[], ⟨row, turns', place', over'⟩, rfl, .tail ((D.2 S).1 h) (e S)⟩⟩⟩
theorem len1 (l : List Sg) (x : Sg) : (l ++ [x]).length = l.length + 1 := by simp
theorem DueAt.pl (D : DueAt rows most row turns₀ told₀ turns place over told) (h : told.length < most) (h0 : turns ≠ 0) {n : Int} {t : Tok} (p : (sgs rows row)[place]? = some (.pl n t)) (n1 : n ≠ 50) (n2 : n ≠ 51) :
    DueAt rows most row turns₀ told₀ turns (place + 1) over (told ++ [.pl n t]) :=
  D.step h (by rw [len1]; omega) fun S => mstep_pl (f := ⟨row, turns, place, over⟩) h (fun x => x.elim h0 fun e => by simp only at e; rw [e] at p; simp at p) p n1 n2
theorem DueAt.pl50 (D : DueAt rows most row turns₀ told₀ turns place over told) (h : told.length < most) (h0 : turns ≠ 0) {t : Tok} (p : (sgs rows row)[place]? = some (.pl 50 t)) :
    DueAt rows most row turns₀ told₀ turns (sgs rows row).length over (told ++ [.pl 50 t]) :=
  D.step h (by rw [len1]; omega) fun S => mstep_50 (f := ⟨row, turns, place, over⟩) h (fun x => x.elim h0 fun e => by simp only at e; rw [e] at p; simp at p) p
theorem DueAt.pl51 (D : DueAt rows most row turns₀ told₀ turns place over told) (h : told.length < most) (h0 : turns ≠ 0) {t : Tok} (p : (sgs rows row)[place]? = some (.pl 51 t)) :
    DueAt rows most row turns₀ told₀ 1 (sgs rows row).length over (told ++ [.pl 51 t]) :=
  D.step h (by rw [len1]; omega) fun S => mstep_51 (f := ⟨row, turns, place, over⟩) h (fun x => x.elim h0 fun e => by simp only at e; rw [e] at p; simp at p) p
theorem DueAt.turn (D : DueAt rows most row turns₀ told₀ turns place over told) (h : told.length < most) (h0 : turns ≠ 0) (h1 : sgs rows row ≠ []) (p : place = (sgs rows row).length) :
    DueAt rows most row turns₀ told₀ (dec turns) 0 (over + 1) told :=
  D.step h D.1 fun S => mstep_turn (f := ⟨row, turns, place, over⟩) h (fun x => x.elim h0 h1) (by rw [p]; simp)
theorem DueAt.go {told' : List Sg} {over' : Int} (D : DueAt rows most row turns₀ told₀ turns place over told) (h : told.length < most) (h0 : turns ≠ 0) {a : Addr} {i : Nat} {k : Int} (p : (sgs rows row)[place]? = some (.go a i k))
    (C : DueEnd rows most i k (told ++ [.go a i k]) over' told') : DueAt rows most row turns₀ told₀ turns (place + 1) over told' := by
  refine ⟨C.1, fun S => ?_⟩
  have r1 := (D.2 S).1 h
  have e := mstep_go (fs := S) (f := ⟨row, turns, place, over⟩) h (fun x => x.elim h0 fun e => by simp only at e; rw [e] at p; simp at p) p
  have r2 := Reach.tail r1 e
  have c := C.2 (⟨row, turns, place + 1, over⟩ :: S)
  refine ⟨fun q => r2.trans (c.1 q), fun q => ?_⟩
  obtain ⟨S', f, _, r3⟩ := c.2 q
  refine ⟨S' ++ [f], ⟨row, turns, place + 1, over⟩, rfl, r2.trans ?_⟩
  rw [List.append_assoc]
  exact r3
theorem DueAt.full (D : DueAt rows most row turns₀ told₀ turns place over told) (h : told.length = most) : DueEnd rows most row turns₀ told₀ over told :=
  ⟨D.1, fun S => ⟨fun q => absurd h (by omega), (D.2 S).2⟩⟩
theorem DueAt.stop (D : DueAt rows most row turns₀ told₀ turns place over told) (e : turns = 0 ∨ sgs rows row = [] ∨ most ≤ told.length) : DueEnd rows most row turns₀ told₀ over told := by
  refine ⟨D.1, fun S => ⟨fun q => ?_, (D.2 S).2⟩⟩
  exact .tail ((D.2 S).1 q) (mstep_pop (f := ⟨row, turns, place, over⟩) q (by rcases e with e | e | e; exact .inl e; exact .inr e; omega))
end
theorem mstep_grows {rows : Rows} {most : Nat} {a b : MSt} (h : mstep rows most a = some b) : a.told.length ≤ b.told.length := by
  obtain ⟨st, told⟩ := a
  cases st with
  | nil => cases h
  | cons f fs =>
    change (if most ≤ told.length then none else _) = _ at h
    split at h
    · cases h
    · split at h
      · cases h; exact Nat.le_refl _
      · split at h
        · cases h; exact Nat.le_refl _
        · split at h
          · cases h; simp
          · split at h
            · cases h; simp
            · cases h; simp
        · cases h; simp
theorem Reach.grows {rows : Rows} {most : Nat} {a b : MSt} (h : Reach rows most a b) : a.told.length ≤ b.told.length := by
  induction h with
  | refl => exact Nat.le_refl _
  | tail _ e ih => exact Nat.le_trans ih (mstep_grows e)
theorem DueEnd.grows {rows : Rows} {most row : Nat} {turns₀ over : Int} {told₀ told : List Sg} (D : DueEnd rows most row turns₀ told₀ over told) : told₀.length ≤ told.length := by
  rcases Nat.lt_or_ge told.length most with h | h
  · exact ((D.2 []).1 h).grows
  · obtain ⟨S', f, _, r⟩ := (D.2 []).2 (Nat.le_antisymm D.1 h)
    exact r.grows
theorem mstep_le {rows : Rows} {most : Nat} {a b : MSt} (h : mstep rows most a = some b) (ha : a.told.length ≤ most) : b.told.length ≤ most := by
  obtain ⟨st, told⟩ := a
  cases st with
  | nil => cases h
  | cons f fs =>
    change (if most ≤ told.length then none else _) = _ at h
    split at h
    · cases h
    · rename_i h1
      split at h
      · cases h; exact ha
      · split at h
        · cases h; exact ha
        · split at h
          · cases h; rw [len1]; omega
          · split at h
            · cases h; rw [len1]; omega
            · cases h; rw [len1]; omega
        · cases h; rw [len1]; omega
theorem Reach.le {rows : Rows} {most : Nat} {a b : MSt} (h : Reach rows most a b) (ha : a.told.length ≤ most) : b.told.length ≤ most := by
  induction h with
  | refl => exact ha
  | tail _ e ih => exact mstep_le e ih

def SgOk (news : Led) (many j : Nat) : Sg → Prop
  | .pl _ _ => True
  | .go a i k => j < i ∧ i < many ∧ 0 ≤ k ∧ k ≤ 2 ∧ ∃ t1 t2 n, (a, tupOf [.int i t1, .int k t2] n) ∈ news
def RowOk (news : Led) (many j : Nat) (row : Addr × List Sg) : Prop := (∃ n, (row.1, tupOf (row.2.map Sg.val) n) ∈ news) ∧ row.2.length ≤ 5 ∧ ∀ sg ∈ row.2, SgOk news many j sg
def RowsOk (news : Led) (many : Nat) (rows : Rows) : Prop := ∀ j row, rows[j]? = some row → RowOk news many j row
def rowRef (x : Addr × List Sg) : Value := .ref x.1
def TabIn (news : Led) (T : Addr) (rows : Rows) : Prop := rows.length ≤ 4 ∧ (∃ n, (T, listOf (rows.map rowRef).toArray n) ∈ news) ∧ RowsOk news rows.length rows
theorem SgOk.mono {a b : Led} {many j : Nat} {sg : Sg} (h : SgOk a many j sg) (hs : ∀ p ∈ a, p ∈ b) : SgOk b many j sg := by
  cases sg with
  | pl n t => trivial
  | go x i k => obtain ⟨h1, h2, h3, h4, t1, t2, n, h5⟩ := h; exact ⟨h1, h2, h3, h4, t1, t2, n, hs _ h5⟩
theorem RowOk.mono {a b : Led} {many j : Nat} {row : Addr × List Sg} (h : RowOk a many j row) (hs : ∀ p ∈ a, p ∈ b) : RowOk b many j row :=
  let ⟨⟨n, h1⟩, h2, h3⟩ := h; ⟨⟨n, hs _ h1⟩, h2, fun sg m => (h3 sg m).mono hs⟩
theorem RowsOk.mono {a b : Led} {many : Nat} {rows : Rows} (h : RowsOk a many rows) (hs : ∀ p ∈ a, p ∈ b) : RowsOk b many rows := fun j row e => (h j row e).mono hs
theorem TabIn.mono {a b : Led} {T : Addr} {rows : Rows} (h : TabIn a T rows) (hs : ∀ p ∈ a, p ∈ b) : TabIn b T rows :=
  let ⟨h1, ⟨n, h2⟩, h3⟩ := h; ⟨h1, ⟨n, hs _ h2⟩, h3.mono hs⟩
theorem TabIn.row {news : Led} {T : Addr} {rows : Rows} (h : TabIn news T rows) {j : Nat} (hj : j < rows.length) :
    ∃ r ev n nT, (rows.map rowRef)[j]? = some (.ref r) ∧ (T, listOf (rows.map rowRef).toArray nT) ∈ news ∧ (r, tupOf (ev.map Sg.val) n) ∈ news ∧ sgs rows j = ev ∧ ev.length ≤ 5 ∧ ∀ sg ∈ ev, SgOk news rows.length j sg := by
  obtain ⟨_, ⟨nT, h2⟩, h3⟩ := h
  have e : rows[j]? = some rows[j] := List.getElem?_eq_getElem hj
  obtain ⟨⟨n, h4⟩, h5, h6⟩ := h3 j _ e
  exact ⟨rows[j].1, rows[j].2, n, nT, by rw [List.getElem?_map, e]; rfl, h2, h4, by unfold sgs; rw [e]; rfl, h5, h6⟩
def dueMap (T V : Addr) (number turns most over : Int) (t1 t2 t3 t4 : Tok) (sv : Option Value) : Mp := fun y =>
  if y = Str.ofString "sign" then sv else if y = Str.ofString "over" then some (.int over t4) else if y = Str.ofString "table" then some (.ref T) else if y = Str.ofString "number" then some (.int number t1)
  else if y = Str.ofString "turns" then some (.int turns t2) else if y = Str.ofString "signs_told" then some (.ref V) else if y = Str.ofString "most" then some (.int most t3) else none
theorem fr_to {h₀ h : Heap} {L : Addr} {m m' : Mp} (F : Fr h₀ L h m) (e : m = m') : Fr h₀ L h m' := e ▸ F
section
variable {T V : Addr} {number turns most over : Int} {t1 t2 t3 t4 : Tok} {sv : Option Value}
theorem due_sign {v : Value} : (fun y => if y = Str.ofString "sign" then some v else dueMap T V number turns most over t1 t2 t3 t4 sv y) = dueMap T V number turns most over t1 t2 t3 t4 (some v) := by
  funext y
  by_cases h1 : y = Str.ofString "sign"
  · subst h1; rfl
  · simp only [dueMap, if_neg h1]
theorem due_turns {x : Int} {t : Tok} : (fun y => if y = Str.ofString "turns" then some (Value.int x t) else dueMap T V number turns most over t1 t2 t3 t4 sv y) = dueMap T V number x most over t1 t t3 t4 sv := by
  funext y
  by_cases h5 : y = Str.ofString "turns"
  · subst h5; rfl
  · simp only [dueMap, if_neg h5]
theorem due_over {x : Int} {t : Tok} : (fun y => if y = Str.ofString "over" then some (Value.int x t) else dueMap T V number turns most over t1 t2 t3 t4 sv y) = dueMap T V number turns most x t1 t2 t3 t sv := by
  funext y
  by_cases h5 : y = Str.ofString "over"
  · subst h5; rfl
  · simp only [dueMap, if_neg h5]
theorem lookup_if {α : Type} {y k : Str} {v : α} {r : List (Str × α)} : List.lookup y ((k, v) :: r) = if y = k then some v else List.lookup y r := by
  rw [List.lookup_cons]
  by_cases h : y = k
  · rw [if_pos h, h]; simp
  · rw [if_neg h, beq_false_of_ne h]
theorem due_start : (fun y => if y = Str.ofString "over" then some (Value.int over t4) else List.lookup y [(Str.ofString "most", Value.int most t3), (Str.ofString "signs_told", Value.ref V), (Str.ofString "turns", Value.int turns t2), (Str.ofString "number", Value.int number t1), (Str.ofString "table", Value.ref T)]) = dueMap T V number turns most over t1 t2 t3 t4 none := by
  funext y
  by_cases h1 : y = Str.ofString "sign"; · (subst h1; rfl)
  by_cases h2 : y = Str.ofString "over"; · (subst h2; rfl)
  by_cases h3 : y = Str.ofString "table"; · (subst h3; rfl)
  by_cases h4 : y = Str.ofString "number"; · (subst h4; rfl)
  by_cases h5 : y = Str.ofString "turns"; · (subst h5; rfl)
  by_cases h6 : y = Str.ofString "signs_told"; · (subst h6; rfl)
  by_cases h7 : y = Str.ofString "most"; · (subst h7; rfl)
  simp only [dueMap, lookup_if, List.lookup_nil, if_neg h1, if_neg h2, if_neg h3, if_neg h4, if_neg h5, if_neg h6, if_neg h7]
end
section
variable {prog : Program} {w : World} {A : Around} {E : Value → Shared → Prop} {s : Shared} {h₀ : Heap} {L D D2 : Addr} {xs ys : List Value} {n n2 : Nat} {news : Led} {Q : Value → Shared → Prop}
theorem my_neTup (N : News h₀ L s.heap news) (hm : (D, tupOf xs n) ∈ news) (hm2 : (D2, tupOf [] n2) ∈ news) (hu : A.units < cLine) (h : Q (.bool (decide (xs.length ≠ 0))) s) : wpAny (model prog w) A (compareOp .NotEq (.ref D) (.ref D2)) Q E s := by
  refine cmp_ofNotEq (PySem.SeqAt.RcNeAt.tuples (e := fun _ => true) (News.isTup N hm) (News.isTup N hm2) hu (fun j _ h2 => absurd h2 (by simp)) prog w E Q ?_)
  have e : (!((List.range (min xs.toArray.size ([] : List Value).toArray.size)).all (fun _ => true) && xs.toArray.size == ([] : List Value).toArray.size)) = decide (xs.length ≠ 0) := by
    cases xs <;> simp
  rw [e]; exact h
theorem my_neList (N : News h₀ L s.heap news) (hm : (D, listOf xs.toArray n) ∈ news) (hm2 : (D2, listOf [].toArray n2) ∈ news) (hu : A.units < cLine) (h : Q (.bool (decide (xs.length ≠ 0))) s) : wpAny (model prog w) A (compareOp .NotEq (.ref D) (.ref D2)) Q E s := by
  refine cmp_ofNotEq ?_
  cases xs with
  | nil => exact PySem.SeqAt.RcNeAt.lists (e := fun _ => true) (News.isList N hm) (News.isList N hm2) rfl hu (fun j h1 _ => absurd h1 (by simp)) prog w E Q h
  | cons x r => exact PySem.SeqAt.RcNeAt.lists_lengths (News.isList N hm) (News.isList N hm2) (by simp) hu prog w E Q (by simpa using h)
theorem my_neSame (N : News h₀ L s.heap news) (hm : (D, listOf xs.toArray n) ∈ news) (hm2 : (D2, listOf xs.toArray n2) ∈ news) (hu : A.units < cLine) (h : Q (.bool false) s) : wpAny (model prog w) A (compareOp .NotEq (.ref D) (.ref D2)) Q E s := by
  refine cmp_ofNotEq (PySem.SeqAt.RcNeAt.lists (e := fun _ => true) (News.isList N hm) (News.isList N hm2) rfl hu (fun j _ _ => PySem.SeqAt.EqAt.same _) prog w E Q ?_)
  rw [List.all_eq_true.mpr (fun _ _ => rfl)]; exact h
end
theorem map_snoc (tl : List Sg) (x : Sg) : tl.map Sg.val ++ [x.val] = (tl ++ [x]).map Sg.val := by simp
theorem off_one {I : Addr} {o : Obj} {V : Addr} {ov : Obj} {rest : Led} (h1 : V < I) (h2 : AllLt I rest) : ∀ p ∈ (V, ov) :: rest, ∀ q ∈ [(I, o)], p.1 ≠ q.1 := by
  intro p hp q hq
  rw [List.mem_singleton.mp hq]
  rcases List.mem_cons.mp hp with rfl | hp
  · exact Nat.ne_of_lt h1
  · exact Nat.ne_of_lt (ktn_ltOf h2 p hp)
theorem apart_in {I V : Addr} {o ov : Obj} {rest : Led} (hA : Apart ((V, ov) :: rest)) (h1 : V < I) (h2 : AllLt I rest) : Apart ((V, ov) :: (I, o) :: rest) := by
  rw [apart_cons] at hA ⊢
  rw [apart_cons]
  refine ⟨fun q hq => ?_, fun q hq => Nat.ne_of_lt (ktn_ltOf h2 q hq), hA.2⟩
  rcases List.mem_cons.mp hq with rfl | hq
  · exact Nat.ne_of_gt h1
  · exact hA.1 q hq
theorem apart_same {a b : Led} (h : Apart a) (e : a.map (·.1) = b.map (·.1)) : Apart b := by unfold Apart at h ⊢; rw [← e]; exact h
theorem len_snoc (l : List Sg) (x : Sg) : (l ++ [x]).length = l.length + 1 := by simp
section
variable {prog : Program} {w : World} {A : Around} {E : Value → Shared → Prop} {s : Shared} {h₀ : Heap} {L D D2 : Addr} {xs ys : List Value} {n n2 : Nat} {news : Led} {Q : Value → Shared → Prop}
theorem my_eqTI {b : Int} {u : Tok} (N : News h₀ L s.heap news) (hm : (D, tupOf xs n) ∈ news) (hu : A.units < cLine) (h : Q (.bool false) s) : wpAny (model prog w) A (compareOp .Eq (.ref D) (.int b u)) Q E s :=
  cmp_ofEq (PySem.SeqAt.RcAt.tuple_int b u (News.isTup N hm) hu prog w E Q h)
theorem my_inTT {b1 b2 : Int} {u1 u2 : Tok} (N : News h₀ L s.heap news) (hm : (D, tupOf xs n) ∈ news) (hm2 : (D2, tupOf [.int b1 u1, .int b2 u2] n2) ∈ news) (hu : A.units + 1 < cLine) (h : Q (.bool false) s) : wpAny (model prog w) A (compareOp .In (.ref D) (.ref D2)) Q E s := by
  refine PySem.SeqAt.in_tupleAt (fun _ => false) (News.isTup N hm2) (fun y hy => ?_) (by simpa using h)
  have hy' : y = .int b1 u1 ∨ y = .int b2 u2 := by simpa using hy
  rcases hy' with rfl | rfl
  · exact PySem.SeqAt.EqAt.int_tuple _ _ (News.isTup N hm) (by rw [units_in1]; exact hu)
  · exact PySem.SeqAt.EqAt.int_tuple _ _ (News.isTup N hm) (by rw [units_in1]; exact hu)
end
def rowMap (D Fd : Addr) (many : Int) (tm : Tok) (av sv bv wv : Option Value) : Mp := fun y =>
  if y = Str.ofString "way" then wv else if y = Str.ofString "beat" then bv else if y = Str.ofString "signs" then sv else if y = Str.ofString "at" then av else if y = Str.ofString "found" then some (.ref Fd)
  else if y = Str.ofString "many" then some (.int many tm) else if y = Str.ofString "deck" then some (.ref D) else none
section
variable {D Fd : Addr} {many : Int} {tm : Tok} {av sv bv wv : Option Value} {v : Value}
theorem row_way : (fun y => if y = Str.ofString "way" then some v else rowMap D Fd many tm av sv bv wv y) = rowMap D Fd many tm av sv bv (some v) := by
  funext y
  by_cases h5 : y = Str.ofString "way"
  · subst h5; rfl
  · simp only [rowMap, if_neg h5]
theorem row_beat : (fun y => if y = Str.ofString "beat" then some v else rowMap D Fd many tm av sv bv wv y) = rowMap D Fd many tm av sv (some v) wv := by
  funext y
  by_cases h5 : y = Str.ofString "beat"
  · subst h5; rfl
  · simp only [rowMap, if_neg h5]
theorem row_signs : (fun y => if y = Str.ofString "signs" then some v else rowMap D Fd many tm av sv bv wv y) = rowMap D Fd many tm av (some v) bv wv := by
  funext y
  by_cases h5 : y = Str.ofString "signs"
  · subst h5; rfl
  · simp only [rowMap, if_neg h5]
theorem row_at : (fun y => if y = Str.ofString "at" then some v else rowMap D Fd many tm av sv bv wv y) = rowMap D Fd many tm (some v) sv bv wv := by
  funext y
  by_cases h5 : y = Str.ofString "at"
  · subst h5; rfl
  · simp only [rowMap, if_neg h5]
theorem row_start : (fun y => if y = Str.ofString "found" then some (Value.ref Fd) else if y = Str.ofString "many" then some (Value.int many tm) else List.lookup y [(Str.ofString "deck", Value.ref D)]) = rowMap D Fd many tm none none none none := by
  funext y
  by_cases h1 : y = Str.ofString "way"; · (subst h1; rfl)
  by_cases h2 : y = Str.ofString "beat"; · (subst h2; rfl)
  by_cases h3 : y = Str.ofString "signs"; · (subst h3; rfl)
  by_cases h4 : y = Str.ofString "at"; · (subst h4; rfl)
  by_cases h5 : y = Str.ofString "found"; · (subst h5; rfl)
  by_cases h6 : y = Str.ofString "many"; · (subst h6; rfl)
  by_cases h7 : y = Str.ofString "deck"; · (subst h7; rfl)
  simp only [rowMap, lookup_if, List.lookup_nil, if_neg h1, if_neg h2, if_neg h3, if_neg h4, if_neg h5, if_neg h6, if_neg h7]
end
theorem apart_new {a b : Led} {x : Addr × Obj} (h : Apart (a ++ b)) (hx : ∀ q ∈ a ++ b, q.1 < x.1) : Apart (a ++ x :: b) := by
  have h2 : Apart (x :: (a ++ b)) := apart_cons.mpr ⟨fun q hq => Nat.ne_of_lt (hx q hq), h⟩
  unfold Apart at h2 ⊢
  refine (List.Perm.nodup_iff ?_).mp h2
  simp only [List.map_append, List.map_cons]
  exact List.perm_middle.symm
theorem news_snoc {h₀ h : Heap} {L V : Addr} {q : Addr × Obj} {sl : List Sg} {v : Int} {t : Tok} {n : Nat} {post : Led} (N : News h₀ L h (q :: (V, listOf (sl.map Sg.val ++ [Value.int v t]).toArray n) :: post)) :
    News h₀ L h (q :: (V, listOf ((sl ++ [Sg.pl v t]).map Sg.val).toArray n) :: post) := by
  rw [← map_snoc]; exact N
theorem sgs_snoc {rs : Led} {many i : Nat} {sl : List Sg} {x : Sg} (h : ∀ sg ∈ sl, SgOk rs many i sg) (hx : SgOk rs many i x) : ∀ sg ∈ sl ++ [x], SgOk rs many i sg := by
  intro sg hs
  rcases List.mem_append.mp hs with h1 | h1
  · exact h sg h1
  · rw [List.mem_singleton.mp h1]; exact hx
theorem rows_snoc {rs : Led} {many : Nat} {rows : Rows} {x : Addr × List Sg} (h : RowsOk rs many rows) (hx : RowOk rs many rows.length x) : RowsOk rs many (rows ++ [x]) := by
  intro j row e
  rcases Nat.lt_or_ge j rows.length with hj | hj
  · rw [List.getElem?_append_left hj] at e
    exact h j row e
  · rw [List.getElem?_append_right hj] at e
    have hz : j - rows.length = 0 := by
      rcases Nat.eq_zero_or_pos (j - rows.length) with h0 | h0
      · exact h0
      · rw [List.getElem?_eq_none (by simp only [List.length_cons, List.length_nil]; omega)] at e
        cases e
    rw [hz] at e
    have ej : j = rows.length := by omega
    have ex : x = row := by simpa using e
    subst ex
    rw [ej]
    exact hx
theorem my_pair {M : Model} {A : Around} {E : Value → Shared → Prop} {s : Shared} {h₀ : Heap} {L : Addr} {m : Mp} {news : Led} {a b : Int} {t u : Tok} {Q : Value → Shared → Prop} (F : Fr h₀ L s.heap m) (N : News h₀ L s.heap news)
    (h : ∀ G h', Fr h₀ L h' m → News h₀ L h' ((G, tupOf [.int a t, .int b u] 0) :: news) → (∀ p ∈ news, p.1 < G) → Q (.ref G) { s with heap := h' }) : wpAny M A (newTuple [.int a t, .int b u]) Q E s :=
  kup_newTuple F N h (by rw [sizeLine_eq]; simp)
theorem apart_perm {a b : Led} (h : Apart a) (p : ∀ x, (b.map (·.1)).count x = (a.map (·.1)).count x) : Apart b := by
  unfold Apart at h ⊢
  exact (List.Perm.nodup_iff (List.perm_iff_count.mpr p)).mpr h
theorem apart_front {D C F S P d U V : Addr × Obj} {more : Led} (h : Apart (D :: C :: F :: (more ++ [S, P, d]))) (hV : ∀ q ∈ D :: C :: F :: (more ++ [S, P, d]), q.1 < V.1) (hU : ∀ q ∈ V :: D :: C :: F :: (more ++ [S, P, d]), q.1 < U.1) :
    Apart (D :: C :: V :: U :: P :: d :: S :: F :: more) := by
  have h2 : Apart (U :: V :: D :: C :: F :: (more ++ [S, P, d])) := apart_cons.mpr ⟨fun q hq => Nat.ne_of_lt (hU q hq), apart_cons.mpr ⟨fun q hq => Nat.ne_of_lt (hV q hq), h⟩⟩
  refine apart_perm h2 fun x => ?_
  simp only [List.map_cons, List.map_append, List.map_nil, List.count_cons, List.count_append, List.count_nil]
  omega
theorem tup_in {a : Addr} {xs : List Value} {n : Nat} {more : Led} {S P dP : Addr} {nS : Nat} {hS : Int} {kS : Tok} (h : (a, tupOf xs n) ∈ more ++ [(S, listOf ([] : List Value).toArray nS), (P, instObj 129 dP), (dP, plD hS kS S)]) : (a, tupOf xs n) ∈ more := by
  rcases List.mem_append.mp h with h | h
  · exact h
  · exfalso
    simp only [List.mem_cons, List.not_mem_nil, or_false, Prod.mk.injEq] at h
    rcases h with ⟨_, h⟩ | ⟨_, h⟩ | ⟨_, h⟩
    · have := congrArg Obj.cls h; simp at this
    · have := congrArg Obj.cls h; simp at this
    · have := congrArg Obj.cls h; simp at this
theorem rows_in {many : Nat} {rows : Rows} {more : Led} {S P dP : Addr} {nS : Nat} {hS : Int} {kS : Tok} (h : RowsOk (more ++ [(S, listOf ([] : List Value).toArray nS), (P, instObj 129 dP), (dP, plD hS kS S)]) many rows) : RowsOk more many rows := by
  intro j row e
  obtain ⟨⟨n, h1⟩, h2, h3⟩ := h j row e
  refine ⟨⟨n, tup_in h1⟩, h2, fun sg m => ?_⟩
  have h4 := h3 sg m
  cases sg with
  | pl n t => trivial
  | go x i k =>
    obtain ⟨g1, g2, g3, g4, t1, t2, n, g5⟩ := h4
    exact ⟨g1, g2, g3, g4, t1, t2, n, tup_in g5⟩

local macro_rules | `(tactic| k_mem) => `(tactic| first | exact List.Mem.head _ | (refine' List.Mem.tail _ ?_; k_mem) | assumption)
local macro_rules | `(tactic| k_all) => `(tactic| first | assumption | exact List.forall_mem_nil _ | (refine' List.forall_mem_cons.mpr ⟨?a, ?b⟩; (case a => first | assumption | (refine Ne.symm ?_; assumption) | k_ne); (case b => k_all)))
local macro_rules | `(tactic| walk_at "call builtin:len") => `(tactic| (k_here; (with_reducible show wpAny _ _ (call (Value.builtin "len") [Value.ref _]) _ _ _); k_dflt (first
  | (refine' my_lenL ?N ?m ?z ?_; (case N => k_asm); (case m => k_mem); (case z => first | omega | (simp only [List.length_append, List.length_cons, List.length_nil]; omega)); k_whole)
  | (refine' my_lenT ?N ?m ?z ?_; (case N => k_asm); (case m => k_mem); (case z => first | omega | (simp only [List.length_append, List.length_cons, List.length_nil]; omega)); k_whole)); (try simp only [List.length_append, List.length_cons, List.length_nil])))
local macro_rules | `(tactic| walk_at "call builtin:list.append") => `(tactic| (k_here; (with_reducible show wpAny _ _ (call (Value.builtin _) [Value.ref _, _]) _ _ _); k_dflt (refine' my_append ?k1 ?k2 ?k3 ?z ?_; (case k1 => k_asm); (case k2 => k_asm); (case k3 => k_upd); (case z => first | omega | (simp only [List.length_append, List.length_cons, List.length_nil]; omega)); k_whole); intro h' F' N'; (try k_sweep)))
local macro_rules | `(tactic| walk_at "call type:tuple") => `(tactic| (k_here; (with_reducible show wpAny _ _ (call (Value.type "tuple") [Value.ref _]) _ _ _); k_dflt (first
  | (refine' call_tuple_tup (News.isTup (n := ?n) ?N ?m) ?_; (case N => k_asm); (case m => k_mem); k_whole)
  | (refine' my_tupOf ?F ?N ?m ?z ?_; (case F => k_asm); (case N => k_asm); (case m => k_mem); (case z => omega); k_whole; intro T' h' F' N' l1; (try k_lt l1); (try k_sweep)))))
local macro_rules | `(tactic| k_room) => `(tactic| ((simp only [depth_under_make, depth_under_kw, depth_in1, depth_deeper, depth_caller]); (try dsimp only [ktrTop]); (simp only [recursionLimit] at *); omega))
local macro_rules | `(tactic| walk_at "subscriptTail") => `(tactic| (k_here; k_dflt (first
  | ((with_reducible show wpAny _ _ (subscriptTail _ _ (Value.ref _) (Value.int (-1) _)) _ _ _); (refine' my_last ?N ?m ?_ ?hs; (case N => k_asm); (case m => k_mem); (case hs => with_unfolding_all rfl); k_whole))
  | (refine' my_itemL ?N ?m ?x ?k ?z ?_ ?hs; (case N => k_asm); (case m => k_mem); (case x => assumption); (case k => omega); (case z => omega); (case hs => with_unfolding_all rfl); k_whole)
  | (refine' my_itemT ?N ?m ?x ?k ?z ?_ ?hs; (case N => k_asm); (case m => k_mem); (case x => assumption); (case k => omega); (case z => omega); (case hs => with_unfolding_all rfl); k_whole))))
local macro_rules | `(tactic| walk_at "call builtin:list.pop") => `(tactic| (k_here; (with_reducible show wpAny _ _ (call (Value.builtin _) [Value.ref _]) _ _ _); k_dflt (refine' my_pop ?k1 ?k2 ?k3 ?z ?_; (case k1 => k_asm); (case k2 => k_asm); (case k3 => k_upd); (case z => omega); k_whole); intro h' F' N'; (try k_sweep)))
local macro_rules | `(tactic| k_ne) => `(tactic| first | assumption | (refine Ne.symm ?_; assumption) | (refine neN ?_; (try dsimp only); omega))
local macro_rules | `(tactic| walk_at "ite") => `(tactic| (k_here; k_openite; first
  | (refine ite_pos (by (simp only [decide_eq_true_eq, beq_iff_eq, bne_iff_ne]; omega)) ?_; walk_say "PRUNED mine")
  | (refine ite_neg (by (simp only [decide_eq_true_eq, beq_iff_eq, bne_iff_ne]; omega)) ?_; walk_say "PRUNED mine")))
local macro_rules | `(tactic| walk_at "compareOp NotEq ref ref") => `(tactic| (k_here; (with_reducible show wpAny _ _ (compareOp CmpOp.NotEq (Value.ref _) (Value.ref _)) _ _ _); k_dflt (first
  | (refine' my_neTup ?N ?m ?m2 ?u ?_; (case N => k_asm); (case m => k_mem); (case m2 => k_mem); (case u => units_room); k_whole)
  | (refine' my_neList ?N ?m ?m2 ?u ?_; (case N => k_asm); (case m => k_mem); (case m2 => k_mem); (case u => units_room); k_whole)
  | (refine' my_neSame ?N ?m ?m2 ?u ?_; (case N => k_asm); (case m => k_mem); (case m2 => k_mem); (case u => units_room); k_whole))))
local macro_rules | `(tactic| walk_at "compareOp Eq") => `(tactic| (k_here; (with_reducible show wpAny _ _ (compareOp CmpOp.Eq (Value.ref _) (Value.int _ _)) _ _ _); k_dflt (refine' my_eqTI ?N ?m ?u ?_; (case N => k_asm); (case m => k_mem); (case u => units_room); k_whole)))
local macro_rules | `(tactic| walk_at "compareOp In ref ref") => `(tactic| (k_here; (with_reducible show wpAny _ _ (compareOp CmpOp.In (Value.ref _) (Value.ref _)) _ _ _); k_dflt (refine' my_inTT ?N ?m ?m2 ?u ?_; (case N => k_asm); (case m => k_mem); (case m2 => k_mem); (case u => units_room); k_whole)))
local macro_rules | `(tactic| walk_at "call type:range") => `(tactic| (k_here; (with_reducible show wpAny _ _ (call (Value.type "range") [Value.int _ _]) _ _ _); (rename Fr _ _ _ _ => F'); (rename News _ _ _ _ => N'); (with_unfolding_all refine range1_rows F' N' ?_); intro _ _ _ _ _ _ _ _ _))
local macro_rules | `(tactic| k_steps) => `(tactic| repeat' (first | (k_unfold; (try dsimp only)) | walk1 | (dsimp only; walk1) | (dsimp only [List.nil_append, List.cons_append]; walk1) | fail "no step"))

section
def DrawPost (D C : Addr) (cells : List Value) (nc : Nat) (many k : Int) (rest : Led) (r : Value) (news' : Led) : Prop :=
  ∃ i t n tk, r = .int i t ∧ 0 ≤ i ∧ i < many ∧ news' = (D, listOf #[.ref C, .int (k + 1) tk] n) :: (C, listOf cells.toArray nc) :: rest
theorem draw_ok {w : World} {mean : ExcName → Option Value} {mg mb : Mp} {D C : Addr} {cells : List Value} {ns : List Int} {n nc : Nat} {k many : Int} {tk tm : Tok} {rest : Led}
    (hA : Apart ((D, listOf #[.ref C, .int k tk] n) :: (C, listOf cells.toArray nc) :: rest)) (hI : IntsAre cells ns) (hlen : ns.length ≤ 63) (hk0 : 0 ≤ k) (hk1 : k < 100000) (hm0 : 1 ≤ many) (hm1 : many ≤ 100) :
    Says w mean mg mb 140 1 8 [.ref D, .int many tm] ((D, listOf #[.ref C, .int k tk] n) :: (C, listOf cells.toArray nc) :: rest) (DrawPost D C cells nc many k rest) := by
  unfold Says
  k_fill
  simp only [apart_cons, List.forall_mem_cons] at hA
  obtain ⟨⟨a1, a2⟩, a3, a4⟩ := hA
  intro dp un gd cn cs a ccd cl outer A₀ base h₀ L m s Q E B F X N T hk hdp hun hret
  refine wpAny_call ?_
  k_dflt ktr_enter
  k_steps
  all_goals ((rename (News h₀ L _ _) => Nf); (rename (Fr h₀ L _ _) => Ff); exact hret _ _ _ _ Ff Nf ⟨_, _, _, _, rfl, Int.fmod_nonneg_of_pos _ (by omega), Int.fmod_lt_of_pos _ (by omega), rfl⟩)
theorem apart_mid {pre rst : Led} {p q : Addr × Obj} (h : Apart (pre ++ p :: q :: rst)) : Apart (p :: q :: (pre ++ rst)) := by
  unfold Apart at h ⊢
  refine (List.Perm.nodup_iff ?_).mp h
  simp only [List.map_append, List.map_cons]
  exact (List.perm_middle).trans (List.Perm.cons _ List.perm_middle)
theorem draw_use {w : World} {mean : ExcName → Option Value} {mg mb : Mp} {D C : Addr} {cells : List Value} {ns : List Int} {n nc : Nat} {k many : Int} {tk tm : Tok} (pre rst : Led)
    {dp un : Nat} {gd : Option (List Code)} {cn : Str} {cs : Scope} {a : Addr} {ccd : Value} {cl : List (Str × Addr)} {outer : List Env} {A₀ : Around} {base h₀ : Heap} {L : Addr} {m : Mp} {s : Shared} {Q E : Value → Shared → Prop}
    (hA : Apart (pre ++ (D, listOf #[.ref C, .int k tk] n) :: (C, listOf cells.toArray nc) :: rst)) (hI : IntsAre cells ns) (hlen : ns.length ≤ 63) (hk0 : 0 ≤ k) (hk1 : k < 100000) (hm0 : 1 ≤ many) (hm1 : many ≤ 100)
    (B : Below A₀ base outer h₀) (F : Fr h₀ L s.heap m) (X : (hd.heap_39 w.params).In h₀) (N : News h₀ L s.heap (pre ++ (D, listOf #[.ref C, .int k tk] n) :: (C, listOf cells.toArray nc) :: rst)) (T : Top hd.view_39 (looseW hd.view_39 []) mean mg mb h₀)
    (hk : cs.kind = .function) (hd : dp + 1 < recursionLimit) (hu : un + 8 < cLine)
    (ret : ∀ i t n' t' h' tk', 0 ≤ i → i < many → Fr h₀ L h' m → News h₀ L h' (pre ++ (D, listOf #[.ref C, .int (k + 1) t'] n') :: (C, listOf cells.toArray nc) :: rst) → Q (.int i t) { s with heap := h', toks := tk' }) :
    Halt (wpAny (model PySem.Challenge.rw_ok0044_01.row.prog w) (ktrTop dp un gd cn cs L a ccd cl outer) (call (.ref 140) [.ref D, .int many tm]) Q E s) := by
  refine Says.use (draw_ok (apart_mid hA) hI hlen hk0 hk1 hm0 hm1) B F X (news_sub N ?_) T hk hd hu ?_
  · intro p hp
    simp only [List.mem_cons, List.mem_append] at hp ⊢
    rcases hp with h | h | h | h
    · exact .inr (.inl h)
    · exact .inr (.inr (.inl h))
    · exact .inl h
    · exact .inr (.inr (.inr h))
  · rintro r news' h' tk' F' N' ⟨i, t, n', t', rfl, h0, h1, rfl⟩
    refine ret i t n' t' h' tk' h0 h1 F' (news_sub N' ?_)
    intro p hp
    simp only [List.mem_cons, List.mem_append] at hp ⊢
    rcases hp with h | h | h | h
    · exact .inr (.inr (.inl h))
    · exact .inl h
    · exact .inr (.inl h)
    · exact .inr (.inr (.inr h))
end

section
theorem lt_ne {d : Addr} {l : Led} (h : AllLt d l) : ∀ q ∈ l, q.1 ≠ d := fun q hq => Nat.ne_of_lt (ktn_ltOf h q hq)
theorem begin_ok {w : World} {mean : ExcName → Option Value} {mg mb : Mp} {P dP S r : Addr} {xs ev : List Value} {nS nE : Nat} {kS : Tok} {hS : Int} {turns : Int} {tt : Tok} {rest : Led}
    (hA : Apart ((P, instObj 129 dP) :: (dP, plD hS kS S) :: (S, listOf xs.toArray nS) :: rest)) (hr : (r, tupOf ev nE) ∈ rest) (hx : xs.length < 10) :
    Says w mean mg mb 98 4 40 [.ref P, .ref r, .int turns tt, .none] ((P, instObj 129 dP) :: (dP, plD hS kS S) :: (S, listOf xs.toArray nS) :: rest)
      (fun v news' => v = .bool true ∧ ∃ p d t2 t3 k1 k2 k3 k4 k5 n', news' = (p, instObj 59 d) :: (d, fmD w r turns 0 0 tt t2 t3 k1 k2 k3 k4 k5) :: (P, instObj 129 dP) :: (dP, plD hS kS S) :: (S, listOf (xs ++ [Value.ref p]).toArray n') :: rest ∧ Apart news') := by
  unfold Says
  k_fill
  simp only [apart_cons, List.forall_mem_cons] at hA
  obtain ⟨⟨a1, a2, a3⟩, ⟨a4, a5⟩, a6, a7⟩ := hA
  intro dp un gd cn cs a ccd cl outer A₀ base h₀ L m s Q E B F X N T hk hdp hun hret
  refine wpAny_call ?_
  k_dflt ktr_enter
  k_steps
  (rename (News h₀ L _ _) => Nf)
  (rename (Fr h₀ L _ _) => Ff)
  (rename (_ < _ ∧ _) => l1)
  (rename (_ < _) => l2)
  obtain ⟨l3, l4, l5, l6⟩ := l1
  have l7 := ktn_ltOf l6
  refine hret _ _ _ _ Ff Nf ⟨rfl, _, _, _, _, _, _, _, _, _, _, rfl, ?_⟩
  simp only [apart_cons, List.forall_mem_cons]
  refine ⟨⟨?_, ?_, ?_, ?_, ?_⟩, ⟨?_, ?_, ?_, ?_⟩, ⟨?_, ?_, ?_⟩, ⟨?_, ?_⟩, ?_, ?_⟩
  all_goals first | k_ne | assumption | (intro q hq; have h9 := ltN (l7 q hq); refine neN ?_; omega)
theorem begin_no {w : World} {mean : ExcName → Option Value} {mg mb : Mp} {P dP S r : Addr} {xs : List Value} {nS : Nat} {kS : Tok} {hS : Int} {turns : Int} {tt : Tok} {rest : Led}
    (hx : 10 ≤ xs.length) (hx2 : xs.length ≤ 100) :
    Says w mean mg mb 98 4 40 [.ref P, .ref r, .int turns tt, .none] ((P, instObj 129 dP) :: (dP, plD hS kS S) :: (S, listOf xs.toArray nS) :: rest)
      (fun v news' => v = .bool false ∧ news' = (P, instObj 129 dP) :: (dP, plD hS kS S) :: (S, listOf xs.toArray nS) :: rest) := by
  unfold Says
  k_fill
  intro dp un gd cn cs a ccd cl outer A₀ base h₀ L m s Q E B F X N T hk hdp hun hret
  refine wpAny_call ?_
  k_dflt ktr_enter
  k_steps
  (rename (News h₀ L _ _) => Nf)
  (rename (Fr h₀ L _ _) => Ff)
  exact hret _ _ _ _ Ff Nf ⟨rfl, rfl⟩
end

section
theorem step_pop {w : World} {mean : ExcName → Option Value} {mg mb : Mp} {T U P dP S r p d : Addr} {told ys ev : List Value} {nU nS nE : Nat} {kS : Tok} {hS : Int} {turns over : Int} {place : Nat} {t1 t2 t3 k1 k2 k3 k4 k5 : Tok} {rest : Led}
    (hA : Apart ((U, listOf told.toArray nU) :: (P, instObj 129 dP) :: (dP, plD hS kS S) :: (S, listOf (ys ++ [Value.ref p]).toArray nS) :: (p, instObj 59 d) :: (d, fmD w r turns place over t1 t2 t3 k1 k2 k3 k4 k5) :: rest))
    (hr : (r, tupOf ev nE) ∈ rest) (hx : ys.length < 9) (hu : told.length < 100) (he : ev.length < 10) (hd : turns = 0 ∨ ev.length = 0) :
    Says w mean mg mb 161 6 60 [.ref P, .ref T, .ref U] ((U, listOf told.toArray nU) :: (P, instObj 129 dP) :: (dP, plD hS kS S) :: (S, listOf (ys ++ [Value.ref p]).toArray nS) :: (p, instObj 59 d) :: (d, fmD w r turns place over t1 t2 t3 k1 k2 k3 k4 k5) :: rest)
      (fun v news' => v = .bool true ∧ ∃ n1, news' = (U, listOf told.toArray nU) :: (P, instObj 129 dP) :: (dP, plD hS kS S) :: (S, listOf ys.toArray n1) :: (p, instObj 59 d) :: (d, fmD w r turns place over t1 t2 t3 k1 k2 k3 k4 k5) :: rest) := by
  unfold Says
  k_fill
  have hA0 := hA
  simp only [apart_cons, List.forall_mem_cons] at hA
  obtain ⟨⟨a1, a2, a3, a4, a5, a6⟩, ⟨a7, a8, a9, a10, a11⟩, ⟨a12, a13, a14, a15⟩, ⟨a16, a17, a18⟩, ⟨a19, a20⟩, a21, a22⟩ := hA
  intro dp un gd cn cs a ccd cl outer A₀ base h₀ L m s Q E B F X N TT hk hdp hun hret
  refine wpAny_call ?_
  k_dflt ktr_enter
  k_steps
  all_goals ((rename (News h₀ L _ _) => Nf); (rename (Fr h₀ L _ _) => Ff); first | (exfalso; omega) | exact hret _ _ _ _ Ff Nf ⟨rfl, _, rfl⟩)
end

section
theorem step_turnm {w : World} {mean : ExcName → Option Value} {mg mb : Mp} {T U P dP S r p d : Addr} {told ys ev : List Value} {nU nS nE : Nat} {kS : Tok} {hS : Int} {turns over : Int} {place : Nat} {t1 t2 t3 k1 k2 k3 k4 k5 : Tok} {rest : Led}
    (hA : Apart ((U, listOf told.toArray nU) :: (P, instObj 129 dP) :: (dP, plD hS kS S) :: (S, listOf (ys ++ [Value.ref p]).toArray nS) :: (p, instObj 59 d) :: (d, fmD w r (-1) place over t1 t2 t3 k1 k2 k3 k4 k5) :: rest))
    (hr : (r, tupOf ev nE) ∈ rest) (hx : ys.length < 9) (hu : told.length < 100) (he : ev.length < 10) (h1 : ev.length ≠ 0) (hp : (place : Int) = ev.length) :
    Says w mean mg mb 161 6 60 [.ref P, .ref T, .ref U] ((U, listOf told.toArray nU) :: (P, instObj 129 dP) :: (dP, plD hS kS S) :: (S, listOf (ys ++ [Value.ref p]).toArray nS) :: (p, instObj 59 d) :: (d, fmD w r (-1) place over t1 t2 t3 k1 k2 k3 k4 k5) :: rest)
      (fun v news' => v = .bool true ∧ ∃ u1 u2 u3, news' = (U, listOf told.toArray nU) :: (P, instObj 129 dP) :: (dP, plD hS kS S) :: (S, listOf (ys ++ [Value.ref p]).toArray nS) :: (p, instObj 59 d) :: (d, fmD w r (-1) 0 (over + 1) u1 u2 u3 k1 k2 k3 k4 k5) :: rest) := by
  unfold Says
  k_fill
  have hA0 := hA
  simp only [apart_cons, List.forall_mem_cons] at hA
  obtain ⟨⟨a1, a2, a3, a4, a5, a6⟩, ⟨a7, a8, a9, a10, a11⟩, ⟨a12, a13, a14, a15⟩, ⟨a16, a17, a18⟩, ⟨a19, a20⟩, a21, a22⟩ := hA
  intro dp un gd cn cs a ccd cl outer A₀ base h₀ L m s Q E B F X N TT hk hdp hun hret
  refine wpAny_call ?_
  k_dflt ktr_enter
  k_steps
  (rename (News h₀ L _ _) => Nf)
  (rename (Fr h₀ L _ _) => Ff)
  exact hret _ _ _ _ Ff Nf ⟨rfl, _, _, _, rfl⟩
end

section
theorem step_turnp {w : World} {mean : ExcName → Option Value} {mg mb : Mp} {T U P dP S r p d : Addr} {told ys ev : List Value} {nU nS nE : Nat} {kS : Tok} {hS : Int} {turns over : Int} {place : Nat} {t1 t2 t3 k1 k2 k3 k4 k5 : Tok} {rest : Led}
    (hA : Apart ((U, listOf told.toArray nU) :: (P, instObj 129 dP) :: (dP, plD hS kS S) :: (S, listOf (ys ++ [Value.ref p]).toArray nS) :: (p, instObj 59 d) :: (d, fmD w r turns place over t1 t2 t3 k1 k2 k3 k4 k5) :: rest))
    (hr : (r, tupOf ev nE) ∈ rest) (hx : ys.length < 9) (hu : told.length < 100) (he : ev.length < 10) (h0 : turns ≠ 0) (hm : turns ≠ -1) (h1 : ev.length ≠ 0) (hp : (place : Int) = ev.length) :
    Says w mean mg mb 161 6 60 [.ref P, .ref T, .ref U] ((U, listOf told.toArray nU) :: (P, instObj 129 dP) :: (dP, plD hS kS S) :: (S, listOf (ys ++ [Value.ref p]).toArray nS) :: (p, instObj 59 d) :: (d, fmD w r turns place over t1 t2 t3 k1 k2 k3 k4 k5) :: rest)
      (fun v news' => v = .bool true ∧ ∃ u1 u2 u3, news' = (U, listOf told.toArray nU) :: (P, instObj 129 dP) :: (dP, plD hS kS S) :: (S, listOf (ys ++ [Value.ref p]).toArray nS) :: (p, instObj 59 d) :: (d, fmD w r (turns - 1) 0 (over + 1) u1 u2 u3 k1 k2 k3 k4 k5) :: rest) := by
  unfold Says
  k_fill
  have hA0 := hA
  simp only [apart_cons, List.forall_mem_cons] at hA
  obtain ⟨⟨a1, a2, a3, a4, a5, a6⟩, ⟨a7, a8, a9, a10, a11⟩, ⟨a12, a13, a14, a15⟩, ⟨a16, a17, a18⟩, ⟨a19, a20⟩, a21, a22⟩ := hA
  intro dp un gd cn cs a ccd cl outer A₀ base h₀ L m s Q E B F X N TT hk hdp hun hret
  refine wpAny_call ?_
  k_dflt ktr_enter
  k_steps
  (rename (News h₀ L _ _) => Nf)
  (rename (Fr h₀ L _ _) => Ff)
  exact hret _ _ _ _ Ff Nf ⟨rfl, _, _, _, rfl⟩
end

section
theorem step_50 {w : World} {mean : ExcName → Option Value} {mg mb : Mp} {T U P dP S r p d : Addr} {told ys ev : List Value} {nU nS nE : Nat} {kS : Tok} {hS : Int} {turns over : Int} {place : Nat} {t1 t2 t3 k1 k2 k3 k4 k5 : Tok} {rest : Led} {t9 : Tok}
    (hA : Apart ((U, listOf told.toArray nU) :: (P, instObj 129 dP) :: (dP, plD hS kS S) :: (S, listOf (ys ++ [Value.ref p]).toArray nS) :: (p, instObj 59 d) :: (d, fmD w r turns place over t1 t2 t3 k1 k2 k3 k4 k5) :: rest))
    (hr : (r, tupOf ev nE) ∈ rest) (hx : ys.length < 9) (hu : told.length < 100) (he : ev.length < 10) (h0 : turns ≠ 0) (h1 : ev.length ≠ 0) (hp : place < ev.length) (hv : ev[place]? = some (.int 50 t9)) :
    Says w mean mg mb 161 6 60 [.ref P, .ref T, .ref U] ((U, listOf told.toArray nU) :: (P, instObj 129 dP) :: (dP, plD hS kS S) :: (S, listOf (ys ++ [Value.ref p]).toArray nS) :: (p, instObj 59 d) :: (d, fmD w r turns place over t1 t2 t3 k1 k2 k3 k4 k5) :: rest)
      (fun v news' => v = .bool true ∧ ∃ n1 u1 u2 u3, news' = (U, listOf (told ++ [Value.int 50 t9]).toArray n1) :: (P, instObj 129 dP) :: (dP, plD hS kS S) :: (S, listOf (ys ++ [Value.ref p]).toArray nS) :: (p, instObj 59 d) :: (d, fmD w r turns (ev.length : Nat) over u1 u2 u3 k1 k2 k3 k4 k5) :: rest) := by
  unfold Says
  k_fill
  have hA0 := hA
  simp only [apart_cons, List.forall_mem_cons] at hA
  obtain ⟨⟨a1, a2, a3, a4, a5, a6⟩, ⟨a7, a8, a9, a10, a11⟩, ⟨a12, a13, a14, a15⟩, ⟨a16, a17, a18⟩, ⟨a19, a20⟩, a21, a22⟩ := hA
  intro dp un gd cn cs a ccd cl outer A₀ base h₀ L m s Q E B F X N TT hk hdp hun hret
  refine wpAny_call ?_
  k_dflt ktr_enter
  k_steps
  (rename (News h₀ L _ _) => Nf)
  (rename (Fr h₀ L _ _) => Ff)
  exact hret _ _ _ _ Ff Nf ⟨rfl, _, _, _, _, rfl⟩
end

section
theorem step_51 {w : World} {mean : ExcName → Option Value} {mg mb : Mp} {T U P dP S r p d : Addr} {told ys ev : List Value} {nU nS nE : Nat} {kS : Tok} {hS : Int} {turns over : Int} {place : Nat} {t1 t2 t3 k1 k2 k3 k4 k5 : Tok} {rest : Led} {t9 : Tok}
    (hA : Apart ((U, listOf told.toArray nU) :: (P, instObj 129 dP) :: (dP, plD hS kS S) :: (S, listOf (ys ++ [Value.ref p]).toArray nS) :: (p, instObj 59 d) :: (d, fmD w r turns place over t1 t2 t3 k1 k2 k3 k4 k5) :: rest))
    (hr : (r, tupOf ev nE) ∈ rest) (hx : ys.length < 9) (hu : told.length < 100) (he : ev.length < 10) (h0 : turns ≠ 0) (h1 : ev.length ≠ 0) (hp : place < ev.length) (hv : ev[place]? = some (.int 51 t9)) :
    Says w mean mg mb 161 6 60 [.ref P, .ref T, .ref U] ((U, listOf told.toArray nU) :: (P, instObj 129 dP) :: (dP, plD hS kS S) :: (S, listOf (ys ++ [Value.ref p]).toArray nS) :: (p, instObj 59 d) :: (d, fmD w r turns place over t1 t2 t3 k1 k2 k3 k4 k5) :: rest)
      (fun v news' => v = .bool true ∧ ∃ n1 u1 u2 u3, news' = (U, listOf (told ++ [Value.int 51 t9]).toArray n1) :: (P, instObj 129 dP) :: (dP, plD hS kS S) :: (S, listOf (ys ++ [Value.ref p]).toArray nS) :: (p, instObj 59 d) :: (d, fmD w r 1 (ev.length : Nat) over u1 u2 u3 k1 k2 k3 k4 k5) :: rest) := by
  unfold Says
  k_fill
  have hA0 := hA
  simp only [apart_cons, List.forall_mem_cons] at hA
  obtain ⟨⟨a1, a2, a3, a4, a5, a6⟩, ⟨a7, a8, a9, a10, a11⟩, ⟨a12, a13, a14, a15⟩, ⟨a16, a17, a18⟩, ⟨a19, a20⟩, a21, a22⟩ := hA
  intro dp un gd cn cs a ccd cl outer A₀ base h₀ L m s Q E B F X N TT hk hdp hun hret
  refine wpAny_call ?_
  k_dflt ktr_enter
  k_steps
  (rename (News h₀ L _ _) => Nf)
  (rename (Fr h₀ L _ _) => Ff)
  exact hret _ _ _ _ Ff Nf ⟨rfl, _, _, _, _, rfl⟩
end

section
theorem step_pl {w : World} {mean : ExcName → Option Value} {mg mb : Mp} {T U P dP S r p d : Addr} {told ys ev : List Value} {nU nS nE : Nat} {kS : Tok} {hS : Int} {turns over : Int} {place : Nat} {t1 t2 t3 k1 k2 k3 k4 k5 : Tok} {rest : Led} {v9 : Int} {t9 : Tok}
    (hA : Apart ((U, listOf told.toArray nU) :: (P, instObj 129 dP) :: (dP, plD hS kS S) :: (S, listOf (ys ++ [Value.ref p]).toArray nS) :: (p, instObj 59 d) :: (d, fmD w r turns place over t1 t2 t3 k1 k2 k3 k4 k5) :: rest))
    (hr : (r, tupOf ev nE) ∈ rest) (hx : ys.length < 9) (hu : told.length < 100) (he : ev.length < 10) (h0 : turns ≠ 0) (h1 : ev.length ≠ 0) (hp : place < ev.length) (hv : ev[place]? = some (.int v9 t9)) (n50 : v9 ≠ 50) (n51 : v9 ≠ 51) :
    Says w mean mg mb 161 6 60 [.ref P, .ref T, .ref U] ((U, listOf told.toArray nU) :: (P, instObj 129 dP) :: (dP, plD hS kS S) :: (S, listOf (ys ++ [Value.ref p]).toArray nS) :: (p, instObj 59 d) :: (d, fmD w r turns place over t1 t2 t3 k1 k2 k3 k4 k5) :: rest)
      (fun v news' => v = .bool true ∧ ∃ n1 u1 u2 u3, news' = (U, listOf (told ++ [Value.int v9 t9]).toArray n1) :: (P, instObj 129 dP) :: (dP, plD hS kS S) :: (S, listOf (ys ++ [Value.ref p]).toArray nS) :: (p, instObj 59 d) :: (d, fmD w r turns ((place : Int) + 1) over u1 u2 u3 k1 k2 k3 k4 k5) :: rest) := by
  unfold Says
  k_fill
  have hA0 := hA
  simp only [apart_cons, List.forall_mem_cons] at hA
  obtain ⟨⟨a1, a2, a3, a4, a5, a6⟩, ⟨a7, a8, a9, a10, a11⟩, ⟨a12, a13, a14, a15⟩, ⟨a16, a17, a18⟩, ⟨a19, a20⟩, a21, a22⟩ := hA
  intro dp un gd cn cs a ccd cl outer A₀ base h₀ L m s Q E B F X N TT hk hdp hun hret
  refine wpAny_call ?_
  k_dflt ktr_enter
  k_steps
  (rename (News h₀ L _ _) => Nf)
  (rename (Fr h₀ L _ _) => Ff)
  exact hret _ _ _ _ Ff Nf ⟨rfl, _, _, _, _, rfl⟩
end

section
theorem step_go {w : World} {mean : ExcName → Option Value} {mg mb : Mp} {T U P dP S r p d : Addr} {told ys ev : List Value} {nU nS nE : Nat} {kS : Tok} {hS : Int} {turns over : Int} {place : Nat} {t1 t2 t3 k1 k2 k3 k4 k5 : Tok} {rest : Led} {b r9 : Addr} {i9 : Nat} {k9 : Int} {t8 t9 : Tok} {n9 n8 n7 : Nat} {tv ev9 : List Value}
    (hA : Apart ((U, listOf told.toArray nU) :: (P, instObj 129 dP) :: (dP, plD hS kS S) :: (S, listOf (ys ++ [Value.ref p]).toArray nS) :: (p, instObj 59 d) :: (d, fmD w r turns place over t1 t2 t3 k1 k2 k3 k4 k5) :: rest))
    (hr : (r, tupOf ev nE) ∈ rest) (hx : ys.length < 9) (hu : told.length < 100) (he : ev.length < 10) (h0 : turns ≠ 0) (h1 : ev.length ≠ 0) (hp : place < ev.length) (hv : ev[place]? = some (.ref b)) (hb : (b, tupOf [.int i9 t8, .int k9 t9] n9) ∈ rest) (ht : (T, listOf tv.toArray n8) ∈ rest) (hti : tv[i9]? = some (.ref r9)) (htz : tv.length ≤ 100) (hr9 : (r9, tupOf ev9 n7) ∈ rest) :
    Says w mean mg mb 161 6 60 [.ref P, .ref T, .ref U] ((U, listOf told.toArray nU) :: (P, instObj 129 dP) :: (dP, plD hS kS S) :: (S, listOf (ys ++ [Value.ref p]).toArray nS) :: (p, instObj 59 d) :: (d, fmD w r turns place over t1 t2 t3 k1 k2 k3 k4 k5) :: rest)
      (fun v news' => v = .bool true ∧ ∃ p9 d9 n1 n2 u1 u2 u3 u5 u6 j1 j2 j3 j4 j5, news' = (p9, instObj 59 d9) :: (d9, fmD w r9 k9 0 0 t9 u5 u6 j1 j2 j3 j4 j5) :: (U, listOf (told ++ [Value.ref b]).toArray n1) :: (P, instObj 129 dP) :: (dP, plD hS kS S) :: (S, listOf (ys ++ [Value.ref p] ++ [Value.ref p9]).toArray n2) :: (p, instObj 59 d) :: (d, fmD w r turns ((place : Int) + 1) over u1 u2 u3 k1 k2 k3 k4 k5) :: rest ∧ Apart news') := by
  unfold Says
  k_fill
  have hA0 := hA
  simp only [apart_cons, List.forall_mem_cons] at hA
  obtain ⟨⟨a1, a2, a3, a4, a5, a6⟩, ⟨a7, a8, a9, a10, a11⟩, ⟨a12, a13, a14, a15⟩, ⟨a16, a17, a18⟩, ⟨a19, a20⟩, a21, a22⟩ := hA
  intro dp un gd cn cs a ccd cl outer A₀ base h₀ L m s Q E B F X N TT hk hdp hun hret
  refine wpAny_call ?_
  k_dflt ktr_enter
  k_steps
  (rename (News h₀ L _ _) => Nf)
  (rename (Fr h₀ L _ _) => Ff)
  (rename (_ < _ ∧ _) => l1)
  (rename (_ < _) => l2)
  obtain ⟨l3, l4, l5, l6, l7, l8, l9⟩ := l1
  have l10 := ktn_ltOf l9
  refine hret _ _ _ _ Ff Nf ⟨rfl, _, _, _, _, _, _, _, _, _, _, _, _, _, _, rfl, apart_two hA0 rfl ?_ l2⟩
  simp only [List.forall_mem_cons]
  exact ⟨l3, l4, l5, l6, l7, l8, l10⟩
end

section
theorem Says.mono {w : World} {mean : ExcName → Option Value} {mg mb : Mp} {f : Addr} {dd uu : Nat} {vs : List Value} {news : Led} {Post Post' : Value → Led → Prop} (C : Says w mean mg mb f dd uu vs news Post)
    (k : ∀ r n, Post r n → ∃ n2, (∀ p ∈ n2, p ∈ n) ∧ Post' r n2) : Says w mean mg mb f dd uu vs news Post' := by
  intro dp un gd cn cs a ccd cl outer A₀ base h₀ L m s Q E B F X N T hk hd hu ret
  refine C dp un gd cn cs a ccd cl outer A₀ base h₀ L m s Q E B F X N T hk hd hu fun r n h' tk' F' N' P => ?_
  obtain ⟨n2, hs, P2⟩ := k r n P
  exact ret r n2 h' tk' F' (news_sub N' hs) P2
/-- a Playing of the stack: where it lies, what it holds -/
structure Fx where
  p : Addr
  d : Addr
  r : Addr
  row : Nat
  turns : Int
  place : Nat
  over : Int
  t1 : Tok
  t2 : Tok
  t3 : Tok
  k1 : Tok
  k2 : Tok
  k3 : Tok
  k4 : Tok
  k5 : Tok
def Fx.fm (f : Fx) : Fm := ⟨f.row, f.turns, f.place, f.over⟩
def fxLed (w : World) : List Fx → Led
  | [] => []
  | f :: fs => (f.p, instObj 59 f.d) :: (f.d, fmD w f.r f.turns f.place f.over f.t1 f.t2 f.t3 f.k1 f.k2 f.k3 f.k4 f.k5) :: fxLed w fs
def refs (fs : List Fx) : List Value := (fs.map fun f => Value.ref f.p).reverse
theorem refs_cons (f : Fx) (fs : List Fx) : refs (f :: fs) = refs fs ++ [Value.ref f.p] := by simp [refs]
theorem refs_length (fs : List Fx) : (refs fs).length = fs.length := by simp [refs]
def FxOk (rows : Rows) (f : Fx) : Prop := f.row < rows.length ∧ (rows.map rowRef)[f.row]? = some (.ref f.r) ∧ f.place ≤ (sgs rows f.row).length ∧ -1 ≤ f.turns
def Deep : List Fx → Prop
  | [] => True
  | f :: fs => fs.length ≤ f.row ∧ Deep fs
def flag (rows : Rows) : List Fx → Nat
  | [] => 0
  | f :: _ => if f.place = (sgs rows f.row).length then 1 else 0
theorem flag_le (rows : Rows) (fs : List Fx) : flag rows fs ≤ 1 := by
  cases fs with
  | nil => exact Nat.zero_le _
  | cons f fs => show (if _ then 1 else 0) ≤ 1; split <;> omega
def meas (rows : Rows) (most : Nat) (fs : List Fx) (tl : List Sg) : Nat := 4 * (most - tl.length) + 2 * fs.length + flag rows fs
def plLed (w : World) (U P dP S : Addr) (hS : Int) (kS : Tok) (nU nS : Nat) (fs : List Fx) (tl : List Sg) (rest : Led) : Led :=
  (U, listOf (tl.map Sg.val).toArray nU) :: (P, instObj 129 dP) :: (dP, plD hS kS S) :: (S, listOf (refs fs).toArray nS) :: (fxLed w fs ++ rest)
def StepPost (w : World) (rows : Rows) (most : Nat) (U P dP S : Addr) (hS : Int) (kS : Tok) (fs : List Fx) (tl : List Sg) (rest : Led) (v : Value) (news' : Led) : Prop :=
  v = .bool true ∧ ∃ fs' tl' nU nS, news' = plLed w U P dP S hS kS nU nS fs' tl' rest ∧ Apart news' ∧ mstep rows most ⟨fs.map Fx.fm, tl⟩ = some ⟨fs'.map Fx.fm, tl'⟩ ∧ (∀ f ∈ fs', FxOk rows f) ∧ Deep fs' ∧ meas rows most fs' tl' < meas rows most fs tl
theorem mem_app_right {a b : Led} {p : Addr × Obj} (h : p ∈ b) : p ∈ a ++ b := List.mem_append.mpr (.inr h)
theorem step_ok {w : World} {mean : ExcName → Option Value} {mg mb : Mp} {T U P dP S : Addr} {rows : Rows} {most : Nat} {hS : Int} {kS : Tok} {nU nS : Nat} {f : Fx} {fs : List Fx} {tl : List Sg} {rest : Led}
    (hA : Apart (plLed w U P dP S hS kS nU nS (f :: fs) tl rest)) (hT : TabIn rest T rows) (hf : FxOk rows f) (hfs : ∀ f ∈ fs, FxOk rows f) (hD : Deep (f :: fs)) (hlt : tl.length < most) (hm : most ≤ 60) :
    Says w mean mg mb 161 6 60 [.ref P, .ref T, .ref U] (plLed w U P dP S hS kS nU nS (f :: fs) tl rest) (StepPost w rows most U P dP S hS kS (f :: fs) tl rest) := by
  obtain ⟨hf1, hf2, hf3, hf4⟩ := hf
  obtain ⟨p, d, r0, row, turns, place, over, t1, t2, t3, k1, k2, k3, k4, k5⟩ := f
  dsimp only at hf1 hf2 hf3 hf4
  obtain ⟨r, ev, nr, nT, hti, hTm, hrm, hev, hez, hsg⟩ := hT.row hf1
  have er : r = r0 := by
    rw [hf2] at hti
    have := Option.some.inj hti
    cases this
    rfl
  subst er
  have hA2 := hA
  unfold plLed at hA ⊢
  rw [refs_cons] at hA ⊢
  simp only [fxLed, List.cons_append] at hA ⊢
  have hys : (refs fs).length < 9 := by
    rw [refs_length]
    have h4 := hT.1
    have h5 : fs.length ≤ row := hD.1
    omega
  have hlm : (tl.map Sg.val).length < 100 := by rw [List.length_map]; omega
  have hlm2 : (ev.map Sg.val).length < 10 := by rw [List.length_map]; omega
  have hle : (ev.map Sg.val).length = ev.length := List.length_map ..
  have hrm' := mem_app_right (a := fxLed w fs) hrm
  rw [hev] at hf3
  have hfl := flag_le rows fs
  by_cases c1 : turns = 0 ∨ ev = []
  · refine Says.mono (step_pop hA hrm' hys hlm hlm2 (c1.imp id fun e => by rw [e]; rfl)) ?_
    rintro v n ⟨rfl, n1, rfl⟩
    refine ⟨plLed w U P dP S hS kS nU n1 fs tl rest, ?_, rfl, fs, tl, nU, n1, rfl, ?_, ?_, hfs, hD.2, ?_⟩
    · intro q hq
      simp only [plLed, List.mem_cons] at hq ⊢
      rcases hq with h | h | h | h | h
      · exact .inl h
      · exact .inr (.inl h)
      · exact .inr (.inr (.inl h))
      · exact .inr (.inr (.inr (.inl h)))
      · exact .inr (.inr (.inr (.inr (.inr (.inr h)))))
    · simp only [apart_cons, List.forall_mem_cons, plLed] at hA ⊢
      obtain ⟨⟨a1, a2, a3, a4, a5, a6⟩, ⟨a7, a8, a9, a10, a11⟩, ⟨a12, a13, a14, a15⟩, ⟨a16, a17, a18⟩, ⟨a19, a20⟩, a21, a22⟩ := hA
      exact ⟨⟨a1, a2, a3, a6⟩, ⟨a7, a8, a11⟩, ⟨a12, a15⟩, a18, a22⟩
    · exact mstep_pop (f := ⟨row, turns, place, over⟩) hlt (c1.imp id fun e => hev.trans e)
    · simp only [meas, List.length_cons]
      omega
  · have h0 : turns ≠ 0 := fun e => c1 (.inl e)
    have h1 : ev ≠ [] := fun e => c1 (.inr e)
    have h1' : (ev.map Sg.val).length ≠ 0 := by rw [hle]; exact fun e => h1 (List.length_eq_zero_iff.mp e)
    have h1'' : ev.length ≠ 0 := by rw [← hle]; exact h1'
    have c2 : ¬(turns = 0 ∨ sgs rows row = []) := fun h => c1 (h.imp id fun e => hev.symm.trans e)
    by_cases c3 : place = ev.length
    · -- the turn is over
      have hno : (sgs rows row)[place]? = none := by rw [hev, c3]; simp
      have hst := mstep_turn (fs := fs.map Fx.fm) (f := ⟨row, turns, place, over⟩) hlt c2 hno
      have hfl1 : flag rows (⟨p, d, r, row, turns, place, over, t1, t2, t3, k1, k2, k3, k4, k5⟩ :: fs) = 1 := by
        show (if place = (sgs rows row).length then 1 else 0) = 1
        rw [hev, if_pos c3]
      have hfl0 : ∀ tt u1 u2 u3, flag rows (⟨p, d, r, row, tt, 0, over + 1, u1, u2, u3, k1, k2, k3, k4, k5⟩ :: fs) = 0 := by
        intro tt u1 u2 u3
        show (if 0 = (sgs rows row).length then 1 else 0) = 0
        rw [hev, if_neg (by omega)]
      by_cases c4 : turns = -1
      · subst c4
        refine Says.mono (step_turnm (turns := 0) hA hrm' hys hlm hlm2 h1' (by rw [hle, c3])) ?_
        rintro v n ⟨rfl, u1, u2, u3, rfl⟩
        refine ⟨_, fun _ h => h, rfl, ⟨p, d, r, row, -1, 0, over + 1, u1, u2, u3, k1, k2, k3, k4, k5⟩ :: fs, tl, nU, nS, ?_, apart_same hA rfl, hst, ?_, hD, ?_⟩
        · rw [plLed, refs_cons]; rfl
        · exact List.forall_mem_cons.mpr ⟨⟨hf1, hf2, Nat.zero_le _, by show (-1 : Int) ≤ -1; decide⟩, hfs⟩
        · simp only [meas, hfl1, hfl0, List.length_cons]; omega
      · refine Says.mono (step_turnp hA hrm' hys hlm hlm2 h0 c4 h1' (by rw [hle, c3])) ?_
        rintro v n ⟨rfl, u1, u2, u3, rfl⟩
        have ed : dec turns = turns - 1 := by unfold dec; rw [if_neg c4]
        rw [ed] at hst
        refine ⟨_, fun _ h => h, rfl, ⟨p, d, r, row, turns - 1, 0, over + 1, u1, u2, u3, k1, k2, k3, k4, k5⟩ :: fs, tl, nU, nS, ?_, apart_same hA rfl, hst, ?_, hD, ?_⟩
        · rw [plLed, refs_cons]; rfl
        · exact List.forall_mem_cons.mpr ⟨⟨hf1, hf2, Nat.zero_le _, by show -1 ≤ turns - 1; omega⟩, hfs⟩
        · simp only [meas, hfl1, hfl0, List.length_cons]; omega
    · have hpl : place < ev.length := by omega
      have hpl' : place < (ev.map Sg.val).length := by rw [hle]; exact hpl
      have hx : ev[place]? = some ev[place] := List.getElem?_eq_getElem hpl
      have hxv : (ev.map Sg.val)[place]? = some (ev[place].val) := by rw [List.getElem?_map, hx]; rfl
      have hox := hsg ev[place] (List.getElem_mem hpl)
      have hxs : (sgs rows row)[place]? = some ev[place] := by rw [hev]; exact hx
      generalize ev[place] = x at hxv hox hxs
      cases x with
      | pl v9 t9 =>
        by_cases c5 : v9 = 50
        · subst c5
          have hst := mstep_50 (fs := fs.map Fx.fm) (f := ⟨row, turns, place, over⟩) hlt c2 hxs
          refine Says.mono (step_50 hA hrm' hys hlm hlm2 h0 h1' hpl' hxv) ?_
          rintro v n ⟨rfl, n1, u1, u2, u3, rfl⟩
          refine ⟨_, fun _ h => h, rfl, ⟨p, d, r, row, turns, ev.length, over, u1, u2, u3, k1, k2, k3, k4, k5⟩ :: fs, tl ++ [Sg.pl 50 t9], n1, nS, ?_, apart_same hA rfl, ?_, ?_, hD, ?_⟩
          · rw [plLed, refs_cons, ← map_snoc, hle]; rfl
          · rw [← hev]; exact hst
          · exact List.forall_mem_cons.mpr ⟨⟨hf1, hf2, by show ev.length ≤ (sgs rows row).length; rw [hev]; exact Nat.le_refl _, hf4⟩, hfs⟩
          · have h9 := flag_le rows (⟨p, d, r, row, turns, ev.length, over, u1, u2, u3, k1, k2, k3, k4, k5⟩ :: fs)
            simp only [meas, len1, List.length_cons]; omega
        · by_cases c6 : v9 = 51
          · subst c6
            have hst := mstep_51 (fs := fs.map Fx.fm) (f := ⟨row, turns, place, over⟩) hlt c2 hxs
            refine Says.mono (step_51 hA hrm' hys hlm hlm2 h0 h1' hpl' hxv) ?_
            rintro v n ⟨rfl, n1, u1, u2, u3, rfl⟩
            refine ⟨_, fun _ h => h, rfl, ⟨p, d, r, row, 1, ev.length, over, u1, u2, u3, k1, k2, k3, k4, k5⟩ :: fs, tl ++ [Sg.pl 51 t9], n1, nS, ?_, apart_same hA rfl, ?_, ?_, hD, ?_⟩
            · rw [plLed, refs_cons, ← map_snoc, hle]; rfl
            · rw [← hev]; exact hst
            · exact List.forall_mem_cons.mpr ⟨⟨hf1, hf2, by show ev.length ≤ (sgs rows row).length; rw [hev]; exact Nat.le_refl _, by show (-1 : Int) ≤ 1; decide⟩, hfs⟩
            · have h9 := flag_le rows (⟨p, d, r, row, 1, ev.length, over, u1, u2, u3, k1, k2, k3, k4, k5⟩ :: fs)
              simp only [meas, len1, List.length_cons]; omega
          · have hst := mstep_pl (fs := fs.map Fx.fm) (f := ⟨row, turns, place, over⟩) hlt c2 hxs c5 c6
            refine Says.mono (step_pl hA hrm' hys hlm hlm2 h0 h1' hpl' hxv c5 c6) ?_
            rintro v n ⟨rfl, n1, u1, u2, u3, rfl⟩
            refine ⟨_, fun _ h => h, rfl, ⟨p, d, r, row, turns, place + 1, over, u1, u2, u3, k1, k2, k3, k4, k5⟩ :: fs, tl ++ [Sg.pl v9 t9], n1, nS, ?_, apart_same hA rfl, hst, ?_, hD, ?_⟩
            · rw [plLed, refs_cons, ← map_snoc]; rfl
            · exact List.forall_mem_cons.mpr ⟨⟨hf1, hf2, by rw [hev]; exact hpl, hf4⟩, hfs⟩
            · have h9 := flag_le rows (⟨p, d, r, row, turns, place + 1, over, u1, u2, u3, k1, k2, k3, k4, k5⟩ :: fs)
              simp only [meas, len1, List.length_cons]; omega
      | go a9 i9 k9 =>
        obtain ⟨hg1, hg2, hg3, hg4, t8, t9, n9, hg5⟩ := hox
        obtain ⟨r9, ev9, nr9, nT9, hti9, hTm9, hrm9, hev9, hez9, hsg9⟩ := hT.row hg2
        have hst := mstep_go (fs := fs.map Fx.fm) (f := ⟨row, turns, place, over⟩) hlt c2 hxs
        refine Says.mono (step_go hA hrm' hys hlm hlm2 h0 h1' hpl' hxv (mem_app_right hg5) (mem_app_right hTm9) hti9 (by rw [List.length_map]; have := hT.1; omega) (mem_app_right hrm9)) ?_
        rintro v n ⟨rfl, p9, d9, n1, n2, u1, u2, u3, u5, u6, j1, j2, j3, j4, j5, rfl, hA9⟩
        refine ⟨plLed w U P dP S hS kS n1 n2 (⟨p9, d9, r9, i9, k9, 0, 0, t9, u5, u6, j1, j2, j3, j4, j5⟩ :: ⟨p, d, r, row, turns, place + 1, over, u1, u2, u3, k1, k2, k3, k4, k5⟩ :: fs) (tl ++ [Sg.go a9 i9 k9]) rest, ?_, rfl, ⟨p9, d9, r9, i9, k9, 0, 0, t9, u5, u6, j1, j2, j3, j4, j5⟩ :: ⟨p, d, r, row, turns, place + 1, over, u1, u2, u3, k1, k2, k3, k4, k5⟩ :: fs, tl ++ [Sg.go a9 i9 k9], n1, n2, rfl, ?_, hst, ?_, ?_, ?_⟩
        · intro q hq
          simp only [plLed, refs_cons, fxLed, List.cons_append, List.mem_cons, ← map_snoc] at hq ⊢
          rcases hq with h | h | h | h | h | h | h | h | h
          all_goals first | exact .inl h | exact .inr (.inl h) | exact .inr (.inr (.inl h)) | exact .inr (.inr (.inr (.inl h))) | exact .inr (.inr (.inr (.inr (.inl h)))) | exact .inr (.inr (.inr (.inr (.inr (.inl h))))) | exact .inr (.inr (.inr (.inr (.inr (.inr (.inl h)))))) | exact .inr (.inr (.inr (.inr (.inr (.inr (.inr (.inl h))))))) | exact .inr (.inr (.inr (.inr (.inr (.inr (.inr (.inr h)))))))
        · refine apart_perm hA9 fun x => ?_
          simp only [plLed, fxLed, List.cons_append, List.map_cons, List.map_append, List.count_cons, List.count_append]
          omega
        · exact List.forall_mem_cons.mpr ⟨⟨hg2, hti9, Nat.zero_le _, by show -1 ≤ k9; omega⟩, List.forall_mem_cons.mpr ⟨⟨hf1, hf2, by rw [hev]; exact hpl, hf4⟩, hfs⟩⟩
        · refine ⟨?_, hD⟩
          show fs.length + 1 ≤ i9
          have h5 : fs.length ≤ row := hD.1
          omega
        · have h9 := flag_le rows (⟨p9, d9, r9, i9, k9, 0, 0, t9, u5, u6, j1, j2, j3, j4, j5⟩ :: ⟨p, d, r, row, turns, place + 1, over, u1, u2, u3, k1, k2, k3, k4, k5⟩ :: fs)
          simp only [meas, len1, List.length_cons]; omega
end

section
theorem stop_0 {w : World} {mean : ExcName → Option Value} {mg mb : Mp} {P dP S : Addr} {nS : Nat} {kS : Tok} {hS : Int} {rest : Led}
    (hA : Apart ((P, instObj 129 dP) :: (dP, plD hS kS S) :: (S, listOf ([] : List Value).toArray nS) :: rest)) :
    Says w mean mg mb 112 4 40 [.ref P] ((P, instObj 129 dP) :: (dP, plD hS kS S) :: (S, listOf ([] : List Value).toArray nS) :: rest)
      (fun v news' => ∃ t S2 n2, v = .int 0 t ∧ news' = (P, instObj 129 dP) :: (dP, plD hS kS S2) :: (S2, listOf ([] : List Value).toArray n2) :: rest ∧ Apart news') := by
  unfold Says
  k_fill
  have hA0 := hA
  simp only [apart_cons, List.forall_mem_cons] at hA
  obtain ⟨⟨a1, a2, a3⟩, ⟨a4, a5⟩, a6, a7⟩ := hA
  intro dp un gd cn cs a ccd cl outer A₀ base h₀ L m s Q E B F X N T hk hdp hun hret
  refine wpAny_call ?_
  k_dflt ktr_enter
  k_steps
  rename_i s12 s11 S2 s9 l8 s7 F6 N5 F4 N3 T2 X1
  have Nc : News h₀ L _ ((P, instObj 129 dP) :: (dP, plD hS kS S2) :: (S2, listOf ([] : List Value).toArray 0) :: rest) := news_sub N3 (by
    intro q hq
    simp only [List.mem_cons] at hq
    rcases hq with h | h | h | h
    all_goals simp [h])
  refine hret _ _ _ _ F4 Nc ⟨_, S2, 0, rfl, rfl, ?_⟩
  simp only [apart_cons, List.forall_mem_cons]
  exact ⟨⟨a1, Nat.ne_of_gt l8.2.1, a3⟩, ⟨Nat.ne_of_gt l8.2.2.1, a5⟩, fun q hq => Nat.ne_of_lt (ktn_ltOf l8.2.2.2.2 q hq), a7⟩
theorem stop_1 {w : World} {mean : ExcName → Option Value} {mg mb : Mp} {P dP S pb db r : Addr} {xs : List Value} {turns place over : Int} {t1 t2 t3 k1 k2 k3 k4 k5 : Tok} {nS : Nat} {kS : Tok} {hS : Int} {rest : Led}
    (hA : Apart ((P, instObj 129 dP) :: (dP, plD hS kS S) :: (S, listOf (Value.ref pb :: xs).toArray nS) :: rest)) (h1 : (pb, instObj 59 db) ∈ rest) (h2 : (db, fmD w r turns place over t1 t2 t3 k1 k2 k3 k4 k5) ∈ rest) (hx : (Value.ref pb :: xs).length ≤ 100) :
    Says w mean mg mb 112 4 40 [.ref P] ((P, instObj 129 dP) :: (dP, plD hS kS S) :: (S, listOf (Value.ref pb :: xs).toArray nS) :: rest)
      (fun v news' => ∃ t S2 n2, v = .int over t ∧ news' = (P, instObj 129 dP) :: (dP, plD hS kS S2) :: (S2, listOf ([] : List Value).toArray n2) :: rest ∧ Apart news') := by
  unfold Says
  k_fill
  have hA0 := hA
  simp only [apart_cons, List.forall_mem_cons] at hA
  obtain ⟨⟨a1, a2, a3⟩, ⟨a4, a5⟩, a6, a7⟩ := hA
  have hx0 : (Value.ref pb :: xs)[0]? = some (Value.ref pb) := rfl
  have hx1 : (Value.ref pb :: xs).length ≠ 0 := by rw [List.length_cons]; omega
  intro dp un gd cn cs a ccd cl outer A₀ base h₀ L m s Q E B F X N T hk hdp hun hret
  refine wpAny_call ?_
  k_dflt ktr_enter
  k_steps
  rename_i s12 s11 S2 s9 l8 s7 F6 N5 F4 N3 T2 X1
  have Nc : News h₀ L _ ((P, instObj 129 dP) :: (dP, plD hS kS S2) :: (S2, listOf ([] : List Value).toArray 0) :: rest) := news_sub N3 (by
    intro q hq
    simp only [List.mem_cons] at hq
    rcases hq with h | h | h | h
    all_goals simp [h])
  refine hret _ _ _ _ F4 Nc ⟨_, S2, 0, rfl, rfl, ?_⟩
  simp only [apart_cons, List.forall_mem_cons]
  exact ⟨⟨a1, Nat.ne_of_gt l8.2.1, a3⟩, ⟨Nat.ne_of_gt l8.2.2.1, a5⟩, fun q hq => Nat.ne_of_lt (ktn_ltOf l8.2.2.2.2 q hq), a7⟩
end

section
local macro_rules | `(tactic| walk_at "exec While BoolOp cons nil") => `(tactic| refine halt ?_)
local macro_rules | `(tactic| walk_at "exec For Name Subscript cons nil") => `(tactic| refine halt ?_)
local macro_rules | `(tactic| walk_at "call ref") => `(tactic| ((with_reducible show wpAny _ _ (call (Value.ref 154) _) _ _ _); refine halt ?_))
def DuePost (V : Addr) (rest : Led) (rows : Rows) (most row : Nat) (turns₀ : Int) (told₀ : List Sg) (r : Value) (news' : Led) : Prop :=
  ∃ over tk told n', r = .int over tk ∧ news' = (V, listOf (told.map Sg.val).toArray n') :: rest ∧ DueEnd rows most row turns₀ told₀ over told
theorem due_step {w : World} {mean : ExcName → Option Value} {mg mb : Mp} {T V : Addr} {rows : Rows} {row most : Nat} {told₀ : List Sg} {nV : Nat} {turns₀ : Int} {t1 t2 t3 : Tok} {rest : Led}
    (IH : ∀ (i : Nat) (V : Addr) (told : List Sg) (nV : Nat) (k : Int) (t1 t2 t3 : Tok) (rest : Led), row < i → i < rows.length → Apart ((V, listOf (told.map Sg.val).toArray nV) :: rest) → TabIn rest T rows → told.length ≤ most → -1 ≤ k →
      Says w mean mg mb 154 (10 * (rows.length - i)) (60 * (rows.length - i)) [.ref T, .int i t1, .int k t2, .ref V, .int most t3] ((V, listOf (told.map Sg.val).toArray nV) :: rest) (DuePost V rest rows most i k told))
    (hA : Apart ((V, listOf (told₀.map Sg.val).toArray nV) :: rest)) (hT : TabIn rest T rows) (hrow : row < rows.length) (hu : told₀.length ≤ most) (hm : most ≤ 60) (ht : -1 ≤ turns₀) :
    Says w mean mg mb 154 (10 * (rows.length - row)) (60 * (rows.length - row)) [.ref T, .int row t1, .int turns₀ t2, .ref V, .int most t3] ((V, listOf (told₀.map Sg.val).toArray nV) :: rest) (DuePost V rest rows most row turns₀ told₀) := by
  unfold Says
  k_fill
  have hA0 := hA
  simp only [apart_cons] at hA
  obtain ⟨a1, a2⟩ := hA
  obtain ⟨r, ev, nr, nT, hti, hTm, hrm, hev, hez, hsg⟩ := hT.row hrow
  have hz4 : (rows.map rowRef).length ≤ 1000 := by rw [List.length_map]; have := hT.1; omega
  have hz5 : (ev.map Sg.val).length ≤ 1000 := by rw [List.length_map]; omega
  intro dp un gd cn cs a ccd cl outer A₀ base h₀ L m s Q E B F X N TT hk hdp hun hret
  have hdp' : dp + 8 < recursionLimit := by omega
  have hun' : un + 50 < cLine := by omega
  refine wpAny_call ?_
  k_dflt ktr_enter
  rename_i g9 L9 h9 FG9 F9 N9 B9 X9 T9
  k_steps
  refine Halt.go ?_
  (rename (Fr _ _ _ _) => Fw)
  (rename (News _ _ _ _) => Nw)
  replace Fw := fr_to Fw due_start
  refine While_inv2 (fun n m news => ∃ (tl : List Sg) (turns over : Int) (nV : Nat) (t2 t4 : Tok) (sv : Option Value), n = most - tl.length ∧ m = dueMap T V row turns most over t1 t2 t3 t4 sv ∧ news = (V, listOf (tl.map Sg.val).toArray nV) :: rest ∧ DueAt rows most row turns₀ told₀ turns 0 over tl ∧ -1 ≤ turns) Fw Nw ⟨told₀, turns₀, 0, nV, _, _, _, rfl, rfl, rfl, DueAt.start hu, ht⟩ ?_
  clear Fw Nw
  rintro n m₁ news₁ h₁ tk₁ F₁ N₁ ⟨tl, turns, over, nV', t2', t4', sv, rfl, rfl, rfl, hD, ht'⟩
  have htl := hD.1
  have hz6 : (tl.map Sg.val).length ≤ 1000 := by rw [List.length_map]; omega
  k_steps
  · refine Halt.go ?_
    (rename (Fr _ _ _ _) => Ff)
    (rename (News _ _ _ _) => Nf)
    rename_i z1 z2 z3 z4 z5 z6
    refine mid_intro (fun h tk => ∃ (tl' : List Sg) (turns' over : Int) (nV : Nat) (t2 t4 : Tok) (sv : Option Value), tl.length < tl'.length ∧ -1 ≤ turns' ∧ turns' ≠ 0 ∧ Fr g9 L9 h (dueMap T V row turns' most over t1 t2 t3 t4 sv) ∧ News g9 L9 h ((V, listOf (tl'.map Sg.val).toArray nV) :: rest) ∧ DueAt rows most row turns₀ told₀ turns' ev.length over tl') ?mid ?loop
    case mid =>
      rintro h tk ⟨tl', turns', over', nV9, t29, t49, sv9, hl9, ht9, h09, F8, N8, hD9⟩
      clear Ff Nf
      have htl9 := hD9.1
      have hlm : (tl'.map Sg.val).length = tl'.length := List.length_map ..
      have hz9 : (tl'.map Sg.val).length ≤ 1000 := by omega
      have hs9 : sgs rows row ≠ [] := by
        intro e
        rw [hev] at e
        rw [e] at z5
        exact z5 rfl
      have hd := fun q => hD9.turn q h09 hs9 (by rw [hev])
      dsimp only
      k_steps
      · dsimp only [WhileStep2]
        k_steps
        (rename (News h₀ L _ _) => Nf)
        (rename (Fr h₀ L _ _) => Ff)
        exact hret _ _ _ _ Ff Nf ⟨over', t49, tl', _, rfl, rfl, hD9.full (by omega)⟩
      · (rename (News _ _ _ _) => Nf)
        (rename (Fr _ _ _ _) => Ff)
        have e : dec turns' = turns' - 1 := by unfold dec; rw [if_neg (by omega)]
        have hd' := hd (by omega)
        rw [e] at hd'
        exact ⟨_, _, _, (V, listOf (tl'.map Sg.val).toArray nV9) :: rest, most - tl'.length, rfl, Ff, (fun p hp => Nf p (.tail _ hp)), by omega, tl', turns' - 1, over' + 1, nV9, _, _, _, rfl, (congrArg (fun m : Mp => fun y => if y = Str.ofString "over" then some _ else m y) due_turns).trans due_over, rfl, hd', by omega⟩
      · (rename (News _ _ _ _) => Nf)
        (rename (Fr _ _ _ _) => Ff)
        have e : dec turns' = turns' := by unfold dec; rw [if_pos (by omega)]; omega
        have hd' := hd (by omega)
        rw [e] at hd'
        exact ⟨_, _, _, (V, listOf (tl'.map Sg.val).toArray nV9) :: rest, most - tl'.length, rfl, Ff, (fun p hp => Nf p (.tail _ hp)), by omega, tl', turns', over' + 1, nV9, _, _, _, rfl, (congrArg (fun m : Mp => fun y => if y = Str.ofString "over" then some _ else m y) due_turns).trans due_over, rfl, hd', by omega⟩
    case loop =>
      intro Q' hmid hrt
      with_unfolding_all refine' For_turns Ff ?_
      k_steps
      refine tup_inv Sg.val (xs := ev) (n := nr) (news := (V, listOf (tl.map Sg.val).toArray nV') :: rest)
        (fun I pre rem m news => ∃ (tl' : List Sg) (nV : Nat) (sv : Option Value), tl.length ≤ tl'.length ∧ (pre ≠ [] → tl.length < tl'.length) ∧ ev = pre ++ rem ∧ m = dueMap T V row turns most over t1 t2' t3 t4' sv ∧ news = (V, listOf (tl'.map Sg.val).toArray nV) :: rest ∧ DueAt rows most row turns₀ told₀ turns pre.length over tl' ∧ V < I ∧ AllLt I rest)
        rfl Ff (fun p hp => Nf p (.tail _ hp)) (.tail _ hrm) ?start ?turn ?done
      case start =>
        intro I hI
        have hI' := allLt_of hI
        exact ⟨tl, nV', sv, Nat.le_refl _, fun h => absurd rfl h, rfl, rfl, rfl, hD, hI'.1, hI'.2⟩
      case done =>
        rintro I pre h tk m news ⟨tl', nV9, sv9, hl1, hl2, he, rfl, rfl, hD9, hI1, hI2⟩ F8 N8
        refine hmid _ _ ⟨tl', turns, over, nV9, t2', t4', sv9, hl2 (fun q => z5 ?_), ht', z1, F8, N8, ?_⟩
        · rw [he, q]; rfl
        · rw [he, List.append_nil]; exact hD9
      case turn =>
        rintro I pre x rem o h tk m news ho ⟨tl', nV9, sv9, hl1, hl2, he, rfl, rfl, hD9, hI1, hI2⟩ F8 N8
        have htl9 := hD9.1
        have hz9 : (tl'.map Sg.val).length ≤ 1000 := by rw [List.length_map]; omega
        have hpx : (sgs rows row)[pre.length]? = some x := by rw [hev, he]; simp
        have hox := hsg x (by rw [he]; simp)
        clear Ff Nf
        have hI3 : I ≠ V := Nat.ne_of_gt hI1
        cases x with
        | pl n t =>
          show wpAny _ _ (assign _ _ (Value.int n t)) _ _ _
          have hlm : (tl'.map Sg.val).length = tl'.length := List.length_map ..
          k_steps
          · refine hrt _ _ ?_
            dsimp only [WhileStep2]
            k_steps
            (rename (News h₀ L _ _) => Nf)
            (rename (Fr h₀ L _ _) => Ff)
            exact hret _ _ _ _ Ff (fun p hp => Nf p (.tail _ hp)) ⟨over, t4', tl', _, rfl, rfl, hD9.full (by omega)⟩
          · (rename (News _ _ _ _) => Nf)
            (rename (Fr _ _ _ _) => Ff)
            (rename n = 51 => e51)
            subst e51
            have hd := hD9.pl51 (by omega) z1 hpx
            rw [hev] at hd
            refine hmid _ _ ⟨tl' ++ [Sg.pl 51 t], 1, over, nV9 + 1, _, _, _, by rw [len1]; omega, by omega, by omega, fr_to Ff ((congrArg (fun m : Mp => fun y => if y = Str.ofString "turns" then some _ else m y) due_sign).trans due_turns), ?_, hd⟩
            rw [← map_snoc]
            exact fun p hp => Nf p (.tail _ (.tail _ hp))
          · exfalso
            (rename n = 51 => e51)
            (rename List.any _ _ = false => hany)
            rw [e51] at hany
            exact absurd hany (by decide)
          · (rename (News _ _ _ _) => Nf)
            (rename (Fr _ _ _ _) => Ff)
            (rename n ≠ 51 => n51)
            (rename List.any _ _ = true => hany)
            have e50 : n = 50 := by simp at hany; omega
            subst e50
            have hd := hD9.pl50 (by omega) z1 hpx
            rw [hev] at hd
            refine hmid _ _ ⟨tl' ++ [Sg.pl 50 t], turns, over, nV9 + 1, _, _, _, by rw [len1]; omega, ht', z1, fr_to Ff due_sign, ?_, hd⟩
            rw [← map_snoc]
            exact fun p hp => Nf p (.tail _ (.tail _ hp))
          · (rename (News _ _ _ _) => Nf)
            (rename (Fr _ _ _ _) => Ff)
            (rename n ≠ 51 => n51)
            (rename List.any _ _ = false => hany)
            have e50 : n ≠ 50 := by intro e; rw [e] at hany; exact absurd hany (by decide)
            have hd := hD9.pl (by omega) z1 hpx e50 n51
            refine ⟨_, _, _, (V, listOf ((tl' ++ [Sg.pl n t]).map Sg.val).toArray (nV9 + 1)) :: rest, rfl, Ff, ?_, off_one hI1 hI2, ⟨.tail _ hrm, trivial⟩, tl' ++ [Sg.pl n t], nV9 + 1, some (Value.int n t), by rw [len1]; omega, fun _ => by rw [len1]; omega, by rw [he]; simp, due_sign, rfl, ?_, hI1, hI2⟩
            · rw [← map_snoc]
              exact fun p hp => Nf p (.tail _ hp)
            · exact hd
        | go a9 i9 k9 =>
          obtain ⟨hg1, hg2, hg3, hg4, t7, t8, n9, hg5⟩ := hox
          show wpAny _ _ (assign _ _ (Value.ref a9)) _ _ _
          have hlm : (tl'.map Sg.val).length = tl'.length := List.length_map ..
          k_steps
          · refine hrt _ _ ?_
            dsimp only [WhileStep2]
            k_steps
            (rename (News h₀ L _ _) => Nf)
            (rename (Fr h₀ L _ _) => Ff)
            exact hret _ _ _ _ Ff (fun p hp => Nf p (.tail _ hp)) ⟨over, t4', tl', _, rfl, rfl, hD9.full (by omega)⟩
          · (rename (News _ _ _ _) => Nf)
            (rename (Fr _ _ _ _) => Ff)
            k_dflt (refine' Says.use (IH i9 V (tl' ++ [Sg.go a9 i9 k9]) (nV9 + 1) k9 t7 t8 t3 ((I, o) :: rest) hg1 hg2 (apart_same (apart_in (o := o) hA0 hI1 hI2) rfl) (hT.mono fun p hp => .tail _ hp) (by rw [len1]; omega) (by omega)) ?kB Ff ?kX ?kN ?kT ?kK ?kd ?ku ?_)
            case kB => k_asm
            case kX => k_asm
            case kT => k_asm
            case kK => exact rfl
            case kN =>
              rw [← map_snoc]
              intro p hp
              rcases List.mem_cons.mp hp with rfl | hp
              · exact Nf _ (.tail _ (.head _))
              · rcases List.mem_cons.mp hp with rfl | hp
                · exact Nf _ (.head _)
                · exact Nf _ (.tail _ (.tail _ hp))
            case kd => (show dp + 1 + 10 * (rows.length - i9) < recursionLimit; omega)
            case ku => (show un + 3 + 60 * (rows.length - i9) < cLine; omega)
            rintro r news' h' tk' F' N' ⟨over', tkx, told', n', rfl, rfl, hE⟩
            have hd := hD9.go (by omega) z1 hpx hE
            have hmo := hE.1
            have hgr := hE.grows
            rw [len1] at hgr
            k_steps
            (rename (News _ _ _ _) => Nf)
            (rename (Fr _ _ _ _) => Ff)
            refine ⟨_, _, _, (V, listOf (told'.map Sg.val).toArray n') :: rest, rfl, Ff, ?_, off_one hI1 hI2, ⟨.tail _ hrm, trivial⟩, told', n', some (Value.ref a9), by omega, fun _ => by omega, by rw [he]; simp, due_sign, rfl, ?_, hI1, hI2⟩
            · intro p hp
              rcases List.mem_cons.mp hp with rfl | hp
              · exact Nf _ (.tail _ (.tail _ (.head _)))
              · rcases List.mem_cons.mp hp with rfl | hp
                · exact Nf _ (.tail _ (.head _))
                · exact Nf _ (.tail _ (.tail _ (.tail _ hp)))
            · exact hd
  all_goals (
    have hlm : (tl.map Sg.val).length = tl.length := List.length_map ..
    have hlm2 : (ev.map Sg.val).length = ev.length := List.length_map ..
    (rename (News h₀ L _ _) => Nf)
    (rename (Fr h₀ L _ _) => Ff)
    refine hret _ _ _ _ Ff (by first | exact Nf | exact fun p hp => Nf p (.tail _ hp)) ⟨over, t4', tl, nV', rfl, rfl, hD.stop ?_⟩
    first | (left; omega) | (right; right; omega) | (right; left; rw [hev]; exact List.length_eq_zero_iff.mp (by omega)))
theorem due_ok {w : World} {mean : ExcName → Option Value} {mg mb : Mp} {T : Addr} {rows : Rows} {most : Nat} (hm : most ≤ 60) : ∀ (d row : Nat), rows.length - row ≤ d →
    ∀ (V : Addr) (told : List Sg) (nV : Nat) (k : Int) (t1 t2 t3 : Tok) (rest : Led), row < rows.length → Apart ((V, listOf (told.map Sg.val).toArray nV) :: rest) → TabIn rest T rows → told.length ≤ most → -1 ≤ k →
      Says w mean mg mb 154 (10 * (rows.length - row)) (60 * (rows.length - row)) [.ref T, .int row t1, .int k t2, .ref V, .int most t3] ((V, listOf (told.map Sg.val).toArray nV) :: rest) (DuePost V rest rows most row k told) := by
  intro d
  induction d with
  | zero => intro row h V told nV k t1 t2 t3 rest hr; omega
  | succ d ih =>
    intro row h V told nV k t1 t2 t3 rest hr hA hT hu hk
    exact due_step (fun i V told nV k t1 t2 t3 rest h1 h2 hA hT hu hk => ih i (by omega) V told nV k t1 t2 t3 rest h2 hA hT hu hk) hA hT hr hu hm hk
end

section
theorem Says.weak {w : World} {mean : ExcName → Option Value} {mg mb : Mp} {f : Addr} {dd uu dd' uu' : Nat} {vs : List Value} {news : Led} {Post : Value → Led → Prop} (C : Says w mean mg mb f dd uu vs news Post) (h1 : dd ≤ dd') (h2 : uu ≤ uu') :
    Says w mean mg mb f dd' uu' vs news Post :=
  fun dp un gd cn cs a ccd cl outer A₀ base h₀ L m s Q E B F X N T hk hd hu ret => C dp un gd cn cs a ccd cl outer A₀ base h₀ L m s Q E B F X N T hk (Nat.lt_of_le_of_lt (Nat.add_le_add_left h1 _) hd) (Nat.lt_of_le_of_lt (Nat.add_le_add_left h2 _) hu) ret
theorem due_top {w : World} {mean : ExcName → Option Value} {mg mb : Mp} {T V : Addr} {rows : Rows} {most : Nat} {k : Int} {t1 t2 t3 : Tok} {rest : Led} (hm : most ≤ 60) (hr : 0 < rows.length)
    (hA : Apart ((V, listOf (([] : List Sg).map Sg.val).toArray 0) :: rest)) (hT : TabIn rest T rows) (hk : -1 ≤ k) :
    Says w mean mg mb 154 40 240 [.ref T, .int 0 t1, .int k t2, .ref V, .int most t3] ((V, listOf (([] : List Sg).map Sg.val).toArray 0) :: rest) (DuePost V rest rows most 0 k []) :=
  (due_ok (w := w) (mean := mean) (mg := mg) (mb := mb) hm rows.length 0 (Nat.le_refl _) V [] 0 k t1 t2 t3 rest hr hA hT (Nat.zero_le _) hk).weak (by have := hT.1; omega) (by have := hT.1; omega)
end

section
local macro_rules | `(tactic| walk_at "newTuple") => `(tactic| (k_here; (with_reducible show wpAny _ _ (newTuple [Value.int _ _, Value.int _ _]) _ _ _); k_dflt (refine' my_pair ?F ?N ?_; (case F => k_asm); (case N => k_asm); k_whole); refine halt ?_))
local macro_rules | `(tactic| walk_at "call type:tuple") => `(tactic| (k_here; (with_reducible show wpAny _ _ (call (Value.type "tuple") [Value.ref _]) _ _ _); k_dflt (refine' my_tupOf ?F ?N ?m ?z ?_; (case F => k_asm); (case N => k_asm); (case m => k_mem); (case z => omega); k_whole); refine halt ?_))
local macro_rules | `(tactic| walk_at "exec For Name Call cons nil") => `(tactic| refine halt ?_)
local macro_rules | `(tactic| walk_at "pyIter ref") => `(tactic| refine halt ?_)
local macro_rules | `(tactic| walk_at "call ref") => `(tactic| ((with_reducible show wpAny _ _ (call (Value.ref 140) _) _ _ _); refine halt ?_))
def RowsPost (D C : Addr) (cells : List Value) (nc : Nat) (rest : Led) (r : Value) (news' : Led) : Prop :=
  ∃ (Fd : Addr) (rows : Rows) (nF n : Nat) (k : Int) (tq : Tok) (rst : Led), r = .ref Fd ∧ news' = (D, listOf #[.ref C, .int k tq] n) :: (C, listOf cells.toArray nc) :: (Fd, listOf (rows.map rowRef).toArray nF) :: rst ∧ rest <:+ rst ∧ RowsOk rst rows.length rows ∧
    1 ≤ rows.length ∧ rows.length ≤ 4 ∧ 0 ≤ k ∧ k ≤ 200 ∧ Apart news'
theorem rows_ok {w : World} {mean : ExcName → Option Value} {mg mb : Mp} {D C : Addr} {cells : List Value} {ns : List Int} {n nc : Nat} {k : Int} {tq : Tok} {rest : Led}
    (hA : Apart ((D, listOf #[.ref C, .int k tq] n) :: (C, listOf cells.toArray nc) :: rest)) (hI : IntsAre cells ns) (hlen : ns.length ≤ 63) (hk0 : 0 ≤ k) (hk1 : k ≤ 100) :
    Says w mean mg mb 147 6 100 [.ref D] ((D, listOf #[.ref C, .int k tq] n) :: (C, listOf cells.toArray nc) :: rest) (RowsPost D C cells nc rest) := by
  unfold Says
  k_fill
  have hA0 := hA
  simp only [apart_cons, List.forall_mem_cons] at hA
  obtain ⟨⟨a1, a2⟩, a3, a4⟩ := hA
  intro dp un gd cn cs a ccd cl outer A₀ base h₀ L m s Q E B F X N TT hk hdp hun hret
  refine wpAny_call ?_
  k_dflt ktr_enter
  rename_i g9 L9 h9 FG9 F9 N9 B9 X9 T9
  k_steps
  (rename (Fr _ _ _ _) => Ff)
  (rename (News _ _ _ _) => Nf)
  (rename (_ < _ ∧ _) => l1)
  rename_i z1 z2
  have hA1 : Apart ([(z1, listOf [].toArray 0)] ++ (D, listOf #[.ref C, .int k tq] n) :: (C, listOf cells.toArray nc) :: rest) := by
    rw [List.cons_append, List.nil_append, apart_cons]
    refine ⟨?_, hA0⟩
    simp only [List.forall_mem_cons]
    exact ⟨Nat.ne_of_lt l1.1, Nat.ne_of_lt l1.2.1, lt_ne l1.2.2⟩
  k_dflt (refine' draw_use [(z1, listOf [].toArray 0)] rest hA1 hI hlen hk0 (by omega) (by omega) (by omega) ?kB Ff ?kX Nf ?kT ?kK ?kd ?ku ?_)
  case kB => k_asm
  case kX => k_asm
  case kT => k_asm
  case kK => exact rfl
  case kd => (show dp + 1 + 1 < recursionLimit; omega)
  case ku => (show un + 3 + 8 < cLine; omega)
  intro i4 t4 n4 tk4 h4 tkh4 hi0 hi1 F4 N4
  simp only [List.cons_append, List.nil_append] at N4
  clear Ff Nf
  have hA3 : Apart ((D, listOf #[.ref C, .int k tq] n) :: (C, listOf cells.toArray nc) :: (z1, listOf [].toArray 0) :: rest) := apart_new (a := [(D, listOf #[.ref C, .int k tq] n), (C, listOf cells.toArray nc)]) (b := rest) (x := (z1, listOf [].toArray 0)) hA0 (by
    simp only [List.cons_append, List.nil_append, List.forall_mem_cons]
    exact ⟨l1.1, l1.2.1, ktn_ltOf l1.2.2⟩)
  obtain ⟨j4, rfl⟩ := Int.eq_ofNat_of_zero_le hi0
  k_steps
  refine Halt.go ?_
  (rename (Fr _ _ _ _) => Ff)
  (rename (News _ _ _ _) => Nf)
  replace Ff := fr_to Ff row_start
  (rename (_ < _ ∧ _) => l2)
  replace Nf := news_sub Nf (fun p hp => List.Mem.tail _ hp)
  refine For_invVF Ff rfl rfl ?_
  k_steps
  refine Halt.go ?_
  (rename (IsRange _ _ _ _ _ _ _ _) => hR)
  (rename (Fr g9 L9 _ _) => Ff)
  (rename (News g9 L9 _ _) => Nf)
  have hA2 := apart_same (b := (D, listOf #[.ref C, .int (k + 1) tk4] n4) :: (C, listOf cells.toArray nc) :: (z1, listOf (([] : Rows).map rowRef).toArray 0) :: rest) hA3 rfl
  refine range_inv (1 + j4) (news := (D, listOf #[.ref C, .int (k + 1) tk4] n4) :: (C, listOf cells.toArray nc) :: (z1, listOf (([] : Rows).map rowRef).toArray 0) :: rest)
    (fun I i m news => ∃ (rows : Rows) (rst : Led) (k' : Int) (n' nF : Nat) (t' : Tok) (av sv bv wv : Option Value), m = rowMap D z1 (1 + (j4 : Int)) tkh4 av sv bv wv ∧
      news = (D, listOf #[.ref C, .int k' t'] n') :: (C, listOf cells.toArray nc) :: (z1, listOf (rows.map rowRef).toArray nF) :: rst ∧ rest <:+ rst ∧ rows.length = i ∧ RowsOk rst (1 + j4) rows ∧ 0 ≤ k' ∧ k' ≤ 101 + 16 * i ∧ Apart news ∧ ∀ p ∈ news, p.1 ≠ I)
    rfl hR (small_one (by omega) (by omega) (by omega) (by omega)) (by rw [rangeSize_nat]; omega) Ff ?nN ?start ?turn ?done
  case nN =>
    intro p hp
    rcases List.mem_cons.mp hp with rfl | hp
    · exact Nf _ (.tail _ (.head _))
    · rcases List.mem_cons.mp hp with rfl | hp
      · exact Nf _ (.tail _ (.tail _ (.head _)))
      · rcases List.mem_cons.mp hp with rfl | hp
        · exact Nf _ (.head _)
        · exact Nf _ (.tail _ (.tail _ (.tail _ hp)))
  case start =>
    intro I hI
    exact ⟨[], rest, k + 1, n4, 0, tk4, none, none, none, none, rfl, rfl, List.suffix_rfl, rfl, (fun j row h => by simp at h), by omega, by omega, hA2, fun p hp => Nat.ne_of_lt (hI p hp)⟩
  case done =>
    rintro I h tk m news ⟨rows, rst, k', n', nF, t', av, sv, bv, wv, rfl, rfl, hsub, hrl, hro, hk'0, hk'1, hA9, hI9⟩ F8 N8
    dsimp only
    k_steps
    (rename (News h₀ L _ _) => Nf9)
    (rename (Fr h₀ L _ _) => Ff9)
    exact hret _ _ _ _ Ff9 Nf9 ⟨z1, rows, nF, n', k', t', rst, rfl, rfl, hsub, by rw [hrl]; exact hro, by omega, by omega, hk'0, by omega, hA9⟩
  case turn =>
    rintro I i t h tk m news hi ⟨rows, rst, k', n', nF, t', av, sv, bv, wv, rfl, rfl, hsub, hrl, hro, hk'0, hk'1, hA9, hI9⟩ F8 N8
    clear Ff Nf
    replace F8 := fr_to F8 row_at
    have hAI : Apart ((I, itR (0 + ((i + 1 : Nat) : Int)) (((1 + j4 : Nat) : Int) - ((i + 1 : Nat) : Int))) :: (D, listOf #[.ref C, .int k' t'] n') :: (C, listOf cells.toArray nc) :: (z1, listOf (rows.map rowRef).toArray nF) :: rst) := apart_cons.mpr ⟨hI9, hA9⟩
    have hzr : (rows.map rowRef).length ≤ 1000 := by rw [List.length_map]; omega
    k_steps
    refine Halt.go ?_
    (rename (Fr _ _ _ _) => Ff)
    (rename (News _ _ _ _) => Nf)
    (rename (_ < _ ∧ _) => l3)
    rename_i y1 y2 y3 y4 y5
    replace Ff := fr_to Ff row_signs
    have hAS : Apart ([(y1, listOf (([] : List Sg).map Sg.val).toArray 0), (I, itR (0 + ((i + 1 : Nat) : Int)) (((1 + j4 : Nat) : Int) - ((i + 1 : Nat) : Int)))] ++ (D, listOf #[.ref C, .int k' t'] n') :: (C, listOf cells.toArray nc) :: (z1, listOf (rows.map rowRef).toArray nF) :: rst) := apart_new (a := []) (b := (I, itR (0 + ((i + 1 : Nat) : Int)) (((1 + j4 : Nat) : Int) - ((i + 1 : Nat) : Int))) :: (D, listOf #[.ref C, .int k' t'] n') :: (C, listOf cells.toArray nc) :: (z1, listOf (rows.map rowRef).toArray nF) :: rst) (x := (y1, listOf (([] : List Sg).map Sg.val).toArray 0)) hAI (by
      simp only [List.nil_append, List.forall_mem_cons]
      exact ⟨l3.1, l3.2.1, l3.2.2.1, l3.2.2.2.1, ktn_ltOf l3.2.2.2.2⟩)
    refine For_invVF Ff rfl rfl ?_
    k_steps
    k_dflt (refine' draw_use _ _ hAS hI hlen hk'0 (by omega) (by omega) (by omega) ?kB Ff ?kX Nf ?kT ?kK ?kd ?ku ?_)
    case kB => k_asm
    case kX => k_asm
    case kT => k_asm
    case kK => exact rfl
    case kd => (show dp + 1 + 1 < recursionLimit; omega)
    case ku => (show un + 3 + 8 < cLine; omega)
    intro i5 t5 n5 tk5 h5 tkh5 hi50 hi51 F5 N5
    simp only [List.cons_append, List.nil_append] at N5
    clear Ff Nf
    obtain ⟨j5, rfl⟩ := Int.eq_ofNat_of_zero_le hi50
    k_steps
    refine Halt.go ?_
    (rename (IsRange _ _ _ _ _ _ _ _) => hR5)
    (rename (Fr _ _ _ _) => Ff)
    (rename (News _ _ _ _) => Nf)
    refine range_inv j5
      (fun I' j m news => ∃ (sl : List Sg) (rs' : Led) (k2 : Int) (n2 nS : Nat) (t2 : Tok) (bv wv : Option Value), m = rowMap D z1 (1 + (j4 : Int)) tkh4 (some (.int (0 + (i : Int)) t)) (some (.ref y1)) bv wv ∧
        news = (y1, listOf (sl.map Sg.val).toArray nS) :: (I, itR (0 + ((i + 1 : Nat) : Int)) (((1 + j4 : Nat) : Int) - ((i + 1 : Nat) : Int))) :: (D, listOf #[.ref C, .int k2 t2] n2) :: (C, listOf cells.toArray nc) :: (z1, listOf (rows.map rowRef).toArray nF) :: rs' ∧ rst <:+ rs' ∧ sl.length = j ∧ (∀ sg ∈ sl, SgOk rs' (1 + j4) i sg) ∧
        0 ≤ k2 ∧ k2 ≤ k' + 1 + 3 * j ∧ Apart news ∧ ∀ p ∈ news, p.1 ≠ I')
      rfl hR5 (small_one (by omega) (by omega) (by omega) (by omega)) (by rw [rangeSize_nat]; omega) Ff Nf ?start2 ?turn2 ?done2
    case start2 =>
      intro I' hI'
      exact ⟨[], rst, k' + 1, n5, 0, tk5, bv, wv, rfl, rfl, List.suffix_rfl, rfl, (fun sg h => nomatch h), by omega, by omega, apart_same hAS rfl, fun p hp => Nat.ne_of_lt (hI' p hp)⟩
    case done2 =>
      rintro I' h tk m news ⟨sl, rs', k2, n2, nS, t2, bv, wv, rfl, rfl, hsub2, hsl, hsg, hk20, hk21, hA2', hI2'⟩ F8 N8
      have hlm : (sl.map Sg.val).length = sl.length := List.length_map ..
      have hd := hA2'
      simp only [apart_cons, List.forall_mem_cons] at hd
      obtain ⟨⟨d1, d2, d3, d4, d5⟩, ⟨d6, d7, d8, d9⟩, ⟨d10, d11, d12⟩, ⟨d13, d14⟩, d15, d16⟩ := hd
      k_steps
      refine Halt.go ?_
      intro R h8 F8 N8 l9
      have l10 := allLt_of l9
      simp only [AllLt, and_true] at l10
      k_steps
      (rename (Fr _ _ _ _) => Ff9)
      (rename (News _ _ _ _) => Nf9)
      refine ⟨_, _, _, (D, listOf #[.ref C, .int k2 t2] n2) :: (C, listOf cells.toArray nc) :: (z1, listOf ((rows ++ [(R, sl)]).map rowRef).toArray (nF + 1)) :: (R, tupOf (sl.map Sg.val) 0) :: rs', rfl, Ff9, ?dN, ?dO, rows ++ [(R, sl)], (R, tupOf (sl.map Sg.val) 0) :: rs', k2, n2, nF + 1, t2, _, _, _, _, rfl, rfl, ?dS, ?dL, ?dR, hk20, by omega, ?dA, ?dP⟩
      case dN =>
        have e : (rows ++ [(R, sl)]).map rowRef = rows.map rowRef ++ [Value.ref R] := by simp [rowRef]
        rw [e]
        intro p hp
        simp only [List.mem_cons] at hp
        rcases hp with h | h | h | h | h | h
        all_goals exact Nf9 p (by simp [h])
      case dO =>
        simp only [List.forall_mem_cons]
        exact ⟨d6, d7, d8, Nat.ne_of_gt l10.2.1, d9⟩
      case dP =>
        simp only [List.forall_mem_cons]
        exact ⟨d6, d7, d8, Nat.ne_of_gt l10.2.1, d9⟩
      case dS => exact (hsub.trans hsub2).trans (List.suffix_cons _ _)
      case dL => simp [hrl]
      case dR =>
        refine rows_snoc ((hro.mono fun p hp => hsub2.subset hp).mono fun p hp => .tail _ hp) ⟨⟨0, .head _⟩, (by show sl.length ≤ 5; omega), fun sg m => ?_⟩
        rw [hrl]
        exact (hsg sg m).mono fun p hp => .tail _ hp
      case dA =>
        have hAd := (apart_cons.mp (apart_cons.mp hA2').2).2
        exact apart_same (apart_new (a := [(D, listOf #[.ref C, .int k2 t2] n2), (C, listOf cells.toArray nc), (z1, listOf (rows.map rowRef).toArray nF)]) (b := rs') (x := (R, tupOf (sl.map Sg.val) 0)) hAd (by
          simp only [List.cons_append, List.nil_append, List.forall_mem_cons]
          exact ⟨l10.2.2.1, l10.2.2.2.1, l10.2.2.2.2.1, ktn_ltOf l10.2.2.2.2.2⟩)) rfl
    case turn2 =>
      rintro I' j tj h tk m news hj ⟨sl, rs', k2, n2, nS, t2, bv, wv, rfl, rfl, hsub2, hsl, hsg, hk20, hk21, hA2', hI2'⟩ F8 N8
      replace F8 := fr_to F8 row_beat
      have hAI2 : Apart ((I', itR (0 + ((j + 1 : Nat) : Int)) ((j5 : Int) - ((j + 1 : Nat) : Int))) :: (y1, listOf (sl.map Sg.val).toArray nS) :: (I, itR (0 + ((i + 1 : Nat) : Int)) (((1 + j4 : Nat) : Int) - ((i + 1 : Nat) : Int))) :: (D, listOf #[.ref C, .int k2 t2] n2) :: (C, listOf cells.toArray nc) :: (z1, listOf (rows.map rowRef).toArray nF) :: rs') := apart_cons.mpr ⟨hI2', hA2'⟩
      have hlm : (sl.map Sg.val).length = sl.length := List.length_map ..
      have hd := hAI2
      simp only [apart_cons, List.forall_mem_cons] at hd
      obtain ⟨⟨d1, d2, d3, d4, d5, d6⟩, ⟨d7, d8, d9, d10, d11⟩, ⟨d12, d13, d14, d15⟩, ⟨d16, d17, d18⟩, ⟨d19, d20⟩, d21, d22⟩ := hd
      clear Ff Nf
      k_steps
      (rename (Fr _ _ _ _) => Ff)
      (rename (News _ _ _ _) => Nf)
      k_dflt (refine' draw_use [(I', itR (0 + ((j + 1 : Nat) : Int)) ((j5 : Int) - ((j + 1 : Nat) : Int))), (y1, listOf (sl.map Sg.val).toArray nS), (I, itR (0 + ((i + 1 : Nat) : Int)) (((1 + j4 : Nat) : Int) - ((i + 1 : Nat) : Int)))] _ hAI2 hI hlen hk20 (by omega) (by omega) (by omega) ?kB Ff ?kX Nf ?kT ?kK ?kd ?ku ?_)
      case kB => k_asm
      case kX => k_asm
      case kT => k_asm
      case kK => exact rfl
      case kd => (show dp + 1 + 1 < recursionLimit; omega)
      case ku => (show un + 3 + 8 < cLine; omega)
      intro w6 t6 n6 tk6 h6 tkh6 hi60 hi61 F6 N6
      simp only [List.cons_append, List.nil_append] at N6
      clear Ff Nf
      k_steps
      all_goals first
        | ((rename (Fr _ _ _ _) => Ff)
           (rename (News _ _ _ _) => Nf)
           (refine ⟨_, _, _, _, rfl, Ff, news_snoc Nf, ?_, _, rs', k2 + 1, n6, nS + 1, tk6, _, _, row_way, rfl, hsub2, ?_, sgs_snoc hsg trivial, by omega, by omega, apart_same hA2' rfl, ?_⟩)
           · (simp only [List.forall_mem_cons]; exact ⟨d1, d2, d3, d4, d5, d6⟩)
           · (rw [len1, hsl])
           · (simp only [List.forall_mem_cons]; exact ⟨d1, d2, d3, d4, d5, d6⟩))
        | skip
      (rename (Fr _ _ _ _) => Ff)
      (rename (News _ _ _ _) => Nf)
      have hAI3 : Apart ([(I', itR (0 + ((j + 1 : Nat) : Int)) ((j5 : Int) - ((j + 1 : Nat) : Int))), (y1, listOf (sl.map Sg.val).toArray nS), (I, itR (0 + ((i + 1 : Nat) : Int)) (((1 + j4 : Nat) : Int) - ((i + 1 : Nat) : Int)))] ++ (D, listOf #[.ref C, .int (k2 + 1) tk6] n6) :: (C, listOf cells.toArray nc) :: (z1, listOf (rows.map rowRef).toArray nF) :: rs') := apart_same hAI2 rfl
      k_dflt (refine' draw_use [(I', itR (0 + ((j + 1 : Nat) : Int)) ((j5 : Int) - ((j + 1 : Nat) : Int))), (y1, listOf (sl.map Sg.val).toArray nS), (I, itR (0 + ((i + 1 : Nat) : Int)) (((1 + j4 : Nat) : Int) - ((i + 1 : Nat) : Int)))] _ hAI3 hI hlen (by omega) (by omega) (by omega) (by omega) ?kB Ff ?kX Nf ?kT ?kK ?kd ?ku ?_)
      case kB => k_asm
      case kX => k_asm
      case kT => k_asm
      case kK => exact rfl
      case kd => (show dp + 1 + 1 < recursionLimit; omega)
      case ku => (show un + 3 + 8 < cLine; omega)
      intro i7 t7 n7 tk7 h7 tkh7 hi70 hi71 F7 N7
      simp only [List.cons_append, List.nil_append] at N7
      clear Ff Nf
      obtain ⟨j7, rfl⟩ := Int.eq_ofNat_of_zero_le hi70
      k_steps
      (rename (Fr _ _ _ _) => Ff)
      (rename (News _ _ _ _) => Nf)
      have hAI4 : Apart ([(I', itR (0 + ((j + 1 : Nat) : Int)) ((j5 : Int) - ((j + 1 : Nat) : Int))), (y1, listOf (sl.map Sg.val).toArray nS), (I, itR (0 + ((i + 1 : Nat) : Int)) (((1 + j4 : Nat) : Int) - ((i + 1 : Nat) : Int)))] ++ (D, listOf #[.ref C, .int (k2 + 1 + 1) tk7] n7) :: (C, listOf cells.toArray nc) :: (z1, listOf (rows.map rowRef).toArray nF) :: rs') := apart_same hAI2 rfl
      k_dflt (refine' draw_use [(I', itR (0 + ((j + 1 : Nat) : Int)) ((j5 : Int) - ((j + 1 : Nat) : Int))), (y1, listOf (sl.map Sg.val).toArray nS), (I, itR (0 + ((i + 1 : Nat) : Int)) (((1 + j4 : Nat) : Int) - ((i + 1 : Nat) : Int)))] _ hAI4 hI hlen (by omega) (by omega) (by omega) (by omega) ?kB Ff ?kX Nf ?kT ?kK ?kd ?ku ?_)
      case kB => k_asm
      case kX => k_asm
      case kT => k_asm
      case kK => exact rfl
      case kd => (show dp + 1 + 1 < recursionLimit; omega)
      case ku => (show un + 3 + 8 < cLine; omega)
      intro i8 t8 n8 tk8 h8 tkh8 hi80 hi81 F8 N8
      simp only [List.cons_append, List.nil_append] at N8
      clear Ff Nf
      k_steps
      refine Halt.go ?_
      intro G h10 F10 N10 l11
      have l12 := allLt_of l11
      simp only [AllLt, and_true] at l12
      have e11 : (0 + (i : Int) + 1 + (j7 : Int)) = ((i + 1 + j7 : Nat) : Int) := by omega
      rw [e11] at N10
      obtain ⟨t9, N11⟩ : ∃ t9, News g9 L9 h10 ((G, tupOf [.int ((i + 1 + j7 : Nat) : Int) t9, .int i8 t8] 0) :: _) := ⟨_, N10⟩
      clear N10
      have d0 : G ≠ z1 := Nat.ne_of_gt l12.2.2.2.2.2.1
      have d00 : G ≠ I' := Nat.ne_of_gt l12.1
      have d01 : G ≠ y1 := Nat.ne_of_gt l12.2.1
      k_steps
      (rename (Fr _ _ _ _) => Ff)
      (rename (News _ _ _ _) => Nf)
      refine ⟨_, _, _, (y1, listOf ((sl ++ [Sg.go G (i + 1 + j7) i8]).map Sg.val).toArray (nS + 1)) :: (I, itR (0 + ((i + 1 : Nat) : Int)) (((1 + j4 : Nat) : Int) - ((i + 1 : Nat) : Int))) :: (D, listOf #[.ref C, .int (k2 + 1 + 1 + 1) tk8] n8) :: (C, listOf cells.toArray nc) :: (z1, listOf (rows.map rowRef).toArray nF) :: (G, tupOf [.int ((i + 1 + j7 : Nat) : Int) t9, .int i8 t8] 0) :: rs', rfl, Ff, ?gN, ?gO, sl ++ [Sg.go G (i + 1 + j7) i8], (G, tupOf [.int ((i + 1 + j7 : Nat) : Int) t9, .int i8 t8] 0) :: rs', k2 + 1 + 1 + 1, n8, nS + 1, tk8, _, _, row_way, rfl, ?gS, by rw [len1, hsl], ?gG, by omega, by omega, ?gA, ?gP⟩
      case gN =>
        rw [← map_snoc]
        intro p hp
        simp only [List.mem_cons] at hp
        rcases hp with h | h | h | h | h | h | h | h
        all_goals exact Nf p (by simp [h, Sg.val])
      case gO =>
        simp only [List.forall_mem_cons]
        exact ⟨d1, d2, d3, d4, d5, d00, d6⟩
      case gP =>
        simp only [List.forall_mem_cons]
        exact ⟨d1, d2, d3, d4, d5, d00, d6⟩
      case gS => exact hsub2.trans (List.suffix_cons _ _)
      case gG =>
        refine sgs_snoc (fun sg m => (hsg sg m).mono fun p hp => .tail _ hp) ⟨by omega, by omega, by omega, by omega, _, _, _, .head _⟩
      case gA =>
        exact apart_same (apart_new (a := [(y1, listOf (sl.map Sg.val).toArray nS), (I, itR (0 + ((i + 1 : Nat) : Int)) (((1 + j4 : Nat) : Int) - ((i + 1 : Nat) : Int))), (D, listOf #[.ref C, .int k2 t2] n2), (C, listOf cells.toArray nc), (z1, listOf (rows.map rowRef).toArray nF)]) (b := rs') (x := (G, tupOf [.int ((i + 1 + j7 : Nat) : Int) t7, .int i8 t8] 0)) hA2' (by
          simp only [List.cons_append, List.nil_append, List.forall_mem_cons]
          exact ⟨l12.2.1, l12.2.2.1, l12.2.2.2.1, l12.2.2.2.2.1, l12.2.2.2.2.2.1, ktn_ltOf l12.2.2.2.2.2.2⟩)) rfl
end

section
def lawMap (sc D P T V U : Addr) (tu mo ov ic bt : Option Value) : Mp := fun y =>
  if y = Str.ofString "beat" then bt else if y = Str.ofString "is_cut" then ic else if y = Str.ofString "over" then ov else if y = Str.ofString "most" then mo else if y = Str.ofString "turns" then tu
  else if y = Str.ofString "table" then some (.ref T) else if y = Str.ofString "due" then some (.ref V) else if y = Str.ofString "signs_told" then some (.ref U) else if y = Str.ofString "deck" then some (.ref D)
  else if y = Str.ofString "player" then some (.ref P) else if y = Str.ofString "script" then some (.ref sc) else none
section
variable {sc D P T V U : Addr} {tu mo ov ic bt : Option Value} {v : Value}
theorem law_beat : (fun y => if y = Str.ofString "beat" then some v else lawMap sc D P T V U tu mo ov ic bt y) = lawMap sc D P T V U tu mo ov ic (some v) := by
  funext y
  by_cases h5 : y = Str.ofString "beat"
  · subst h5; rfl
  · simp only [lawMap, if_neg h5]
theorem law_cut : (fun y => if y = Str.ofString "is_cut" then some v else lawMap sc D P T V U tu mo ov ic bt y) = lawMap sc D P T V U tu mo ov (some v) bt := by
  funext y
  by_cases h5 : y = Str.ofString "is_cut"
  · subst h5; rfl
  · simp only [lawMap, if_neg h5]
theorem law_over : (fun y => if y = Str.ofString "over" then some v else lawMap sc D P T V U tu mo ov ic bt y) = lawMap sc D P T V U tu mo (some v) ic bt := by
  funext y
  by_cases h5 : y = Str.ofString "over"
  · subst h5; rfl
  · simp only [lawMap, if_neg h5]
theorem law_most : (fun y => if y = Str.ofString "most" then some v else lawMap sc D P T V U tu mo ov ic bt y) = lawMap sc D P T V U tu (some v) ov ic bt := by
  funext y
  by_cases h5 : y = Str.ofString "most"
  · subst h5; rfl
  · simp only [lawMap, if_neg h5]
theorem law_turns : (fun y => if y = Str.ofString "turns" then some v else lawMap sc D P T V U tu mo ov ic bt y) = lawMap sc D P T V U (some v) mo ov ic bt := by
  funext y
  by_cases h5 : y = Str.ofString "turns"
  · subst h5; rfl
  · simp only [lawMap, if_neg h5]
theorem law_start : (fun y => if y = Str.ofString "table" then some (Value.ref T) else if y = Str.ofString "due" then some (Value.ref V) else if y = Str.ofString "signs_told" then some (Value.ref U) else if y = Str.ofString "deck" then some (Value.ref D)
    else if y = Str.ofString "player" then some (Value.ref P) else List.lookup y [(Str.ofString "script", Value.ref sc)]) = lawMap sc D P T V U none none none none none := by
  funext y
  by_cases h1 : y = Str.ofString "beat"; · (subst h1; rfl)
  by_cases h2 : y = Str.ofString "is_cut"; · (subst h2; rfl)
  by_cases h3 : y = Str.ofString "over"; · (subst h3; rfl)
  by_cases h4 : y = Str.ofString "most"; · (subst h4; rfl)
  by_cases h5 : y = Str.ofString "turns"; · (subst h5; rfl)
  by_cases h6 : y = Str.ofString "table"; · (subst h6; rfl)
  by_cases h7 : y = Str.ofString "due"; · (subst h7; rfl)
  by_cases h8 : y = Str.ofString "signs_told"; · (subst h8; rfl)
  by_cases h9 : y = Str.ofString "deck"; · (subst h9; rfl)
  by_cases h10 : y = Str.ofString "player"; · (subst h10; rfl)
  by_cases h11 : y = Str.ofString "script"; · (subst h11; rfl)
  simp only [lawMap, lookup_if, List.lookup_nil, if_neg h1, if_neg h2, if_neg h3, if_neg h4, if_neg h5, if_neg h6, if_neg h7, if_neg h8, if_neg h9, if_neg h10, if_neg h11]
end
end

section
theorem end_case {rows : Rows} {mo : Nat} {turns ov : Int} {told tl : List Sg} {fs : List Fx} (hE : DueEnd rows mo 0 turns [] ov told) (hr : Reach rows mo ⟨[⟨0, turns, 0, 0⟩], []⟩ ⟨fs.map Fx.fm, tl⟩) (hend : fs = [] ∨ mo ≤ tl.length) :
    tl = told ∧ ((fs = [] ∧ told.length < mo) ∨ ∃ fs0 fb, fs = fs0 ++ [fb] ∧ fb.over = ov ∧ told.length = mo) := by
  have ht : mstep rows mo ⟨fs.map Fx.fm, tl⟩ = none := by
    rcases hend with rfl | h
    · exact mstep_nil
    · exact mstep_full h
  rcases Nat.lt_or_ge told.length mo with h | h
  · have e := hr.same ((hE.2 []).1 h) ht mstep_nil
    obtain ⟨e1, e2⟩ := MSt.mk.inj e
    exact ⟨e2, .inl ⟨List.map_eq_nil_iff.mp e1, h⟩⟩
  · have hm : told.length = mo := Nat.le_antisymm hE.1 h
    obtain ⟨S', f, hf, r⟩ := (hE.2 []).2 hm
    have e := hr.same r ht (mstep_full h)
    obtain ⟨e1, e2⟩ := MSt.mk.inj e
    refine ⟨e2, .inr ?_⟩
    obtain ⟨l1, l2, rfl, _, h2⟩ := List.map_eq_append_iff.mp e1
    cases l2 with
    | nil => simp at h2
    | cons fb l3 =>
      rw [List.map_cons] at h2
      obtain ⟨h3, h4⟩ := List.cons.inj h2
      have h5 : l3 = [] := List.map_eq_nil_iff.mp h4
      subst h5
      refine ⟨l1, fb, rfl, ?_, hm⟩
      rw [← hf, ← h3]; rfl
theorem refs_bottom (fs : List Fx) (f : Fx) : refs (fs ++ [f]) = Value.ref f.p :: refs fs := by simp [refs]
theorem fx_mem (w : World) : ∀ (fs : List Fx) (f : Fx), f ∈ fs → (f.p, instObj 59 f.d) ∈ fxLed w fs ∧ (f.d, fmD w f.r f.turns f.place f.over f.t1 f.t2 f.t3 f.k1 f.k2 f.k3 f.k4 f.k5) ∈ fxLed w fs
  | g :: fs, f, h => by
    rcases List.mem_cons.mp h with rfl | h
    · exact ⟨.head _, .tail _ (.head _)⟩
    · obtain ⟨h1, h2⟩ := fx_mem w fs f h
      exact ⟨.tail _ (.tail _ h1), .tail _ (.tail _ h2)⟩
theorem deep_len {rows : Rows} {fs : List Fx} (h : Deep fs) (hok : ∀ f ∈ fs, FxOk rows f) : fs.length ≤ rows.length := by
  cases fs with
  | nil => exact Nat.zero_le _
  | cons f fs =>
    have h1 := h.1
    have h2 := (hok f (.head _)).1
    rw [List.length_cons]
    omega
theorem apart_sub {a b : Led} (h : Apart a) (s : b.Sublist a) : Apart b := by
  unfold Apart at h ⊢
  exact h.sublist (s.map _)
theorem apart_drop {a b c u v : Addr × Obj} {l r : Led} (h : Apart (a :: b :: c :: u :: (l ++ v :: r))) : Apart (a :: b :: c :: r) :=
  apart_sub h (.cons₂ _ (.cons₂ _ (.cons₂ _ (.cons _ (List.Sublist.trans (List.sublist_cons_self v r) (List.sublist_append_right l (v :: r)))))))
theorem apart_turn {u a b c : Addr × Obj} {l : Led} (h : Apart (u :: a :: b :: c :: l)) : Apart (a :: b :: c :: u :: l) := by
  refine apart_perm h fun x => ?_
  simp only [List.map_cons, List.count_cons]
  omega
end

section
theorem halt_call {M : Model} {A : Around} {f : Addr} {vs : List Value} {kw : List (Str × Value)} {Q E : Value → Shared → Prop} {s : Shared} (_hf : (f == 147 || f == 140 || f == 154 || f == 161 || f == 98 || f == 112) = true) (h : Halt (wpAny M A (call (.ref f) vs kw) Q E s)) : wpAny M A (call (.ref f) vs kw) Q E s := h
local macro_rules | `(tactic| walk_at "call ref") => `(tactic| refine halt_call (by decide) ?_)
local macro_rules | `(tactic| walk_at "exec Assign cons IfExp") => `(tactic| ((fail_if_success (with_reducible rename Pass 1 => hp9)); refine halt ?_))
local macro_rules | `(tactic| walk_at "exec While BoolOp cons nil") => `(tactic| refine halt ?_)
local macro_rules | `(tactic| walk_at "exec If") => `(tactic| ((fail_if_success (with_reducible rename Pass 2 => hp9)); refine halt ?_))
local macro_rules | `(tactic| walk_at "exec Assign") => `(tactic| ((fail_if_success (with_reducible rename Pass 3 => hp9)); refine halt ?_))
local macro_rules | `(tactic| walk_at "exec For Name Call cons nil") => `(tactic| refine halt ?_)
local macro_rules | `(tactic| walk_at "pyIter ref") => `(tactic| ((with_reducible rename Pass 4 => hp9); refine halt ?_))
theorem main_t : PySem.Challenge.rw_ok0044_01.Holds := by
  refine hd ?_
  k_go0
  (rename Shared => s1)
  (rename World => w0)
  have pass3 := pass 3
  all_goals try k_fold
  k_steps
  refine Halt.go ?_
  rename_i q44 hI8 hL8 C q40 tk0 o1 D q36 l35 P dP q32 q31 q30 l29 l28 q27 q26 q25 B24 X23 T22 G21 M20 I19 tk18 S q16 l15 q14 F13 N12 tk11 G10 X9 q8 q7 l6 q5 q4 q3 F2 N1
  obtain ⟨ns, hI, hlen⟩ : ∃ ns : List Int, IntsAre ys ns ∧ ns.length ≤ 63 := ⟨_, hI8, by rw [List.length_map, List.length_take]; exact Nat.min_le_left ..⟩
  obtain ⟨hS, kS, N2⟩ : ∃ hS kS, News _ _ _ [(S, listOf ([] : List Value).toArray 0), (P, instObj 129 dP), (dP, plD hS kS S), (D, listOf #[.ref C, .int 0 tk0] 0), (C, listOf ys.toArray ys.length)] := ⟨_, _, news_sub N1 (fun p hp => by
    simp only [List.mem_cons, List.not_mem_nil, or_false] at hp
    rcases hp with h | h | h | h | h
    all_goals (rw [h]; k_mem))⟩
  clear N1
  have hAr : Apart ((D, listOf #[.ref C, .int 0 tk0] 0) :: (C, listOf ys.toArray ys.length) :: [(S, listOf ([] : List Value).toArray 0), (P, instObj 129 dP), (dP, plD hS kS S)]) := by
    simp only [apart_cons, List.forall_mem_cons, List.not_mem_nil, false_implies, implies_true, apart_nil, and_true]
    refine ⟨⟨?_, ?_, ?_, ?_⟩, ⟨?_, ?_, ?_⟩, ⟨?_, ?_⟩, ?_⟩
    all_goals k_ne
  k_dflt (refine' Says.use (rows_ok hAr hI hlen (by omega) (by omega)) ?kB F2 ?kX ?kN ?kT ?kK ?kd ?ku ?_)
  case kB => k_asm
  case kX => k_asm
  case kT => k_asm
  case kK => exact rfl
  case kd => (show 302 + 6 < recursionLimit; decide)
  case ku => (show callerA.units + 3 + 100 < cLine; rw [units_caller, cLine_is]; omega)
  case kN =>
    intro p hp
    simp only [List.mem_cons, List.not_mem_nil, or_false] at hp
    rcases hp with h | h | h | h | h
    all_goals exact N2 p (by simp [h])
  rintro r news' h' tk' F9 N9 ⟨Td, rows, nF, nD, kD, tD, rst, rfl, rfl, ⟨more, rfl⟩, hro, hr1, hr4, hk0, hk1, hA9⟩
  clear N2 F2
  k_steps
  refine Halt.go ?_
  rename_i tk16 V q14 l13 U q11 l10 q9 q88 l7 q66 q55 q44' q33 F4 N4
  replace F4 := fr_to F4 law_start
  have hAf : Apart ((D, listOf #[.ref C, .int kD tD] nD) :: (C, listOf ys.toArray ys.length) :: (V, listOf (([] : List Sg).map Sg.val).toArray 0) :: (U, listOf (([] : List Sg).map Sg.val).toArray 0) :: (P, instObj 129 dP) :: (dP, plD hS kS S) :: (S, listOf (refs []).toArray 0) :: (Td, listOf (rows.map rowRef).toArray nF) :: more) := by
    refine apart_front (S := (S, listOf (refs []).toArray 0)) (P := (P, instObj 129 dP)) (d := (dP, plD hS kS S)) hA9 ?_ ?_
    · simp only [List.forall_mem_cons]
      exact ⟨l13.1, l13.2.1, l13.2.2.1, ktn_ltOf l13.2.2.2⟩
    · simp only [List.forall_mem_cons]
      exact ⟨l10.1, l10.2.1, l10.2.2.1, l10.2.2.2.1, ktn_ltOf l10.2.2.2.2⟩
  have N5 : News s1.heap s1.heap.objs.size _ ((D, listOf #[.ref C, .int kD tD] nD) :: (C, listOf ys.toArray ys.length) :: (V, listOf (([] : List Sg).map Sg.val).toArray 0) :: (U, listOf (([] : List Sg).map Sg.val).toArray 0) :: (P, instObj 129 dP) :: (dP, plD hS kS S) :: (S, listOf (refs []).toArray 0) :: (Td, listOf (rows.map rowRef).toArray nF) :: more) := news_sub N4 (by
    intro p hp
    simp only [List.mem_cons, List.mem_append, List.not_mem_nil, or_false] at hp ⊢
    rcases hp with h | h | h | h | h | h | h | h | h
    · exact .inr (.inr (.inr (.inl h)))
    · exact .inr (.inr (.inr (.inr (.inl h))))
    · exact .inr (.inr (.inl h))
    · exact .inr (.inl h)
    · exact .inr (.inr (.inr (.inr (.inr (.inr (.inr (.inr (.inl h))))))))
    · exact .inr (.inr (.inr (.inr (.inr (.inr (.inr (.inr (.inr h))))))))
    · exact .inr (.inr (.inr (.inr (.inr (.inr (.inr (.inl h)))))))
    · exact .inr (.inr (.inr (.inr (.inr (.inl h)))))
    · exact .inr (.inr (.inr (.inr (.inr (.inr (.inl h)))))))
  clear N4
  k_dflt (refine' draw_use [] _ hAf hI hlen hk0 (by omega) (by omega) (by omega) ?kB F4 ?kX N5 ?kT ?kK ?kd ?ku ?_)
  case kB => k_asm
  case kX => k_asm
  case kT => k_asm
  case kK => exact rfl
  case kd => (show 302 + 1 < recursionLimit; decide)
  case ku => (show callerA.units + 3 + 8 < cLine; rw [units_caller, cLine_is]; omega)
  intro i5 t5 n5 tk5 h5 tkh5 hi50 hi51 F5 N6
  simp only [List.nil_append] at N6
  clear F4 N5
  k_steps
  refine Halt.go ?_
  (rename (Fr _ _ _ _) => F6)
  (rename (News _ _ _ _) => N7)
  obtain ⟨sc, tt, F7⟩ : ∃ sc tt, Fr s1.heap s1.heap.objs.size _ (lawMap sc D P Td V U (some (.int (i5 - 1) tt)) none none none none) := ⟨_, _, fr_to F6 law_turns⟩
  clear F6
  have hApl : Apart (plLed w0 U P dP S hS kS 0 0 [] [] ((V, listOf (([] : List Sg).map Sg.val).toArray 0) :: (Td, listOf (rows.map rowRef).toArray nF) :: more)) := by
    refine apart_perm (a := (V, listOf (([] : List Sg).map Sg.val).toArray 0) :: (U, listOf (([] : List Sg).map Sg.val).toArray 0) :: (P, instObj 129 dP) :: (dP, plD hS kS S) :: (S, listOf (refs []).toArray 0) :: (Td, listOf (rows.map rowRef).toArray nF) :: more) (apart_cons.mp (apart_cons.mp hAf).2).2 fun x => ?_
    simp only [plLed, fxLed, List.nil_append, List.map_cons, List.count_cons]
    omega
  refine mid_intro (fun h tk => ∃ (mo : Nat) (tm : Tok), 4 ≤ mo ∧ mo ≤ 60 ∧ Fr s1.heap s1.heap.objs.size h (lawMap sc D P Td V U (some (.int (i5 - 1) tt)) (some (.int mo tm)) none none none) ∧
    News s1.heap s1.heap.objs.size h ((V, listOf (([] : List Sg).map Sg.val).toArray 0) :: (U, listOf (([] : List Sg).map Sg.val).toArray 0) :: (P, instObj 129 dP) :: (dP, plD hS kS S) :: (S, listOf (refs []).toArray 0) :: (Td, listOf (rows.map rowRef).toArray nF) :: more)) ?mid ?loop
  case loop =>
    rintro Q' hmid -
    have pass1 := pass 1
    k_steps
    · (rename (Fr _ _ _ _) => Ff)
      (rename (News _ _ _ _) => Nf)
      exact hmid _ _ ⟨60, _, by decide, by decide, fr_to Ff law_most, news_sub Nf (fun p hp => .tail _ (.tail _ hp))⟩
    · (rename (Fr _ _ _ _) => Ff)
      (rename (News _ _ _ _) => Nf)
      have hAf2 : Apart ([] ++ (D, listOf #[.ref C, .int (kD + 1) tk5] n5) :: (C, listOf ys.toArray ys.length) :: (V, listOf (([] : List Sg).map Sg.val).toArray 0) :: (U, listOf (([] : List Sg).map Sg.val).toArray 0) :: (P, instObj 129 dP) :: (dP, plD hS kS S) :: (S, listOf (refs []).toArray 0) :: (Td, listOf (rows.map rowRef).toArray nF) :: more) := apart_same hAf rfl
      k_dflt (refine' draw_use [] _ hAf2 hI hlen (by omega) (by omega) (by omega) (by omega) ?kB Ff ?kX Nf ?kT ?kK ?kd ?ku ?_)
      case kB => k_asm
      case kX => k_asm
      case kT => k_asm
      case kK => exact rfl
      case kd => (show 302 + 1 < recursionLimit; decide)
      case ku => (show callerA.units + 3 + 8 < cLine; rw [units_caller, cLine_is]; omega)
      intro i6 t6 n6 tk6 h6 tkh6 hi60 hi61 F8 N8
      simp only [List.nil_append] at N8
      obtain ⟨j6, rfl⟩ := Int.eq_ofNat_of_zero_le hi60
      clear Ff Nf
      k_steps
      (rename (Fr _ _ _ _) => Ff)
      (rename (News _ _ _ _) => Nf)
      have e : (4 : Int) + (j6 : Int) = ((4 + j6 : Nat) : Int) := by omega
      rw [e] at Ff
      exact hmid _ _ ⟨4 + j6, _, by omega, by omega, fr_to Ff law_most, news_sub Nf (fun p hp => .tail _ (.tail _ hp))⟩
  case mid =>
    rintro h tk ⟨mo, tm, hm4, hm60, F8, N8⟩
    have hTab : TabIn ((Td, listOf (rows.map rowRef).toArray nF) :: more) Td rows := ⟨hr4, ⟨nF, .head _⟩, (rows_in hro).mono fun p hp => .tail _ hp⟩
    dsimp only
    k_steps
    have hAd : Apart ((V, listOf (([] : List Sg).map Sg.val).toArray 0) :: ((U, listOf (([] : List Sg).map Sg.val).toArray 0) :: (P, instObj 129 dP) :: (dP, plD hS kS S) :: (S, listOf (refs []).toArray 0) :: (Td, listOf (rows.map rowRef).toArray nF) :: more)) := (apart_cons.mp (apart_cons.mp hAf).2).2
    (rename (Fr _ _ _ _) => Ff)
    (rename (News _ _ _ _) => Nf)
    have hTd := hTab.mono (b := (U, listOf (([] : List Sg).map Sg.val).toArray 0) :: (P, instObj 129 dP) :: (dP, plD hS kS S) :: (S, listOf (refs []).toArray 0) :: (Td, listOf (rows.map rowRef).toArray nF) :: more) fun p hp => .tail _ (.tail _ (.tail _ (.tail _ hp)))
    k_dflt (refine' Says.use (due_top hm60 hr1 hAd hTd (by omega)) ?kB Ff ?kX Nf ?kT ?kK ?kd ?ku ?_)
    case kB => k_asm
    case kX => k_asm
    case kT => k_asm
    case kK => exact rfl
    case kd => (show 302 + 40 < recursionLimit; decide)
    case ku => (show callerA.units + 3 + 240 < cLine; rw [units_caller, cLine_is]; omega)
    rintro r news' h' tk' F9 N9 ⟨ov, to, told, nV, rfl, rfl, hE⟩
    clear Ff Nf
    obtain ⟨r0, ev0, n0, nT0, hti0, hTm0, hrm0, hev0, hez0, hsg0⟩ := hTab.row (j := 0) hr1
    have hrz : (rows.map rowRef).length ≤ 1000 := by rw [List.length_map]; omega
    have hr0m : (r0, tupOf (ev0.map Sg.val) n0) ∈ more := by
      rcases List.mem_cons.mp hrm0 with h | h
      · exfalso
        have h9 := congrArg (fun p : Addr × Obj => p.2.cls) h
        simp at h9
      · exact h
    k_steps
    refine Halt.go ?_
    (rename (Fr _ _ _ _) => Ff)
    replace Ff := fr_to Ff law_over
    refine mid_intro (fun h tk => ∃ (f0 : Fx) (nS : Nat), f0.fm = ⟨0, i5 - 1, 0, 0⟩ ∧ FxOk rows f0 ∧ Fr s1.heap s1.heap.objs.size h (lawMap sc D P Td V U (some (.int (i5 - 1) tt)) (some (.int mo tm)) (some (.int ov to)) none none) ∧
      News s1.heap s1.heap.objs.size h (plLed w0 U P dP S hS kS 0 nS [f0] [] ((V, listOf (told.map Sg.val).toArray nV) :: (Td, listOf (rows.map rowRef).toArray nF) :: more)) ∧
      Apart (plLed w0 U P dP S hS kS 0 nS [f0] [] ((V, listOf (told.map Sg.val).toArray nV) :: (Td, listOf (rows.map rowRef).toArray nF) :: more))) ?mid2 ?loop2
    case loop2 =>
      rintro Q' hmid -
      have pass2 := pass 2
      have hAb : Apart ((P, instObj 129 dP) :: (dP, plD hS kS S) :: (S, listOf (refs []).toArray 0) :: (V, listOf (told.map Sg.val).toArray nV) :: (U, listOf (([] : List Sg).map Sg.val).toArray 0) :: (Td, listOf (rows.map rowRef).toArray nF) :: more) := by
        refine apart_perm hAd fun x => ?_
        simp only [List.map_cons, List.count_cons]
        omega
      have hr0b : (r0, tupOf (ev0.map Sg.val) n0) ∈ (V, listOf (told.map Sg.val).toArray nV) :: (U, listOf (([] : List Sg).map Sg.val).toArray 0) :: (Td, listOf (rows.map rowRef).toArray nF) :: more := .tail _ (.tail _ (.tail _ hr0m))
      k_steps
      · (rename (Fr _ _ _ _) => Fb)
        (rename (News _ _ _ _) => Nb)
        k_dflt (refine' Says.use (begin_ok (r := r0) hAb hr0b (by show 0 < 10; decide)) ?kB Fb ?kX ?kN ?kT ?kK ?kd ?ku ?_)
        case kB => k_asm
        case kX => k_asm
        case kT => k_asm
        case kK => exact rfl
        case kN =>
          intro p hp
          simp only [List.mem_cons] at hp
          rcases hp with h | h | h | h | h | h | h
          all_goals exact Nb p (by simp [h])
        case kd => (show 302 + 4 < recursionLimit; decide)
        case ku => (show callerA.units + 3 + 40 < cLine; rw [units_caller, cLine_is]; omega)
        rintro v n h' tk' F11 N11 ⟨rfl, p, d, t2, t3, k1, k2, k3, k4, k5, nS, rfl, hA11⟩
        clear Fb Nb
        k_steps
        (rename (Fr _ _ _ _) => Fb)
        (rename (News _ _ _ _) => Nb)
        obtain ⟨tz, Nc⟩ : ∃ tz, News s1.heap s1.heap.objs.size _ ((p, instObj 59 d) :: (d, fmD w0 r0 (-1) 0 0 tz t2 t3 k1 k2 k3 k4 k5) :: (P, instObj 129 dP) :: (dP, plD hS kS S) :: (S, listOf (refs [] ++ [Value.ref p]).toArray nS) :: (V, listOf (told.map Sg.val).toArray nV) :: (U, listOf (([] : List Sg).map Sg.val).toArray 0) :: (Td, listOf (rows.map rowRef).toArray nF) :: more) := ⟨_, Nb⟩
        refine hmid _ _ ⟨⟨p, d, r0, 0, (-1), 0, 0, tz, t2, t3, k1, k2, k3, k4, k5⟩, nS, (by rw [show i5 - 1 = -1 from by omega]; rfl), ⟨hr1, hti0, Nat.zero_le _, by show -1 ≤ (-1); omega⟩, Fb, ?_, ?_⟩
        · intro q hq
          simp only [plLed, fxLed, refs_cons, List.cons_append, List.nil_append, List.mem_cons] at hq
          rcases hq with h | h | h | h | h | h | h | h | h
          all_goals exact Nc q (by simp [h])
        · refine apart_perm hA11 fun x => ?_
          simp only [plLed, fxLed, List.cons_append, List.nil_append, List.map_cons, List.count_cons]
          omega
      · (rename (Fr _ _ _ _) => Fb)
        (rename (News _ _ _ _) => Nb)
        k_dflt (refine' Says.use (begin_ok (r := r0) hAb hr0b (by show 0 < 10; decide)) ?kB Fb ?kX ?kN ?kT ?kK ?kd ?ku ?_)
        case kB => k_asm
        case kX => k_asm
        case kT => k_asm
        case kK => exact rfl
        case kN =>
          intro p hp
          simp only [List.mem_cons] at hp
          rcases hp with h | h | h | h | h | h | h
          all_goals exact Nb p (by simp [h])
        case kd => (show 302 + 4 < recursionLimit; decide)
        case ku => (show callerA.units + 3 + 40 < cLine; rw [units_caller, cLine_is]; omega)
        rintro v n h' tk' F11 N11 ⟨rfl, p, d, t2, t3, k1, k2, k3, k4, k5, nS, rfl, hA11⟩
        clear Fb Nb
        k_steps
        (rename (Fr _ _ _ _) => Fb)
        (rename (News _ _ _ _) => Nb)
        obtain ⟨tz, Nc⟩ : ∃ tz, News s1.heap s1.heap.objs.size _ ((p, instObj 59 d) :: (d, fmD w0 r0 (i5 - 1) 0 0 tz t2 t3 k1 k2 k3 k4 k5) :: (P, instObj 129 dP) :: (dP, plD hS kS S) :: (S, listOf (refs [] ++ [Value.ref p]).toArray nS) :: (V, listOf (told.map Sg.val).toArray nV) :: (U, listOf (([] : List Sg).map Sg.val).toArray 0) :: (Td, listOf (rows.map rowRef).toArray nF) :: more) := ⟨_, Nb⟩
        refine hmid _ _ ⟨⟨p, d, r0, 0, (i5 - 1), 0, 0, tz, t2, t3, k1, k2, k3, k4, k5⟩, nS, rfl, ⟨hr1, hti0, Nat.zero_le _, by show -1 ≤ (i5 - 1); omega⟩, Fb, ?_, ?_⟩
        · intro q hq
          simp only [plLed, fxLed, refs_cons, List.cons_append, List.nil_append, List.mem_cons] at hq
          rcases hq with h | h | h | h | h | h | h | h | h
          all_goals exact Nc q (by simp [h])
        · refine apart_perm hA11 fun x => ?_
          simp only [plLed, fxLed, List.cons_append, List.nil_append, List.map_cons, List.count_cons]
          omega
    case mid2 =>
      rintro h tk ⟨f0, nS, hf0, hfo, F10, N10, hA10⟩
      (try clear Ff)
      (try clear F9)
      (try clear N9)
      dsimp only
      k_steps
      refine Halt.go ?_
      refine mid_intro (fun h tk => ∃ (fs : List Fx) (tl : List Sg) (nU nS : Nat), (fs = [] ∨ mo ≤ tl.length) ∧ Fr s1.heap s1.heap.objs.size h (lawMap sc D P Td V U (some (.int (i5 - 1) tt)) (some (.int mo tm)) (some (.int ov to)) none none) ∧
        News s1.heap s1.heap.objs.size h (plLed w0 U P dP S hS kS nU nS fs tl ((V, listOf (told.map Sg.val).toArray nV) :: (Td, listOf (rows.map rowRef).toArray nF) :: more)) ∧
        Apart (plLed w0 U P dP S hS kS nU nS fs tl ((V, listOf (told.map Sg.val).toArray nV) :: (Td, listOf (rows.map rowRef).toArray nF) :: more)) ∧ (∀ f ∈ fs, FxOk rows f) ∧ Deep fs ∧ Reach rows mo ⟨[⟨0, i5 - 1, 0, 0⟩], []⟩ ⟨fs.map Fx.fm, tl⟩) ?mid3 ?loop3
      case loop3 =>
        rintro Q' hmid -
        have pass2 := pass 2
        refine While_inv2 (fun n m news => ∃ (fs : List Fx) (tl : List Sg) (nU nS : Nat), n = meas rows mo fs tl ∧ m = lawMap sc D P Td V U (some (.int (i5 - 1) tt)) (some (.int mo tm)) (some (.int ov to)) none none ∧
          news = plLed w0 U P dP S hS kS nU nS fs tl ((V, listOf (told.map Sg.val).toArray nV) :: (Td, listOf (rows.map rowRef).toArray nF) :: more) ∧ Apart news ∧ (∀ f ∈ fs, FxOk rows f) ∧ Deep fs ∧ Reach rows mo ⟨[⟨0, i5 - 1, 0, 0⟩], []⟩ ⟨fs.map Fx.fm, tl⟩) F10 N10
          ⟨[f0], [], 0, nS, rfl, rfl, rfl, hA10, List.forall_mem_cons.mpr ⟨hfo, fun _ h => nomatch h⟩, ⟨Nat.zero_le _, trivial⟩, by rw [List.map_cons, hf0]; exact .refl⟩ ?_
        rintro n m₁ news₁ h₁ tk₁ F₁ N₁ ⟨fs, tl, nU, nS, rfl, rfl, rfl, hA, hok, hdeep, hreach⟩
        clear F10 N10
        have htl : tl.length ≤ mo := hreach.le (Nat.zero_le _)
        have hlm : (tl.map Sg.val).length = tl.length := List.length_map ..
        have hlr : (refs fs).length = fs.length := refs_length fs
        have hTr : TabIn ((V, listOf (told.map Sg.val).toArray nV) :: (Td, listOf (rows.map rowRef).toArray nF) :: more) Td rows := hTab.mono fun p hp => .tail _ hp
        cases fs with
        | nil =>
          have N2 : News s1.heap s1.heap.objs.size _ ((U, listOf (tl.map Sg.val).toArray nU) :: (P, instObj 129 dP) :: (dP, plD hS kS S) :: (S, listOf (refs []).toArray nS) :: ((V, listOf (told.map Sg.val).toArray nV) :: (Td, listOf (rows.map rowRef).toArray nF) :: more)) := N₁
          clear N₁
          k_steps
          (rename (Fr _ _ _ _) => Fb)
          (rename (News _ _ _ _) => Nb)
          exact hmid _ _ ⟨[], tl, nU, nS, .inl rfl, Fb, fun p hp => Nb p (.tail _ hp), hA, hok, hdeep, hreach⟩
        | cons f fs =>
          have N2 : News s1.heap s1.heap.objs.size _ ((U, listOf (tl.map Sg.val).toArray nU) :: (P, instObj 129 dP) :: (dP, plD hS kS S) :: (S, listOf (refs (f :: fs)).toArray nS) :: (fxLed w0 (f :: fs) ++ ((V, listOf (told.map Sg.val).toArray nV) :: (Td, listOf (rows.map rowRef).toArray nF) :: more))) := N₁
          clear N₁
          rw [List.length_cons] at hlr
          k_steps
          · (rename (Fr _ _ _ _) => Fb)
            (rename (News _ _ _ _) => Nb)
            k_dflt (refine' Says.use (step_ok (nU := nU) (nS := nS) hA hTr (hok f (.head _)) (fun g hg => hok g (.tail _ hg)) hdeep (by omega) hm60) ?kB Fb ?kX (fun p hp => Nb p (.tail _ hp)) ?kT ?kK ?kd ?ku ?_)
            case kB => k_asm
            case kX => k_asm
            case kT => k_asm
            case kK => exact rfl
            case kd => (show 302 + 6 < recursionLimit; decide)
            case ku => (show callerA.units + 3 + 60 < cLine; rw [units_caller, cLine_is]; omega)
            rintro v n h' tk' F12 N12 ⟨rfl, fs', tl', nU', nS', rfl, hA', hst, hok', hdeep', hme⟩
            clear Fb Nb N2 F₁
            k_steps
            exact ⟨_, _, _, _, _, rfl, F12, N12, hme, fs', tl', nU', nS', rfl, rfl, rfl, hA', hok', hdeep', hreach.tail hst⟩
          · (rename (Fr _ _ _ _) => Fb)
            (rename (News _ _ _ _) => Nb)
            exact hmid _ _ ⟨f :: fs, tl, nU, nS, .inr (by omega), Fb, fun p hp => Nb p (.tail _ hp), hA, hok, hdeep, hreach⟩
      case mid3 =>
        rintro h tk ⟨fs, tl, nU, nS, hend, F11, N11, hA11, hok, hdeep, hreach⟩
        obtain ⟨rfl, hcase⟩ := end_case hE hreach hend
        have hdl := deep_len hdeep hok
        clear F10 N10 hE hreach hend hA10 hf0 hfo hdeep hok pass3
        have hlm : (tl.map Sg.val).length = tl.length := List.length_map ..
        have hx0 := fun fs0 fb => (show (Value.ref (Fx.p fb) :: refs fs0)[0]? = some (Value.ref (Fx.p fb)) from rfl)
        dsimp only
        k_steps
        refine Halt.go ?_
        refine mid_intro (fun h tk => ∃ (cut : Bool), (cut = false → fs = [] ∧ tl.length < mo) ∧ (cut = true → ∃ fs0 fb, fs = fs0 ++ [fb] ∧ fb.over = ov ∧ tl.length = mo) ∧ Fr s1.heap s1.heap.objs.size h (lawMap sc D P Td V U (some (.int (i5 - 1) tt)) (some (.int mo tm)) (some (.int ov to)) (some (.bool cut)) none) ∧
          News s1.heap s1.heap.objs.size h (plLed w0 U P dP S hS kS nU nS fs tl ((V, listOf (tl.map Sg.val).toArray nV) :: (Td, listOf (rows.map rowRef).toArray nF) :: more))) ?mid4 ?loop4
        case loop4 =>
          rintro Q' hmid -
          have pass3 := pass 3
          rcases hcase with ⟨rfl, hlt⟩ | ⟨fs0, fb, rfl, hov, heq⟩
          · have N2 : News s1.heap s1.heap.objs.size _ ((U, listOf (tl.map Sg.val).toArray nU) :: (P, instObj 129 dP) :: (dP, plD hS kS S) :: (S, listOf ([] : List Value).toArray nS) :: ((V, listOf (tl.map Sg.val).toArray nV) :: (Td, listOf (rows.map rowRef).toArray nF) :: more)) := N11
            k_steps
            (rename (Fr _ _ _ _) => Fb)
            (rename (News _ _ _ _) => Nb)
            have Fc := fr_to (fr_to Fb law_cut) (congrArg (fun b : Bool => lawMap sc D P Td V U (some (.int (i5 - 1) tt)) (some (.int mo tm)) (some (.int ov to)) (some (.bool b)) none) (show decide (([] : List Value).length ≠ 0) = false from rfl))
            clear Fb
            exact hmid _ _ ⟨false, fun _ => ⟨rfl, hlt⟩, fun h => Bool.noConfusion h, Fc, fun p hp => Nb p (.tail _ hp)⟩
          · have N2 : News s1.heap s1.heap.objs.size _ ((U, listOf (tl.map Sg.val).toArray nU) :: (P, instObj 129 dP) :: (dP, plD hS kS S) :: (S, listOf (refs (fs0 ++ [fb])).toArray nS) :: (fxLed w0 (fs0 ++ [fb]) ++ ((V, listOf (tl.map Sg.val).toArray nV) :: (Td, listOf (rows.map rowRef).toArray nF) :: more))) := N11
            have N3 := N2
            rw [refs_bottom] at N3
            k_steps
            (rename (Fr _ _ _ _) => Fb)
            (rename (News _ _ _ _) => Nb)
            have Fc := fr_to (fr_to Fb law_cut) (congrArg (fun b : Bool => lawMap sc D P Td V U (some (.int (i5 - 1) tt)) (some (.int mo tm)) (some (.int ov to)) (some (.bool b)) none) (show decide ((Value.ref fb.p :: refs fs0).length ≠ 0) = true from decide_eq_true (by rw [List.length_cons]; omega)))
            clear Fb
            refine hmid _ _ ⟨true, fun h => Bool.noConfusion h, fun _ => ⟨fs0, fb, rfl, hov, heq⟩, Fc, fun p hp => ?_⟩
            rw [plLed, refs_bottom] at hp
            exact Nb p (.tail _ hp)
        case mid4 =>
          rintro h tk ⟨cut, hc0, hc1, F12, N12⟩
          clear hcase F11 N11
          have pass3 := pass 3
          dsimp only
          k_steps
          refine Halt.go ?_
          refine mid_intro (fun h tk => Fr s1.heap s1.heap.objs.size h (lawMap sc D P Td V U (some (.int (i5 - 1) tt)) (some (.int mo tm)) (some (.int ov to)) (some (.bool cut)) none) ∧
            News s1.heap s1.heap.objs.size h (plLed w0 U P dP S hS kS nU nS fs tl ((V, listOf (tl.map Sg.val).toArray nV) :: (Td, listOf (rows.map rowRef).toArray nF) :: more))) ?mid5 ?loop5
          case loop5 =>
            rintro Q' hmid -
            have pass2 := pass 2
            cases cut with
            | false =>
              obtain ⟨rfl, hlt⟩ := hc0 rfl
              clear hc0 hc1
              have N2 : News s1.heap s1.heap.objs.size _ ((U, listOf (tl.map Sg.val).toArray nU) :: (P, instObj 129 dP) :: (dP, plD hS kS S) :: (S, listOf ([] : List Value).toArray nS) :: ((V, listOf (tl.map Sg.val).toArray nV) :: (Td, listOf (rows.map rowRef).toArray nF) :: more)) := N12
              have hb : (false != (((tl.map Sg.val).length : Int) == (mo : Int))) = false := by
                have e : (((tl.map Sg.val).length : Int) == (mo : Int)) = false := by rw [beq_eq_false_iff_ne]; omega
                rw [e]; rfl
              k_steps
              (rename (Fr _ _ _ _) => Fb)
              (rename (News _ _ _ _) => Nb)
              exact hmid _ _ ⟨Fb, Nb⟩
            | true =>
              obtain ⟨fs0, fb, rfl, hov, heq⟩ := hc1 rfl
              clear hc0 hc1
              have N2 : News s1.heap s1.heap.objs.size _ ((U, listOf (tl.map Sg.val).toArray nU) :: (P, instObj 129 dP) :: (dP, plD hS kS S) :: (S, listOf (refs (fs0 ++ [fb])).toArray nS) :: (fxLed w0 (fs0 ++ [fb]) ++ ((V, listOf (tl.map Sg.val).toArray nV) :: (Td, listOf (rows.map rowRef).toArray nF) :: more))) := N12
              have hb : (true != (((tl.map Sg.val).length : Int) == (mo : Int))) = false := by
                have e : (((tl.map Sg.val).length : Int) == (mo : Int)) = true := by rw [beq_iff_eq]; omega
                rw [e]; rfl
              have hVm := mem_app_right (a := fxLed w0 (fs0 ++ [fb])) (b := (V, listOf (tl.map Sg.val).toArray nV) :: (Td, listOf (rows.map rowRef).toArray nF) :: more) (.head _)
              have hTm := mem_app_right (a := fxLed w0 (fs0 ++ [fb])) (b := (V, listOf (tl.map Sg.val).toArray nV) :: (Td, listOf (rows.map rowRef).toArray nF) :: more) (.tail _ (.head _))
              k_steps
              (rename (Fr _ _ _ _) => Fb)
              (rename (News _ _ _ _) => Nb)
              exact hmid _ _ ⟨Fb, Nb⟩
          case mid5 =>
            rintro h tk ⟨F13, N13⟩
            clear F12 N12
            dsimp only
            k_steps
            refine Halt.go ?_
            refine mid_intro (fun h tk => ∃ (S2 : Addr) (n2 : Nat), Fr s1.heap s1.heap.objs.size h (lawMap sc D P Td V U (some (.int (i5 - 1) tt)) (some (.int mo tm)) (some (.int ov to)) (some (.bool cut)) none) ∧
              News s1.heap s1.heap.objs.size h ((P, instObj 129 dP) :: (dP, plD hS kS S2) :: (S2, listOf ([] : List Value).toArray n2) :: (Td, listOf (rows.map rowRef).toArray nF) :: more) ∧
              Apart ((P, instObj 129 dP) :: (dP, plD hS kS S2) :: (S2, listOf ([] : List Value).toArray n2) :: (Td, listOf (rows.map rowRef).toArray nF) :: more)) ?mid6 ?loop6
            case loop6 =>
              rintro Q' hmid -
              have pass2 := pass 2
              have pass1 := pass 1
              have hA12 := apart_turn hA11
              cases cut with
              | false =>
                obtain ⟨rfl, hlt⟩ := hc0 rfl
                clear hc0 hc1
                have N2 : News s1.heap s1.heap.objs.size _ ((U, listOf (tl.map Sg.val).toArray nU) :: (P, instObj 129 dP) :: (dP, plD hS kS S) :: (S, listOf ([] : List Value).toArray nS) :: (fxLed w0 [] ++ ((V, listOf (tl.map Sg.val).toArray nV) :: (Td, listOf (rows.map rowRef).toArray nF) :: more))) := N13
                clear N13
                k_steps
                (rename (Fr _ _ _ _) => Fb)
                (rename (News _ _ _ _) => Nb)
                k_dflt (refine' Says.use (stop_0 (nS := nS) hA12) ?kB Fb ?kX ?kN ?kT ?kK ?kd ?ku ?_)
                case kB => k_asm
                case kX => k_asm
                case kT => k_asm
                case kK => exact rfl
                case kN =>
                  intro p hp
                  simp only [List.mem_cons] at hp
                  rcases hp with h | h | h | h | h
                  all_goals exact Nb p (by simp only [List.mem_cons, h, true_or, or_true])
                case kd => (show 302 + 4 < recursionLimit; decide)
                case ku => (show callerA.units + 3 + 40 < cLine; rw [units_caller, cLine_is]; omega)
                rintro v n h' tk' F15 N15 ⟨tz, S2, n2, rfl, rfl, hA15⟩
                clear Fb Nb
                k_steps
                (rename (Fr _ _ _ _) => Fb)
                (rename (News _ _ _ _) => Nb)
                refine hmid _ _ ⟨S2, n2, Fb, ?_, apart_drop hA15⟩
                intro p hp
                simp only [List.mem_cons] at hp
                rcases hp with h | h | h | h | h
                · exact Nb p (by simp only [List.mem_cons, h, true_or, or_true])
                · exact Nb p (by simp only [List.mem_cons, h, true_or, or_true])
                · exact Nb p (by simp only [List.mem_cons, h, true_or, or_true])
                · exact Nb p (by simp only [List.mem_cons, List.mem_append, h, true_or, or_true])
                · exact Nb p (by simp only [List.mem_cons, List.mem_append, h, true_or, or_true])
              | true =>
                obtain ⟨fs0, fb, rfl, hov, heq⟩ := hc1 rfl
                clear hc0 hc1
                have N2 : News s1.heap s1.heap.objs.size _ ((U, listOf (tl.map Sg.val).toArray nU) :: (P, instObj 129 dP) :: (dP, plD hS kS S) :: (S, listOf (refs (fs0 ++ [fb])).toArray nS) :: (fxLed w0 (fs0 ++ [fb]) ++ ((V, listOf (tl.map Sg.val).toArray nV) :: (Td, listOf (rows.map rowRef).toArray nF) :: more))) := N13
                rw [refs_bottom] at N2 hA12
                clear N13
                have hz9 : (Value.ref fb.p :: refs fs0).length ≤ 100 := by
                  rw [List.length_cons, refs_length]
                  rw [List.length_append] at hdl
                  omega
                obtain ⟨hb1, hb2⟩ := fx_mem w0 (fs0 ++ [fb]) fb (List.mem_append.mpr (.inr (.head _)))
                replace hb1 := List.mem_append_left ((V, listOf (tl.map Sg.val).toArray nV) :: (Td, listOf (rows.map rowRef).toArray nF) :: more) hb1
                replace hb2 := List.mem_append_left ((V, listOf (tl.map Sg.val).toArray nV) :: (Td, listOf (rows.map rowRef).toArray nF) :: more) hb2
                k_steps
                (rename (Fr _ _ _ _) => Fb)
                (rename (News _ _ _ _) => Nb)
                k_dflt (refine' Says.use (stop_1 (nS := nS) hA12 (.tail _ hb1) (.tail _ hb2) hz9) ?kB Fb ?kX ?kN ?kT ?kK ?kd ?ku ?_)
                case kB => k_asm
                case kX => k_asm
                case kT => k_asm
                case kK => exact rfl
                case kN =>
                  intro p hp
                  simp only [List.mem_cons] at hp
                  rcases hp with h | h | h | h | h
                  all_goals exact Nb p (by simp only [List.mem_cons, h, true_or, or_true])
                case kd => (show 302 + 4 < recursionLimit; decide)
                case ku => (show callerA.units + 3 + 40 < cLine; rw [units_caller, cLine_is]; omega)
                rintro v n h' tk' F15 N15 ⟨tz, S2, n2, rfl, rfl, hA15⟩
                clear Fb Nb
                k_steps
                (rename (Fr _ _ _ _) => Fb)
                (rename (News _ _ _ _) => Nb)
                refine hmid _ _ ⟨S2, n2, Fb, ?_, apart_drop hA15⟩
                intro p hp
                simp only [List.mem_cons] at hp
                rcases hp with h | h | h | h | h
                · exact Nb p (by simp only [List.mem_cons, h, true_or, or_true])
                · exact Nb p (by simp only [List.mem_cons, h, true_or, or_true])
                · exact Nb p (by simp only [List.mem_cons, h, true_or, or_true])
                · exact Nb p (by simp only [List.mem_cons, List.mem_append, h, true_or, or_true])
                · exact Nb p (by simp only [List.mem_cons, List.mem_append, h, true_or, or_true])
            case mid6 =>
              rintro h tk ⟨S2, n2, F14, N14, hA14⟩
              clear F13 N13 hA11 hc0 hc1 hdl
              dsimp only
              k_steps
              refine Halt.go ?_
              refine mid_intro (fun h tk => ∃ (xs : List Value) (n3 : Nat) (bt : Option Value), xs.length = 10 ∧ Fr s1.heap s1.heap.objs.size h (lawMap sc D P Td V U (some (.int (i5 - 1) tt)) (some (.int mo tm)) (some (.int ov to)) (some (.bool cut)) bt) ∧
                News s1.heap s1.heap.objs.size h ((P, instObj 129 dP) :: (dP, plD hS kS S2) :: (S2, listOf xs.toArray n3) :: (Td, listOf (rows.map rowRef).toArray nF) :: more) ∧
                Apart ((P, instObj 129 dP) :: (dP, plD hS kS S2) :: (S2, listOf xs.toArray n3) :: (Td, listOf (rows.map rowRef).toArray nF) :: more)) ?mid7 ?loop7
              case loop7 =>
                rintro Q' hmid -
                have pass2 := pass 2
                have pass4 := pass 4
                refine For_invVF F14 rfl rfl ?_
                k_steps
                refine Halt.go ?_
                (rename (IsRange _ _ _ _ _ _ _ _) => hR)
                (rename (Fr _ _ _ _) => Ff)
                (rename (News _ _ _ _) => Nf)
                refine range_inv 10 (fun I i m news => ∃ (xs : List Value) (n3 : Nat) (bt : Option Value), m = lawMap sc D P Td V U (some (.int (i5 - 1) tt)) (some (.int mo tm)) (some (.int ov to)) (some (.bool cut)) bt ∧ news = (P, instObj 129 dP) :: (dP, plD hS kS S2) :: (S2, listOf xs.toArray n3) :: (Td, listOf (rows.map rowRef).toArray nF) :: more ∧ xs.length = i ∧ Apart news ∧ ∀ p ∈ news, p.1 ≠ I)
                  rfl hR (small_one (by omega) (by omega) (by omega) (by omega)) (by rw [rangeSize_nat]; rfl) Ff Nf ?lstart ?lturn ?ldone
                case lstart =>
                  intro I hI
                  exact ⟨[], n2, none, rfl, rfl, rfl, hA14, fun p hp => Nat.ne_of_lt (hI p hp)⟩
                case ldone =>
                  rintro I h tk m news ⟨xs, n3, bt, rfl, rfl, hxl, hA15, hI15⟩ F15 N15
                  exact hmid _ _ ⟨xs, n3, bt, hxl, F15, N15, hA15⟩
                case lturn =>
                  rintro I i t h tk m news hi ⟨xs, n3, bt, rfl, rfl, hxl, hA15, hI15⟩ F15 N15
                  replace F15 := fr_to F15 law_beat
                  clear hmid
                  (try clear Ff)
                  (try clear Nf)
                  have hA16 : Apart ((P, instObj 129 dP) :: (dP, plD hS kS S2) :: (S2, listOf xs.toArray n3) :: (I, itR (0 + ((i + 1 : Nat) : Int)) (((10 : Nat) : Int) - ((i + 1 : Nat) : Int))) :: (Td, listOf (rows.map rowRef).toArray nF) :: more) := apart_turn (apart_cons.mpr ⟨hI15, hA15⟩)
                  k_steps
                  (rename (Fr _ _ _ _) => Fb)
                  (rename (News _ _ _ _) => Nb)
                  k_dflt (refine' Says.use (begin_ok (r := r0) hA16 (.tail _ (.tail _ hr0m)) (by omega)) ?kB Fb ?kX ?kN ?kT ?kK ?kd ?ku ?_)
                  case kB => k_asm
                  case kX => k_asm
                  case kT => k_asm
                  case kK => exact rfl
                  case kN =>
                    intro p hp
                    simp only [List.mem_cons] at hp
                    rcases hp with h | h | h | h | h | h
                    all_goals exact Nb p (by simp only [List.mem_cons, h, true_or, or_true])
                  case kd => (show 302 + 4 < recursionLimit; decide)
                  case ku => (show callerA.units + 3 + 40 < cLine; rw [units_caller, cLine_is]; omega)
                  rintro v n h' tk' F16 N16 ⟨rfl, p, d, t2, t3, k1, k2, k3, k4, k5, n4, rfl, hA17⟩
                  clear Fb Nb
                  k_steps
                  (rename (Fr _ _ _ _) => Fb)
                  (rename (News _ _ _ _) => Nb)
                  refine ⟨_, _, _, (P, instObj 129 dP) :: (dP, plD hS kS S2) :: (S2, listOf (xs ++ [Value.ref p]).toArray n4) :: (Td, listOf (rows.map rowRef).toArray nF) :: more, rfl, Fb, ?_, ?_, xs ++ [Value.ref p], n4, _, rfl, rfl, ?_, ?_, ?_⟩
                  · intro q hq
                    simp only [List.mem_cons] at hq
                    rcases hq with h | h | h | h | h | h
                    all_goals exact Nb q (by simp only [List.mem_cons, h, true_or, or_true])
                  · simp only [List.forall_mem_cons] at hI15 ⊢
                    exact hI15
                  · rw [List.length_append, hxl]; rfl
                  · exact apart_same hA15 rfl
                  · simp only [List.forall_mem_cons] at hI15 ⊢
                    exact hI15
              case mid7 =>
                rintro h tk ⟨xs, n3, bt, hxl, F15, N15, hA15⟩
                (try clear F14)
                (try clear N14)
                clear hA14
                dsimp only
                k_steps
                (rename (Fr _ _ _ _) => Fb)
                (rename (News _ _ _ _) => Nb)
                k_dflt (refine' Says.use (begin_no (r := r0) (xs := xs) (by omega) (by omega)) ?kB Fb ?kX Nb ?kT ?kK ?kd ?ku ?_)
                case kB => k_asm
                case kX => k_asm
                case kT => k_asm
                case kK => exact rfl
                case kd => (show 302 + 4 < recursionLimit; decide)
                case ku => (show callerA.units + 3 + 40 < cLine; rw [units_caller, cLine_is]; omega)
                rintro v n h' tk' F16 N16 ⟨rfl, rfl⟩
                clear Fb Nb
                k_steps
                all_goals (k_end; wrow_close)
end

end Mine
theorem PySem.Challenge.cw_ok0044_01_holds : PySem.Challenge.rw_ok0044_01.Holds :=
  Mine.main_t
