import PyProof.Rows.All
import Wide.All
import OpenK.AllK
import Wide.FinOn
import PySem.Challenge.RW_pq1297_01
open PySem PySem.W PyProof.Rows
set_option Elab.async false
set_option maxRecDepth 100000
set_option rowWalk.seconds 0
set_option linter.all false
namespace Mine
set_option maxHeartbeats 8000000 in
open_top hd for PySem.Challenge.rw_pq1297_01
end Mine
section
local macro_rules | `(tactic| omega) => `(tactic| lia)
namespace Mine
open PySem.Calls

/-- a call that sees a part of the ledger alone: all else stands in the ground g -/
theorem call_sub {prog : Program} {w : World} {A₀ A : Around} {s : Shared} {base h₀ : Heap} {outer : List Env} {env : Env} {L : Addr} {m : Str → Option Value} {vis : List (Addr × Obj)} {K : Frag}
    {p : Program} {loose : List Str} {mean : ExcName → Option Value} {mg mb : Str → Option Value}
    {R : Result → Shared → Prop} {name qual : Str} {params : Arguments} {body : List Stmt} {scope : Scope} {dV kV doc pm cdv ct oc : Value} {an od : Option Addr} {osl : Array (Option Value)} {f : Addr} {args : Args} {binds : List (Str × Value)}
    (B : Below A₀ base outer h₀) (F : Fr h₀ L s.heap m) (X : K.In h₀) (N : News h₀ L s.heap vis) (T : Top p loose mean mg mb h₀)
    (hA : A.frames = some (env :: outer)) (hf : env.frame = some L) (hke : env.scope.kind = .function)
    (ho : K.lookup f = some ⟨oc, od, .func (fnOf name qual params body scope dV kV doc pm an cdv ct), osl⟩) (hcd : codeIn K cdv qual = true) (hroom : A.depth < recursionLimit)
    (hbind : BindsTo s (fnOf name qual params body scope dV kV doc pm an cdv ct) args binds) (hloc : ∀ y ∈ binds, scope.names.lookup y.1 = some .local)
    (h : ∀ g L' h₁, Fr h₀ L g m → Fr g L' h₁ (fun y => binds.reverse.lookup y) → News g L' h₁ vis → Below A base (env :: outer) g → K.In g → Top p loose mean mg mb g →
      (∀ b o, s.heap.get? b = some o → (∀ q ∈ vis, q.1 ≠ b) → g.get? b = some o) → (∀ q ∈ vis, q.1 < L') →
      wpAny (model prog w) (A.deeper (envOf qual scope L' f cdv)) (execs body (envOf qual scope L' f cdv))
        (fun fl s' => LeaveK h₀ L m g R (match fl with | .ret v => v | _ => .none) s')
        (fun e s' => wpAny (model prog w) (A.deeper (envOf qual scope L' f cdv)) (leaving (envOf qual scope L' f cdv) e) (fun _ s'' => R (.error e) s'') (fun e' s'' => R (.error e') s'') s')
        { s with heap := h₁, toks := s.toks + binds.length })
    (hco : scope.isCoroutine = false) (hgen : scope.isGenerator = false) (hk : scope.kind = .function)
    (hcell : ∀ x ∈ scope.names, x.2 ≠ .cell) : codeAny (model prog w) A (.call (.ref f) args) R s := by
  obtain ⟨FG, BG, st, lv⟩ := groundX (R := R) B F N hA hf hke
  have Xs := X.keeps F.keep
  refine codeAny_call_def (fd := fnOf name qual params body scope dV kV doc pm an cdv ct) (body := body) (binds := binds) hroom (Xs _ _ ho) rfl (T.nolimit.keeps F.keep) (codeRec_of Xs hcd) rfl hbind hcell hloc (fun h₁ hns hk₁ => ?_) hco hgen hk
  refine wpAny_mono (h _ s.heap.objs.size h₁ FG ⟨hns, fun b o e => hk₁ b o (of_hideAll _ e), Nat.le_of_eq (hideAll_size _ _)⟩
    (fun q hq => ⟨hk₁ _ _ (N q hq).1, Nat.ne_of_lt (Heap.lt_size (N q hq).1), hideAll_none _ (List.mem_map_of_mem hq)⟩) BG (X.keeps st) (T.keeps st) (fun b o e hn => ?_) (fun q hq => Heap.lt_size (N q hq).1)) (fun fl s' hl => lv _ _ hl) fun _ _ y => y
  refine hideAll_get _ e fun hm => ?_
  obtain ⟨q, hq, e'⟩ := List.mem_map.mp hm
  exact hn q hq e'

/-- what the caller keeps besides -/
theorem keep_rest {h₀ g h h' : Heap} {L L' : Addr} {m' : Str → Option Value} {vis rest : List (Addr × Obj)} (N : News h₀ L h rest) (off : ∀ q ∈ vis, ∀ p ∈ rest, q.1 ≠ p.1)
    (hg : ∀ b o, h.get? b = some o → (∀ q ∈ vis, q.1 ≠ b) → g.get? b = some o) (F' : Fr g L' h' m') : News h₀ L h' rest :=
  fun p hp => ⟨F'.keep _ _ (hg _ _ (N p hp).1 fun q hq => off q hq p hp), (N p hp).2⟩
theorem news_app {h₀ h : Heap} {L : Addr} {a b : List (Addr × Obj)} (N : News h₀ L h a) (M : News h₀ L h b) : News h₀ L h (a ++ b) :=
  fun p hp => (List.mem_append.mp hp).elim (N p) (M p)
theorem news_sub {h₀ h : Heap} {L : Addr} {a b : List (Addr × Obj)} (N : News h₀ L h a) (hs : ∀ p ∈ b, p ∈ a) : News h₀ L h b := fun p hp => N p (hs p hp)
end Mine
namespace Mine
open PySem.Calls
abbrev Led := List (Addr × Obj)
section
variable {prog : Program} {w : World} {A : Around} {E : Value → Shared → Prop} {s : Shared} {env : Env} {h₀ : Heap} {x : Str} {body : List Stmt} {Q : Flow → Shared → Prop}
/-- a for over a range, by a word over its whole state -/
theorem range_loop {r : Addr} {a₀ b₀ : Int} {t₀ u₀ v₀ : Tok} {n : Nat} {m₀ : Str → Option Value} {news : Led} (J : Nat → (Str → Option Value) → Led → Prop)
    (hh : A.handled = none) (hr : IsRange s.heap r a₀ b₀ 1 t₀ u₀ v₀) (hsmall : Builtin.Range.small a₀ b₀ 1 = true) (hsz : Builtin.Range.rangeSize a₀ b₀ 1 = (n : Int)) (F : Fr h₀ env.locals s.heap m₀) (N : News h₀ env.locals s.heap news) (hj : J 0 m₀ news)
    (turn : ∀ i t m₁ nx h tk own, i < n → OwnOff own (nx.map (·.1)) → J i m₁ nx → Fr h₀ env.locals h (fun y => if y = x then some (.int (a₀ + (i : Int)) t) else m₁ y) → News h₀ env.locals h (nx ++ own) →
      wpAny (model prog w) A (execs body env) (InvPostG h₀ env.locals (J (i + 1)) own { s with heap := h, toks := tk } Q) E { s with heap := h, toks := tk })
    (done : ∀ m₁ nx h tk, J n m₁ nx → Fr h₀ env.locals h m₁ → News h₀ env.locals h nx → Q .next { s with heap := h, toks := tk }) :
    wpAny (model prog w) A (pyIter (.ref r)) (fun it s₂ => LoopAtV prog w A h₀ env x body Q E it s₂) E s := by
  refine wpAny_pyIter_range hr hsmall ?_
  have W : Walks prog w A s.heap.objs.size [s.heap.objs.size] [s.heap.objs.size] n (fun i v => i < n ∧ ∃ t, v = .int (a₀ + i * 1) t)
      (fun i h => IsRangeIter h s.heap.objs.size (a₀ + (i : Nat) * 1) ((n : Int) - (i : Nat)) 1) := (Walks.range hh _ a₀ 1 n).bound
  have hI : ∀ b ∈ [s.heap.objs.size], b = s.heap.objs.size := fun b hb => List.mem_singleton.mp hb
  refine kdr_loop J W (fun _ h => h) (fun _ h => h) (fun i h hi b hb => ⟨_, hI b hb ▸ hi⟩) (fun hm => absurd F.ns.lt (hI _ hm ▸ Nat.lt_irrefl _)) (fun b hb => by rw [hI b hb]; exact next_is_new F)
    (fun p hp hm => absurd (Heap.lt_size (N p hp).1) (hI _ hm ▸ Nat.lt_irrefl _)) (by show IsRangeIter _ _ _ _ _; rw [hsz]; simpa using Heap.get?_push_size _ rfl) (F.push _) (fun p hp => ⟨Heap.get?_push_of_some _ (N p hp).1, (N p hp).2⟩) hj ?_ done
  rintro i v m₁ nx h tk own hi ⟨_, t, rfl⟩ hoff hJ F₁ N₁
  rw [show a₀ + (i : Int) * 1 = a₀ + (i : Int) by omega] at F₁
  exact turn i t m₁ nx h tk own hi hoff hJ F₁ N₁
end

/-- lists of ints, each at its address -/
inductive Lots (tl : Led) : List Value → List (List Int) → Prop
  | nil : Lots tl [] []
  | cons {a : Addr} {vs : List Value} {n : Nat} {ns : List Int} {refs : List Value} {lots : List (List Int)} : (a, listOf vs.toArray n) ∈ tl → IntsAre vs ns → Lots tl refs lots → Lots tl (.ref a :: refs) (ns :: lots)
theorem Lots.mono {tl tl' : Led} {refs : List Value} {lots : List (List Int)} (h : Lots tl refs lots) (hs : ∀ p ∈ tl, p ∈ tl') : Lots tl' refs lots := by
  induction h with
  | nil => exact .nil
  | cons hm hi _ ih => exact .cons (hs _ hm) hi ih
theorem Lots.snoc {tl tl' : Led} {a : Addr} {vs : List Value} {n : Nat} {ns : List Int} {refs : List Value} {lots : List (List Int)} (h : Lots tl refs lots) (hs : ∀ p ∈ tl, p ∈ tl') (hm : (a, listOf vs.toArray n) ∈ tl') (hi : IntsAre vs ns) :
    Lots tl' (refs ++ [.ref a]) (lots ++ [ns]) := by
  induction h with
  | nil => exact .cons hm hi .nil
  | cons hm' hi' _ ih => exact .cons (hs _ hm') hi' ih
theorem Lots.length {tl : Led} {refs : List Value} {lots : List (List Int)} (h : Lots tl refs lots) : refs.length = lots.length := by
  induction h with
  | nil => rfl
  | cons _ _ _ ih => simp [ih]

/-- what the tape holds -/
def TapeIs (prog : Program) (w : World) (oT : Obj) (aC : Addr) (vs : List Value) : Prop :=
  ∃ (cells : List Int) (seed : Int) (ts : Tok), oT.IsDictOf (strKind prog w) [(("cells" : Str), .ref aC), (("seed" : Str), .int seed ts)] ∧ IntsAre vs cells ∧ vs.length ≤ 64 ∧ 0 ≤ seed ∧ seed < 999853
end Mine
namespace Mine
/-- take an entry out of the ledger -/
inductive Pull (d : Addr) (o : Obj) : Led → Led → Prop
  | head {r : Led} : Pull d o ((d, o) :: r) r
  | tail {p : Addr × Obj} {r r' : Led} : Pull d o r r' → Pull d o (p :: r) (p :: r')
theorem Pull.sub {d : Addr} {o : Obj} {l r : Led} (h : Pull d o l r) : ∀ p ∈ (d, o) :: r, p ∈ l := by
  induction h with
  | head => exact fun p hp => hp
  | tail _ ih =>
    intro p hp
    rcases List.mem_cons.mp hp with rfl | hp
    · exact .tail _ (ih _ (.head _))
    · rcases List.mem_cons.mp hp with rfl | hp
      · exact .head _
      · exact .tail _ (ih _ (.tail _ hp))
theorem Pull.two {d e : Addr} {o u : Obj} {l r q : Led} (h : Pull d o l r) (k : Pull e u r q) : ∀ p ∈ (d, o) :: (e, u) :: q, p ∈ l := by
  intro p hp
  rcases List.mem_cons.mp hp with rfl | hp
  · exact h.sub _ (.head _)
  · exact h.sub _ (.tail _ (k.sub _ hp))
end Mine
namespace Mine
theorem fr_kst {h₀ h : Heap} {L : Addr} {x : Str} {v : Value} {m : Str → Option Value} (ps : List (Str × Value)) (h1 : ∀ p ∈ ps, m p.1 = some p.2) (F : Fr h₀ L h (fun y => if y = x then some v else m y)) :
    Fr h₀ L h (fun y => if y = x then some v else kstB m ps y) := by
  have e : kstB m ps = m := funext fun z => kstB_eq h1 fun _ => rfl
  rw [e]; exact F
theorem fr_kst0 {h₀ h : Heap} {L : Addr} {m : Str → Option Value} (ps : List (Str × Value)) (h1 : ∀ p ∈ ps, m p.1 = some p.2) (F : Fr h₀ L h m) : Fr h₀ L h (kstB m ps) := by
  have e : kstB m ps = m := funext fun z => kstB_eq h1 fun _ => rfl
  rw [e]; exact F
/-- the lots as they are built: one behind the other, from a₀ on; the end -/
inductive LotsOk (a₀ : Int) : List (List Int) → Int → Prop
  | nil : LotsOk a₀ [] a₀
  | snoc {l : List (List Int)} {a : Int} {k : Nat} : LotsOk a₀ l a → 1 ≤ k → k ≤ 6 → LotsOk a₀ (l ++ [rangeKs a k]) (a + (k : Int))
theorem LotsOk.bounds {a₀ a : Int} {l : List (List Int)} (h : LotsOk a₀ l a) : a₀ + (l.length : Int) ≤ a ∧ a ≤ a₀ + 6 * (l.length : Int) := by
  induction h with
  | nil => simp
  | snoc _ h1 h2 ih => simp only [List.length_append, List.length_cons, List.length_nil]; omega
end Mine
namespace Mine
theorem fresh_rest {h₀ g h h' : Heap} {L L' : Addr} {vis news' rest : Led} (N' : News g L' h' news') (M : News h₀ L h rest) (off : ∀ q ∈ vis, ∀ p ∈ rest, q.1 ≠ p.1)
    (hg : ∀ b o, h.get? b = some o → (∀ q ∈ vis, q.1 ≠ b) → g.get? b = some o) : ∀ p ∈ news', ∀ q ∈ rest, q.1 ≠ p.1 := by
  intro p hp q hq e
  have h1 := (N' p hp).2.2
  have h2 := hg _ _ (M q hq).1 fun z hz => off z hz q hq
  rw [e, h1] at h2; cases h2
noncomputable abbrev tupOf (vs : List Value) : Obj := { cls := .type "tuple", data := .seq vs.toArray }
/-- the word between the turns of _law_lots -/
def LotsJ (prog : Program) (w : World) (aT aC aL : Addr) (a₀ : Int) (i : Nat) (m : Str → Option Value) (nx : Led) : Prop :=
  ∃ (oT : Obj) (vs : List Value) (n : Nat) (refs : List Value) (k : Nat) (subs : Led) (lots : List (List Int)) (v : Int) (tv : Tok),
    nx = (aT, oT) :: (aC, listOf vs.toArray n) :: (aL, listOf refs.toArray k) :: subs ∧ TapeIs prog w oT aC vs ∧ Lots subs refs lots ∧ LotsOk a₀ lots v ∧ lots.length = i ∧
    m "at" = some (.int v tv) ∧ m "lots" = some (.ref aL) ∧ m "tape" = some (.ref aT) ∧ (∀ p ∈ subs, p.1 ≠ aT) ∧ (∀ p ∈ subs, p.1 ≠ aC) ∧ (∀ p ∈ subs, p.1 ≠ aL)
end Mine
namespace Mine
theorem off_app {subs own : Led} {adr : List Addr} {x : Addr} (o : ∀ p ∈ subs, p.1 ≠ x) (hoff : OwnOff own adr) (hx : x ∈ adr) : ∀ p ∈ subs ++ own, p.1 ≠ x := by
  intro p hp
  rcases List.mem_append.mp hp with hp | hp
  · exact o p hp
  · exact hoff p hp _ hx
end Mine
namespace Mine
theorem LotsOk.snoc' {a₀ a b : Int} {l : List (List Int)} {k : Nat} (h : LotsOk a₀ l a) (h1 : 1 ≤ k) (h2 : k ≤ 6) (e : b = a + (k : Int)) : LotsOk a₀ (l ++ [rangeKs a k]) b := e ▸ h.snoc h1 h2
theorem own_ins3 {own : Led} {a b c d : Addr} {l : List Addr} (h : OwnOff own (a :: b :: c :: l)) (k : ∀ p ∈ own, p.1 ≠ d) : OwnOff own (a :: b :: c :: d :: l) := by
  intro p hp x hx
  rcases List.mem_cons.mp hx with rfl | hx
  · exact h p hp _ (.head _)
  rcases List.mem_cons.mp hx with rfl | hx
  · exact h p hp _ (.tail _ (.head _))
  rcases List.mem_cons.mp hx with rfl | hx
  · exact h p hp _ (.tail _ (.tail _ (.head _)))
  rcases List.mem_cons.mp hx with rfl | hx
  · exact k p hp
  · exact h p hp _ (.tail _ (.tail _ (.tail _ hx)))
theorem ne_of_allLt {d : Addr} {l own : Led} (h : AllLt d l) (hs : ∀ p ∈ own, p ∈ l) : ∀ p ∈ own, p.1 ≠ d := fun p hp => Nat.ne_of_lt (ktn_ltOf h p (hs p hp))
theorem off_cons {p : Addr × Obj} {l : Led} {x : Addr} (h : @Ne Nat p.1 x) (k : ∀ q ∈ l, q.1 ≠ x) : ∀ q ∈ p :: l, q.1 ≠ x := by
  intro q hq
  rcases List.mem_cons.mp hq with rfl | hq
  · exact h
  · exact k q hq
end Mine
namespace Mine
theorem lots_end {prog : Program} {w : World} {aT aC aL D L : Addr} {a₀ v b : Int} {i q n c k tk : Nat} {h₀ h' : Heap} {m' : Str → Option Value} {oT : Obj} {vs vs2 refs : List Value} {subs own : Led} {lots : List (List Int)} {tv : Tok} {s₁ : Shared}
    (F : Fr h₀ L h' m') (N : News h₀ L h' ((D, listOf vs2.toArray c) :: (aT, oT) :: (aC, listOf vs.toArray n) :: (aL, listOf (refs.toArray.push (Value.ref D)) (k + 1)) :: (subs ++ own)))
    (hT : TapeIs prog w oT aC vs) (hI : IntsAre vs2 (rangeKs v q)) (hL : Lots subs refs lots) (hO : LotsOk a₀ lots v) (q1 : 1 ≤ q) (q2 : q ≤ 6) (e : b = v + (q : Int)) (hlen : lots.length = i)
    (m1 : m' "at" = some (.int b tv)) (m2 : m' "lots" = some (.ref aL)) (m3 : m' "tape" = some (.ref aT)) (o1 : ∀ p ∈ subs, p.1 ≠ aT) (o2 : ∀ p ∈ subs, p.1 ≠ aC) (o3 : ∀ p ∈ subs, p.1 ≠ aL)
    (l1 : aT < D ∧ aC < D ∧ aL < D ∧ AllLt D (subs ++ own)) (hoff : OwnOff own (((aT, oT) :: (aC, listOf vs.toArray n) :: (aL, listOf refs.toArray k) :: subs).map (·.1))) :
    InvEndG h₀ L (LotsJ prog w aT aC aL a₀ (i + 1)) own s₁ { s₁ with heap := h', toks := tk } := by
  refine InvEndG.intro (nx := (aT, oT) :: (aC, listOf vs.toArray n) :: (aL, listOf (refs ++ [Value.ref D]).toArray (k + 1)) :: (D, listOf vs2.toArray c) :: subs) F N
    ⟨oT, vs, n, _, _, _, _, b, tv, rfl, hT, hL.snoc (fun _ h => .tail _ h) (.head _) hI, LotsOk.snoc' hO q1 q2 e, by simp [hlen], m1, m2, m3, off_cons (Nat.ne_of_gt l1.1) o1, off_cons (Nat.ne_of_gt l1.2.1) o2, off_cons (Nat.ne_of_gt l1.2.2.1) o3⟩
    (own_ins3 hoff (ne_of_allLt l1.2.2.2 (fun p hp => List.mem_append_right _ hp))) ?_ fun p hp => .tail _ (.tail _ (.tail _ (.tail _ (List.mem_append_right _ hp))))
  refine List.forall_mem_cons.mpr ⟨.tail _ (.head _), List.forall_mem_cons.mpr ⟨.tail _ (.tail _ (.head _)), List.forall_mem_cons.mpr ⟨?_, List.forall_mem_cons.mpr ⟨.head _, fun p hp => .tail _ (.tail _ (.tail _ (.tail _ (List.mem_append_left _ hp))))⟩⟩⟩⟩
  rw [← List.push_toArray]; exact .tail _ (.tail _ (.tail _ (.head _)))
end Mine
namespace Mine
theorem seed_bounds : ∀ (l : List Int) (a : Int), 0 ≤ a → a < 999853 → 0 ≤ l.foldl (fun a n => (a * 179 + n).fmod 999853) a ∧ l.foldl (fun a n => (a * 179 + n).fmod 999853) a < 999853
  | [], _, h0, h1 => ⟨h0, h1⟩
  | n :: r, a, _, _ => seed_bounds r _ (fmod_lo _ (by decide)) (fmod_hi _ (by decide))
theorem tape_is {prog : Program} {w : World} {oT : Obj} {aC : Addr} {vs : List Value} {ns : List Int} {t1 t2 ts : Tok} {l : List Int}
    (hd : oT.IsDictOf (strKind prog w) (strPairs [(.str "cells" t1, .ref aC), (.str "seed" t2, .int (l.foldl (fun a n => (a * 179 + n).fmod 999853) 4360) ts)])) (hI : IntsAre vs ((List.map (fun k' => Int.fmod k' 999853) (List.take 40 ns)).reverse)) : TapeIs prog w oT aC vs :=
  ⟨_, _, ts, hd, hI, by rw [hI.length]; simp; omega, (seed_bounds _ _ (by decide) (by decide)).1, (seed_bounds _ _ (by decide) (by decide)).2⟩
end Mine
namespace Mine
theorem fresh_sub {h₀ g h h' : Heap} {L L' : Addr} {vis news' rest news2 : Led} (N' : News g L' h' news') (M : News h₀ L h rest) (off : ∀ q ∈ vis, ∀ p ∈ rest, q.1 ≠ p.1)
    (hg : ∀ b o, h.get? b = some o → (∀ q ∈ vis, q.1 ≠ b) → g.get? b = some o) (hs : ∀ p ∈ news2, p ∈ news') : ∀ p ∈ news2, ∀ q ∈ rest, q.1 ≠ p.1 := fun p hp => fresh_rest N' M off hg p (hs p hp)
end Mine
namespace Mine
/-- as call_sub, for a def with cells -/
theorem call_subC {prog : Program} {w : World} {A₀ A : Around} {s : Shared} {base h₀ : Heap} {outer : List Env} {env : Env} {L : Addr} {m : Str → Option Value} {vis : List (Addr × Obj)} {K : Frag}
    {p : Program} {loose : List Str} {mean : ExcName → Option Value} {mg mb : Str → Option Value}
    {R : Result → Shared → Prop} {name qual : Str} {params : Arguments} {body : List Stmt} {scope : Scope} {dV kV doc pm cdv ct oc : Value} {an od : Option Addr} {osl : Array (Option Value)} {f : Addr} {args : Args} {binds : List (Str × Value)}
    (B : Below A₀ base outer h₀) (F : Fr h₀ L s.heap m) (X : K.In h₀) (N : News h₀ L s.heap vis) (T : Top p loose mean mg mb h₀)
    (hA : A.frames = some (env :: outer)) (hf : env.frame = some L) (hke : env.scope.kind = .function)
    (ho : K.lookup f = some ⟨oc, od, .func (fnOf name qual params body scope dV kV doc pm an cdv ct), osl⟩) (hcd : codeIn K cdv qual = true) (hroom : A.depth < recursionLimit)
    (hbind : BindsTo s (fnOf name qual params body scope dV kV doc pm an cdv ct) args binds)
    (hkind : (binds.all fun y => scope.names.lookup y.1 == some .local || scope.names.lookup y.1 == some .cell) = true) (hnd : ((cellsFrom 0 scope.names []).map (·.1)).Nodup)
    (h : ∀ g L' h₁ tk cells, Fr h₀ L g m → Fr g L' h₁ (bindL (envOfC qual scope L' f cdv).kindOf binds fun _ => none) → News g L' h₁ (cells ++ vis) →
      CellsAre (bindC (envOfC qual scope L' f cdv).kindOf binds fun _ => none) (cellsFrom (L' + 1) scope.names []) cells → Below A base (env :: outer) g → K.In g → Top p loose mean mg mb g →
      (∀ b o, s.heap.get? b = some o → (∀ q ∈ vis, q.1 ≠ b) → g.get? b = some o) → (∀ q ∈ vis, q.1 < L') →
      wpAny (model prog w) (A.deeper (envOfC qual scope L' f cdv)) (execs body (envOfC qual scope L' f cdv))
        (fun fl s' => LeaveK h₀ L m g R (match fl with | .ret v => v | _ => .none) s')
        (fun e s' => wpAny (model prog w) (A.deeper (envOfC qual scope L' f cdv)) (leaving (envOfC qual scope L' f cdv) e) (fun _ s'' => R (.error e) s'') (fun e' s'' => R (.error e') s'') s')
        { s with heap := h₁, toks := tk })
    (hco : scope.isCoroutine = false) (hgen : scope.isGenerator = false) (hk : scope.kind = .function) : codeAny (model prog w) A (.call (.ref f) args) R s := by
  obtain ⟨FG, BG, st, lv⟩ := groundX (R := R) B F N hA hf hke
  have Xs := X.keeps F.keep
  refine codeAny_call_function hroom (Xs _ _ ho) rfl hco hgen rfl (codeRec_of Xs hcd) (hbind _ _ _ _ ?_)
  refine wpAny_newFunctionEnv_cells hk (kindsX hkind _) fun env' he s' x => ?_
  subst he
  refine ⟨(T.nolimit.keeps F.keep).keeps x.toInCall.keep, codeAny_func ?_⟩
  obtain ⟨h₁, tk, rfl, _⟩ := x.done
  have hk₁ := x.toInCall.keep
  have hdn : ((cellsFrom (s.heap.objs.size + 1) scope.names []).map (·.1)).Nodup := cellsFrom_names scope.names 0 (s.heap.objs.size + 1) [] [] rfl ▸ hnd
  obtain ⟨cells, NC, Y⟩ := Cl.news (h₀ := s.heap) (Nat.le_refl _) fun n c hm => ⟨x.cell n c (lookup_of_mem_nodup hdn hm), x.above n c hm⟩
  refine wpAny_mono (h _ s.heap.objs.size h₁ tk cells FG ⟨x.toInCall.ns, fun b o e => hk₁ b o (of_hideAll _ e), Nat.le_of_eq (hideAll_size _ _)⟩ (fun q hq => ?_) Y BG (X.keeps st) (T.keeps st) (fun b o e hn => ?_) (fun q hq => Heap.lt_size (N q hq).1)) (fun fl s' hl => lv _ _ hl) fun _ _ y => y
  · rcases List.mem_append.mp hq with hq | hq
    · refine ⟨(NC q hq).1, (NC q hq).2.1, ?_⟩
      cases e : (hideAll s.heap (vis.map (·.1))).get? q.1 with
      | none => rfl
      | some o => have := of_hideAll _ e; rw [(NC q hq).2.2] at this; cases this
    · exact ⟨hk₁ _ _ (N q hq).1, Nat.ne_of_lt (Heap.lt_size (N q hq).1), hideAll_none _ (List.mem_map_of_mem hq)⟩
  · refine hideAll_get _ e fun hm => ?_
    obtain ⟨q, hq, e'⟩ := List.mem_map.mp hm
    exact hn q hq e'
end Mine
namespace Mine
open LCg in
/-- a comprehension by a word over its whole state -/
theorem comp_rest {prog : Program} {w : World} {A : Around} {s : Shared} {h₀ : Heap} {L : Addr} {m : Str → Option Value} {env : Env} {elt : Expr} {x : Str} {scope : Scope} {cl : List (Str × Addr)} {S : Led → Prop} {P : Nat → Value → Prop} {Fin : List Value → Led → Prop}
    (J : Nat → List Value → Led → Prop) (n : Nat)
    (step : ∀ i ys news, i < n → J i ys news → ∀ v I oI C oC D m₂ h tk (E' : Value → Shared → Prop), P i v → NsObj oC m₂ → m₂ x = some v → Fr h₀ L h m → News h₀ L h ((I, oI) :: (C, oC) :: (D, lst ys) :: news) → Off3 I C D news → ((@Ne Nat I C) ∧ (@Ne Nat I D) ∧ (@Ne Nat C D)) →
      wpAny (model prog w) A (eval elt (compEnvC scope cl C env)) (CompEnd h₀ L m { s with heap := h, toks := tk } I oI C oC D (lst ys) S (fun y news' => J (i + 1) (ys ++ [y]) news')) E' { s with heap := h, toks := tk })
    (fin : ∀ ys news, J n ys news → Fin ys news) :
    ∀ k i ys news, i + k = n → J i ys news → CompRest prog w A h₀ L m env elt x scope cl s S P Fin k i ys news := by
  intro k
  induction k with
  | zero => intro i ys news e hj; obtain rfl : i = n := by omega
            exact CompRest.zero (fin ys news hj)
  | succ k ih =>
    intro i ys news e hj
    refine CompRest.succ fun v I oI C oC D m₂ h tk E' hv hC hx F N off ne => ?_
    refine wpAny_mono (step i ys news (by omega) hj v I oI C oC D m₂ h tk E' hv hC hx F N off ne) (fun y s₂ he => ?_) fun _ _ e => e
    obtain ⟨h', tk', news', e', F', N', o', hS, hJ⟩ := he
    exact ⟨h', tk', news', e', F', N', o', hS, ih (i + 1) _ _ (by omega) hJ⟩
end Mine
namespace Mine
def OrderJ (prog : Program) (w : World) (aT aC : Addr) (rest0 : Led) (i : Nat) (ys : List Value) (nx : Led) : Prop :=
  ∃ (oT : Obj) (vs : List Value) (n : Nat) (ns : List Int), nx = (aT, oT) :: (aC, listOf vs.toArray n) :: rest0 ∧ TapeIs prog w oT aC vs ∧ IntsAre ys ns ∧ ns.length = i
theorem order_end {prog : Program} {w : World} {h₀ h' : Heap} {L I C D aT aC : Addr} {m : Str → Option Value} {s₁ : Shared} {oI oC oD oT oT0 : Obj} {ys vs vs0 : List Value} {n n0 tk i : Nat} {t : Tok} {x : Int} {ns : List Int} {rest0 : Led}
    (F : Fr h₀ L h' m) (N : News h₀ L h' ((aT, oT) :: (aC, listOf vs.toArray n) :: (I, oI) :: (C, oC) :: (D, oD) :: rest0)) (off : LCg.Off3 I C D ((aT, oT0) :: (aC, listOf vs0.toArray n0) :: rest0))
    (hT : TapeIs prog w oT aC vs) (hI : IntsAre ys ns) (hl : ns.length = i) :
    LCg.CompEnd h₀ L m s₁ I oI C oC D oD (fun _ => True) (fun y news' => OrderJ prog w aT aC rest0 (i + 1) (ys ++ [y]) news') (.int x t) { s₁ with heap := h', toks := tk } :=
  LCg.CompEnd.intro F N ((aT, oT) :: (aC, listOf vs.toArray n) :: rest0) (by
    intro p hp
    simp only [List.mem_cons] at hp ⊢
    rcases hp with h | h | h | h | h | h <;> simp [h]) off trivial ⟨oT, vs, n, ns ++ [x], rfl, hT, hI.append (.cons x t .nil), by simp [hl]⟩
end Mine
namespace Mine
noncomputable def rowStep (lots : List (List Int)) (st : List Int × List Int) (n : Int) : List Int × List Int :=
  if 0 ≤ n ∧ n < (lots.length : Int) ∧ n ∉ st.2 then (st.1 ++ lots.getD n.toNat [], st.2 ++ [n]) else st
noncomputable def rowF (lots : List (List Int)) (order : List Int) : List Int := ((order ++ rangeKs 0 lots.length).foldl (rowStep lots) ([], [])).1
theorem Lots.get {tl : Led} {refs : List Value} {lots : List (List Int)} (h : Lots tl refs lots) {k : Nat} (hk : k < lots.length) : ∃ a vs n, refs[k]? = some (.ref a) ∧ (a, listOf vs.toArray n) ∈ tl ∧ IntsAre vs (lots.getD k []) := by
  induction h generalizing k with
  | nil => exact absurd hk (Nat.not_lt_zero _)
  | cons hm hi _ ih =>
    cases k with
    | zero => exact ⟨_, _, _, rfl, hm, hi⟩
    | succ k => exact ih (Nat.lt_of_succ_lt_succ hk)
def RowJ (lots : List (List Int)) (all : List Int) (items : Addr × Obj) (aL aM : Addr) (i : Nat) (m : Str → Option Value) (nx : Led) : Prop :=
  ∃ (metv rowv : List Value) (km kr : Nat) (aR : Addr) (met row : List Int), nx = [items, (aM, listOf metv.toArray km), (aR, listOf rowv.toArray kr)] ∧ IntsAre metv met ∧ IntsAre rowv row ∧
    (all.take i).foldl (rowStep lots) ([], []) = (row, met) ∧ met.length ≤ i ∧ row.length ≤ 6 * i ∧ m "row" = some (.ref aR) ∧ m "met" = some (.ref aM) ∧ m "lots" = some (.ref aL) ∧ @Ne Nat aM aR ∧ @Ne Nat aM items.1
end Mine
namespace Mine
section
variable {prog : Program} {w : World} {A : Around} {E : Value → Shared → Prop} {s : Shared}
theorem len_any {l : Addr} {refs : List Value} {n : Nat} {Q : Value → Shared → Prop} (hl : s.heap.IsList l refs.toArray) (e : refs.length = n) (hfit : n < 2 ^ 62)
    (h : Q (.int (n : Nat) (s.toks + 1)) { s with toks := s.toks + 1 + 1 }) : wpAny (model prog w) A (call (.builtin "len") [.ref l]) Q E s := by
  have e' : refs.toArray.size = n := by simp [e]
  refine Calls.call_len_list hl (by omega) ?_
  rw [e']
  exact h
theorem item_any {value slice : PySem.Expr} {l : Addr} {vs : List Value} {k : Int} {u : Tok} {v : Value} {Q : Value → Shared → Prop} (hl : s.heap.IsList l vs.toArray)
    (h0 : 0 ≤ k) (hfit : k < 2 ^ 63) (hx : vs[k.toNat]? = some v) (h : Q v s)
    (hs : subscripted slice false (.ref l) (.int k u) = operate [.ref l, .int k u] (getItem (.ref l) (.int k u))) :
    wpAny (model prog w) A (subscriptTail value slice (.ref l) (.int k u)) Q E s :=
  tail_any hl.typeIs slot_list_getitem.lookup (wpAny_getItem_list hl h0 hfit (by simpa using hx) h) hs
end
end Mine
namespace Mine
section
variable {prog : Program} {w : World} {A : Around} {E : Value → Shared → Prop} {s : Shared} {env : Env} {h₀ : Heap} {x : Str} {body : List Stmt} {Q : Flow → Shared → Prop}
/-- a for over a made list of ints, by a word over its whole state -/
theorem list_loop {l : Addr} {vs : List Value} {nn : Nat} {all : List Int} {m₀ : Str → Option Value} {news : Led} (J : Nat → (Str → Option Value) → Led → Prop)
    (hh : A.handled = none) (hI : IntsAre vs all) (hl : (l, listOf vs.toArray nn) ∈ news) (F : Fr h₀ env.locals s.heap m₀) (N : News h₀ env.locals s.heap news) (hj : J 0 m₀ news)
    (turn : ∀ i a t m₁ nx h tk own, all[i]? = some a → OwnOff own (nx.map (·.1)) → (l, listOf vs.toArray nn) ∈ nx → J i m₁ nx → Fr h₀ env.locals h (fun y => if y = x then some (.int a t) else m₁ y) → News h₀ env.locals h (nx ++ own) →
      wpAny (model prog w) A (execs body env) (InvPostG h₀ env.locals (fun m' nx => (l, listOf vs.toArray nn) ∈ nx ∧ J (i + 1) m' nx) own { s with heap := h, toks := tk } Q) E { s with heap := h, toks := tk })
    (done : ∀ m₁ nx h tk, J all.length m₁ nx → Fr h₀ env.locals h m₁ → News h₀ env.locals h nx → Q .next { s with heap := h, toks := tk }) :
    wpAny (model prog w) A (pyIter (.ref l)) (fun it s₂ => LoopAtV prog w A h₀ env x body Q E it s₂) E s := by
  refine kdl_iter J hh hl F N hj ?_ (hI.length ▸ done)
  intro i v m₁ nx h tk own hv hoff hmem hJ F₁ N₁
  have hi : i < all.length := by rw [← hI.length]; exact (List.getElem?_eq_some_iff.mp hv).1
  obtain ⟨t, hx⟩ := hI.get i (all[i]'hi) (List.getElem?_eq_getElem hi)
  have ev : v = .int (all[i]'hi) t := by rw [hx] at hv; exact (Option.some.inj hv).symm
  subst ev
  exact turn i _ t m₁ nx h tk own (List.getElem?_eq_getElem hi) hoff hmem hJ F₁ N₁
end
theorem take_fold {α : Type} {f : α → Int → α} {a₀ : α} {all : List Int} {i : Nat} {a : Int} (h : all[i]? = some a) : (all.take (i + 1)).foldl f a₀ = f ((all.take i).foldl f a₀) a := by
  rw [List.take_add_one, h]; simp
end Mine
namespace Mine
section
variable {h₀ h' : Heap} {L aL aM aR D : Addr} {m' : Str → Option Value} {lots : List (List Int)} {all met row ns : List Int} {items : Addr × Obj} {metv rowv ws : List Value} {km kr c i tk : Nat} {nu : Int} {t : Tok} {own rest' : Led} {s₁ : Shared}
theorem any_eq_false {met : List Int} {a : Int} (h : (met.any fun x => x == a) = false) : a ∉ met := by
  intro hm
  have := List.any_eq_false.mp h a hm
  simp at this
theorem any_eq_true {met : List Int} {a : Int} (h : (met.any fun x => x == a) = true) : a ∈ met := by
  obtain ⟨x, hx, e⟩ := List.any_eq_true.mp h
  simp at e; exact e ▸ hx
theorem row_skip (F : Fr h₀ L h' m') (N : News h₀ L h' (items :: (aM, listOf metv.toArray km) :: (aR, listOf rowv.toArray kr) :: own)) (hoff : OwnOff own ([items, (aM, listOf metv.toArray km), (aR, listOf rowv.toArray kr)].map (·.1)))
    (hi : all[i]? = some nu) (hM : IntsAre metv met) (hR : IntsAre rowv row) (hst : (all.take i).foldl (rowStep lots) ([], []) = (row, met)) (l1 : met.length ≤ i) (l2 : row.length ≤ 6 * i)
    (n1 : @Ne Nat aM aR) (n2 : @Ne Nat aM items.1) (hc : ¬ (0 ≤ nu ∧ nu < (lots.length : Int) ∧ nu ∉ met))
    (m1 : m' "row" = some (.ref aR)) (m2 : m' "met" = some (.ref aM)) (m3 : m' "lots" = some (.ref aL)) :
    InvEndG h₀ L (fun m' nx => items ∈ nx ∧ RowJ lots all items aL aM (i + 1) m' nx) own s₁ { s₁ with heap := h', toks := tk } :=
  InvEndG.intro (nx := [items, (aM, listOf metv.toArray km), (aR, listOf rowv.toArray kr)]) F N
    ⟨.head _, metv, rowv, km, kr, aR, met, row, rfl, hM, hR, by rw [take_fold hi, hst, rowStep, if_neg hc], by omega, by omega, m1, m2, m3, n1, n2⟩ hoff
    (fun p hp => by simp only [List.mem_cons, List.not_mem_nil, or_false] at hp ⊢; rcases hp with h | h | h <;> simp [h]) (fun p hp => .tail _ (.tail _ (.tail _ hp)))
theorem row_take (F : Fr h₀ L h' m') (N : News h₀ L h' ((D, listOf ws.toArray c) :: items :: (aM, listOf (metv ++ [Value.int nu t]).toArray (km + 1)) :: (aR, listOf rowv.toArray kr) :: own)) (hoff : OwnOff own ([items, (aM, listOf metv.toArray km), (aR, listOf rowv.toArray kr)].map (·.1)))
    (hi : all[i]? = some nu) (hM : IntsAre metv met) (hst : (all.take i).foldl (rowStep lots) ([], []) = (row, met)) (l1 : met.length ≤ i) (l2 : row.length ≤ 6 * i)
    (n2 : @Ne Nat aM items.1) (h0 : 0 ≤ nu) (h1 : nu < (lots.length : Int)) (hm : (met.any fun x => x == nu) = false) (hW : IntsAre ws (row ++ lots.getD nu.toNat [])) (hsz : (lots.getD nu.toNat []).length ≤ 6)
    (d : @LT.lt Nat _ items.1 D ∧ @LT.lt Nat _ aM D ∧ @LT.lt Nat _ aR D ∧ AllLt D own)
    (m1 : m' "row" = some (.ref D)) (m2 : m' "met" = some (.ref aM)) (m3 : m' "lots" = some (.ref aL)) :
    InvEndG h₀ L (fun m' nx => items ∈ nx ∧ RowJ lots all items aL aM (i + 1) m' nx) own s₁ { s₁ with heap := h', toks := tk } := by
  refine InvEndG.intro (nx := [items, (aM, listOf (metv ++ [Value.int nu t]).toArray (km + 1)), (D, listOf ws.toArray c)]) F N
    ⟨.head _, _, ws, _, c, D, met ++ [nu], _, rfl, hM.append (.cons nu t .nil), hW, by rw [take_fold hi, hst, rowStep, if_pos ⟨h0, h1, any_eq_false hm⟩], by simp; omega, by simp only [List.length_append]; omega, m1, m2, m3, Nat.ne_of_lt d.2.1, n2⟩ ?_
    ?_ (fun p hp => .tail _ (.tail _ (.tail _ (.tail _ hp))))
  · intro p hp x hx
    simp only [List.map_cons, List.map_nil, List.mem_cons, List.not_mem_nil, or_false] at hx
    rcases hx with rfl | rfl | rfl
    · exact hoff p hp _ (.head _)
    · exact hoff p hp _ (.tail _ (.head _))
    · exact ne_of_allLt d.2.2.2 (fun p hp => hp) p hp
  · intro p hp
    simp only [List.mem_cons, List.not_mem_nil, or_false] at hp ⊢
    rcases hp with h | h | h <;> simp [h]
end
end Mine
namespace Mine
/-- a dict of ints, without the tokens -/
inductive PairsAre : List (Int × Value) → List (Int × Int) → Prop
  | nil : PairsAre [] []
  | cons (k v : Int) (t : Tok) {r : List (Int × Value)} {q : List (Int × Int)} : PairsAre r q → PairsAre ((k, .int v t) :: r) ((k, v) :: q)
theorem PairsAre.length {r : List (Int × Value)} {q : List (Int × Int)} (h : PairsAre r q) : r.length = q.length := by
  induction h with
  | nil => rfl
  | cons _ _ _ _ ih => simp [ih]
theorem PairsAre.snoc {r : List (Int × Value)} {q : List (Int × Int)} (h : PairsAre r q) (k v : Int) (t : Tok) : PairsAre (r ++ [(k, .int v t)]) (q ++ [(k, v)]) := by
  induction h with
  | nil => exact .cons k v t .nil
  | cons k' v' t' _ ih => exact .cons k' v' t' ih
theorem PairsAre.keys {r : List (Int × Value)} {q : List (Int × Int)} (h : PairsAre r q) : r.map (·.1) = q.map (·.1) := by
  induction h with
  | nil => rfl
  | cons _ _ _ _ ih => simp [ih]
theorem PairsAre.at {r : List (Int × Value)} {q : List (Int × Int)} (h : PairsAre r q) {k v : Int} (hk : q.lookup k = some v) : ∃ t, valueAt r k = some (.int v t) := by
  induction h with
  | nil => cases hk
  | cons k' v' t' _ ih =>
    rw [List.lookup_cons] at hk
    unfold valueAt
    rw [List.find?_cons]
    by_cases e : k = k'
    · subst e
      simp at hk
      exact ⟨t', by simp [hk]⟩
    · have e1 : (k == k') = false := by simpa using e
      rw [e1] at hk
      have e2 : decide (k' = k) = false := by simpa using fun x => e x.symm
      rw [e2]
      exact ih hk
theorem valueAt_some_mem {r : List (Int × Value)} {k : Int} (h : (valueAt r k).isSome = true) : k ∈ r.map (·.1) := by
  rcases Classical.em (k ∈ r.map (·.1)) with h' | h'
  · exact h'
  · rw [valueAt_none_of_not_mem h'] at h; cases h
theorem valueAt_none {r : List (Int × Value)} {k : Int} (h : (valueAt r k).isSome = false) : valueAt r k = none := by
  cases e : valueAt r k with
  | none => rfl
  | some v => rw [e] at h; cases h
theorem not_mem_of_none {r : List (Int × Value)} {k : Int} (h : valueAt r k = none) : k ∉ r.map (·.1) := by
  intro hm
  have := valueAt_isSome_eq_any r k
  rw [h] at this
  obtain ⟨p, hp, e⟩ := List.mem_map.mp hm
  have h2 := List.any_eq_false.mp (this.symm) p hp
  simp [e] at h2
noncomputable def initStep (firsts : List Int) (e : Int) (st : List (Int × Int) × Int) (n : Int) : List (Int × Int) × Int :=
  if 0 ≤ n ∧ n < (firsts.length : Int) ∧ n ∉ st.1.map (·.1) then (st.1 ++ [(n, st.2)], st.2 + (if n + 1 < (firsts.length : Int) then firsts.getD (n + 1).toNat 0 else e) - firsts.getD n.toNat 0) else st
noncomputable def initF (firsts order : List Int) (e : Int) : List (Int × Int) := ((order ++ rangeKs 0 firsts.length).foldl (initStep firsts e) ([], firsts.headD e)).1
def InitJ (prog : Program) (w : World) (firsts all : List Int) (e : Int) (te : Tok) (items : Addr × Obj) (x aF aB : Addr) (fix : Led) (i : Nat) (m : Str → Option Value) (nx : Led) : Prop :=
  ∃ (oB : Obj) (kvs : List (Int × Value)) (bs : List (Int × Int)) (at' : Int) (ta : Tok), nx = items :: (aB, oB) :: fix ∧ oB.IsDictOf (intKind prog w) kvs ∧ PairsAre kvs bs ∧
    (all.take i).foldl (initStep firsts e) ([], firsts.headD e) = (bs, at') ∧ bs.length ≤ i ∧ m "at" = some (.int at' ta) ∧ m "self" = some (.ref x) ∧ m "firsts" = some (.ref aF) ∧ m "end" = some (.int e te)
section
variable {prog : Program} {w : World} {h₀ h' : Heap} {L x aF aB : Addr} {m' : Str → Option Value} {firsts all : List Int} {items : Addr × Obj} {fix own : Led} {oB oB0 : Obj} {kvs : List (Int × Value)} {bs : List (Int × Int)} {at' b e nu : Int} {ta te : Tok} {i tk : Nat} {s₁ : Shared}
theorem init_skip (F : Fr h₀ L h' m') (N : News h₀ L h' (items :: (aB, oB) :: (fix ++ own))) (hoff : OwnOff own ((items :: (aB, oB) :: fix).map (·.1))) (hi : all[i]? = some nu) (hD : oB.IsDictOf (intKind prog w) kvs) (hP : PairsAre kvs bs)
    (hst : (all.take i).foldl (initStep firsts e) ([], firsts.headD e) = (bs, at')) (l1 : bs.length ≤ i) (hc : ¬ (0 ≤ nu ∧ nu < (firsts.length : Int) ∧ nu ∉ bs.map (·.1)))
    (m1 : m' "at" = some (.int at' ta)) (m2 : m' "self" = some (.ref x)) (m3 : m' "firsts" = some (.ref aF)) (m4 : m' "end" = some (.int e te)) :
    InvEndG h₀ L (fun m' nx => items ∈ nx ∧ InitJ prog w firsts all e te items x aF aB fix (i + 1) m' nx) own s₁ { s₁ with heap := h', toks := tk } :=
  InvEndG.intro (nx := items :: (aB, oB) :: fix) F N ⟨.head _, oB, kvs, bs, at', ta, rfl, hD, hP, by rw [take_fold hi, hst, initStep, if_neg hc], by omega, m1, m2, m3, m4⟩ hoff
    (fun p hp => by
      rcases List.mem_cons.mp hp with h | hp
      · exact h ▸ .head _
      rcases List.mem_cons.mp hp with h | hp
      · exact h ▸ .tail _ (.head _)
      exact .tail _ (.tail _ (List.mem_append_left _ hp))) (fun p hp => .tail _ (.tail _ (List.mem_append_right _ hp)))
theorem init_take {oB' : Obj} {t : Tok} (F : Fr h₀ L h' m') (N : News h₀ L h' (items :: (aB, oB') :: (fix ++ own))) (hoff : OwnOff own ((items :: (aB, oB) :: fix).map (·.1))) (hi : all[i]? = some nu) (hD : oB'.IsDictOf (intKind prog w) (stored kvs nu (.int at' t))) (hP : PairsAre kvs bs)
    (hst : (all.take i).foldl (initStep firsts e) ([], firsts.headD e) = (bs, at')) (l1 : bs.length ≤ i) (h0 : 0 ≤ nu) (h1 : nu < (firsts.length : Int)) (hn : (valueAt kvs nu).isSome = false)
    (hb : b = at' + (if nu + 1 < (firsts.length : Int) then firsts.getD (nu + 1).toNat 0 else e) - firsts.getD nu.toNat 0)
    (m1 : m' "at" = some (.int b ta)) (m2 : m' "self" = some (.ref x)) (m3 : m' "firsts" = some (.ref aF)) (m4 : m' "end" = some (.int e te)) :
    InvEndG h₀ L (fun m' nx => items ∈ nx ∧ InitJ prog w firsts all e te items x aF aB fix (i + 1) m' nx) own s₁ { s₁ with heap := h', toks := tk } := by
  have hv := valueAt_none hn
  rw [stored_absent hv] at hD
  have hnm : nu ∉ bs.map (·.1) := hP.keys ▸ not_mem_of_none hv
  exact InvEndG.intro (nx := items :: (aB, oB') :: fix) F N ⟨.head _, oB', _, bs ++ [(nu, at')], b, ta, rfl, hD, hP.snoc _ _ _, by rw [take_fold hi, hst, initStep, if_pos ⟨h0, h1, hnm⟩, hb], by simp; omega, m1, m2, m3, m4⟩ hoff
    (fun p hp => by
      rcases List.mem_cons.mp hp with h | hp
      · exact h ▸ .head _
      rcases List.mem_cons.mp hp with h | hp
      · exact h ▸ .tail _ (.head _)
      exact .tail _ (.tail _ (List.mem_append_left _ hp))) (fun p hp => .tail _ (.tail _ (List.mem_append_right _ hp)))
end
end Mine
namespace Mine
noncomputable abbrev reoDict (P : Params) (t1 t2 t3 te : Tok) (aF aB : Addr) (e : Int) : Obj :=
  dictOf [⟨PyData.keyHash P "firsts", .str "firsts" t1, .ref aF⟩, ⟨PyData.keyHash P "begun", .str "begun" t2, .ref aB⟩, ⟨PyData.keyHash P "end", .str "end" t3, .int e te⟩] 3
end Mine
namespace Mine
noncomputable def lotGo (firsts : List Int) (p : Int) : Nat → Nat → Nat
  | 0, l => l
  | k + 1, l => if l + 1 < firsts.length ∧ firsts.getD (l + 1) 0 ≤ p then lotGo firsts p k (l + 1) else l
noncomputable def lotOf (firsts : List Int) (p : Int) : Nat := lotGo firsts p firsts.length 0
theorem lotGo_stop {firsts : List Int} {p : Int} {k l : Nat} (h : ¬ (l + 1 < firsts.length ∧ firsts.getD (l + 1) 0 ≤ p)) : lotGo firsts p k l = l := by
  cases k with
  | zero => rfl
  | succ k => rw [lotGo, if_neg h]
noncomputable def movedF (firsts : List Int) (bs : List (Int × Int)) (e p : Int) : Int :=
  if firsts = [] ∨ p < firsts.getD 0 0 ∨ e ≤ p then p else (bs.lookup (lotOf firsts p : Int)).getD 0 + p - firsts.getD (lotOf firsts p) 0
def MovedJ (firsts : List Int) (p : Int) (tp : Tok) (x : Addr) (vis : Led) (n : Nat) (m : Str → Option Value) (nx : Led) : Prop :=
  nx = vis ∧ ∃ (l : Nat) (tl : Tok), n = firsts.length - l ∧ l < firsts.length ∧ lotGo firsts p (firsts.length - l) l = lotOf firsts p ∧
    m "lot" = some (.int (l : Int) tl) ∧ m "self" = some (.ref x) ∧ m "primary" = some (.int p tp)
theorem moved_step {h₀ h' : Heap} {L x : Addr} {s : Shared} {m' : Str → Option Value} {firsts : List Int} {p : Int} {tp tl : Tok} {vis : Led} {l tk : Nat}
    (F : Fr h₀ L h' m') (N : News h₀ L h' vis) (h1 : (l : Int) + 1 < (firsts.length : Int)) (h2 : firsts.getD ((l : Int) + 1).toNat 0 ≤ p) (hg : lotGo firsts p (firsts.length - l) l = lotOf firsts p)
    (m1 : m' "lot" = some (.int ((l : Int) + 1) tl)) (m2 : m' "self" = some (.ref x)) (m3 : m' "primary" = some (.int p tp)) :
    WhileStep h₀ L s (MovedJ firsts p tp x vis) (firsts.length - l) .next { s with heap := h', toks := tk } := by
  refine WhileStep.intro (n' := firsts.length - (l + 1)) F N (by omega) ⟨rfl, l + 1, tl, rfl, by omega, ?_, by simpa using m1, m2, m3⟩
  have e : firsts.length - l = (firsts.length - (l + 1)) + 1 := by omega
  have e2 : ((l : Int) + 1).toNat = l + 1 := by omega
  rw [e2] at h2
  rw [e, lotGo, if_pos ⟨by omega, h2⟩] at hg
  exact hg
end Mine
namespace Mine
theorem pos_of' {cells : List Int} (a : decide (cells = []) = false) : 0 < cells.length := by
  cases cells with
  | nil => simp at a
  | cons => simp
theorem movedF_same {firsts : List Int} {bs : List (Int × Int)} {e p : Int} (h : firsts = [] ∨ p < firsts.getD 0 0 ∨ e ≤ p) : movedF firsts bs e p = p := by rw [movedF, if_pos h]
theorem movedF_at {firsts : List Int} {bs : List (Int × Int)} {e p v : Int} {l : Nat} (h0 : decide (firsts = []) = false) (h1 : ¬ p < firsts.getD 0 0) (h2 : ¬ p ≥ e) (hl : lotOf firsts p = l) (hv : bs.lookup (l : Int) = some v) :
    movedF firsts bs e p = v + p - firsts.getD l 0 := by
  rw [movedF, if_neg, hl, hv]
  · rfl
  · rintro (h | h | h)
    · simp [h] at h0
    · exact h1 h
    · exact h2 h
end Mine
namespace Mine
theorem moved_exit1 {firsts : List Int} {bs : List (Int × Int)} {e p v : Int} {l : Nat} (h0 : decide (firsts = []) = false) (h1 : ¬ p < firsts.getD 0 0) (h2 : ¬ e ≤ p) (hgo : lotGo firsts p (firsts.length - l) l = lotOf firsts p) (hv : bs.lookup (l : Int) = some v)
    (hx : ¬ firsts.getD ((l : Int) + 1).toNat 0 ≤ p) : movedF firsts bs e p = v + p - firsts.getD ((l : Int).toNat) 0 := by
  rw [Int.toNat_natCast]
  exact movedF_at h0 h1 h2 (hgo.symm.trans (lotGo_stop fun h => hx (by rw [show ((l : Int) + 1).toNat = l + 1 by omega]; exact h.2))) hv
theorem moved_exit2 {firsts : List Int} {bs : List (Int × Int)} {e p v : Int} {l : Nat} (h0 : decide (firsts = []) = false) (h1 : ¬ p < firsts.getD 0 0) (h2 : ¬ e ≤ p) (hgo : lotGo firsts p (firsts.length - l) l = lotOf firsts p) (hv : bs.lookup (l : Int) = some v)
    (hx : ¬ (l : Int) + 1 < (firsts.length : Int)) : movedF firsts bs e p = v + p - firsts.getD ((l : Int).toNat) 0 := by
  rw [Int.toNat_natCast]
  exact movedF_at h0 h1 h2 (hgo.symm.trans (lotGo_stop fun h => hx (by omega))) hv
end Mine
namespace Mine
section
variable {prog : Program} {w : World} {A : Around} {E : Value → Shared → Prop} {s : Shared} {env : Env} {h₀ : Heap} {x : Str} {body : List Stmt} {Q : Flow → Shared → Prop}
theorem dict_at {d : Addr} {oB : Obj} {kvs : List (Int × Value)} {h : Heap} (hD : oB.IsDictOf (intKind prog w) kvs) (ho : h.get? d = some oB) : ∃ ep, h.DictAt (intKind prog w) d kvs ep :=
  let ⟨ep, ha⟩ := KdkAt.of hD; ⟨ep, ha.dictAt ho⟩
/-- a for over a dict's keys, by a word over the frame -/
theorem dict_loop {d : Addr} {oB : Obj} {kvs : List (Int × Value)} {m₀ : Str → Option Value} {news : Led} (J : Nat → (Str → Option Value) → Prop)
    (hh : A.handled = none) (hD : oB.IsDictOf (intKind prog w) kvs) (lo : (d == sysModules) = false) (hm : (d, oB) ∈ news) (F : Fr h₀ env.locals s.heap m₀) (N : News h₀ env.locals s.heap news) (hj : J 0 m₀)
    (turn : ∀ i k v t m₁ h tk own, kvs[i]? = some (k, v) → J i m₁ → Fr h₀ env.locals h (fun y => if y = x then some (.int k t) else m₁ y) → News h₀ env.locals h (own ++ news) →
      wpAny (model prog w) A (execs body env) (InvPost h₀ env.locals (J (i + 1)) (own ++ news) { s with heap := h, toks := tk } Q) E { s with heap := h, toks := tk })
    (done : ∀ m₁ h tk, J kvs.length m₁ → Fr h₀ env.locals h m₁ → News h₀ env.locals h news → Q .next { s with heap := h, toks := tk }) :
    wpAny (model prog w) A (pyIter (.ref d)) (fun it s₂ => LoopAtV prog w A h₀ env x body Q E it s₂) E s := by
  obtain ⟨ep, hat⟩ := dict_at (prog := prog) (w := w) hD (N _ hm).1
  refine wpAny_pyIter_dict lo hat ?_
  have hne : d ≠ s.heap.objs.size := Nat.ne_of_lt hat.lt_size
  let J' : Nat → (Str → Option Value) → Led → Prop := fun i m₁ news₁ => news₁ = news ∧ J i m₁
  refine ⟨s.heap.objs.size, [s.heap.objs.size, d], [s.heap.objs.size], kvs.length, _, _, m₀, news, J', rfl, Walks.dictKeys (knd := intKind prog w) hh _ d hne kvs ep, ?_, ?_, ?_,
    ⟨⟨_, Heap.get?_push_size _ rfl, rfl, rfl⟩, hat.push _⟩, F.push _, fun p hp => ⟨Heap.get?_push_of_some _ (N p hp).1, (N p hp).2⟩, ⟨rfl, hj⟩, ?_, ?_⟩
  · intro hmm
    rcases List.mem_cons.mp hmm with e | hmm
    · exact absurd F.ns.lt (e ▸ Nat.lt_irrefl _)
    · exact (N _ hm).2.1 (List.mem_singleton.mp hmm).symm
  · intro b hb
    rw [List.mem_singleton.mp hb]
    exact next_is_new F
  · intro p hp hI
    exact absurd (Heap.lt_size (N p hp).1) ((List.mem_singleton.mp hI) ▸ Nat.lt_irrefl _)
  · rintro i v m₁ news₁ s₁ own ⟨hh', tk', rfl⟩ _ ⟨k, xv, hx, hkey⟩ ⟨rfl, hJ⟩ hoff _ _ _ _ F₁ N₁
    obtain ⟨t, ev⟩ := Value.isInt_shape hkey
    subst ev
    refine wpAny_mono (turn i k xv t m₁ hh' tk' own hx hJ F₁ N₁) (fun f s₂ p => ?_) fun _ _ e => e
    have fin : InvEnd h₀ env.locals (J (i + 1)) (own ++ news₁) { s with heap := hh', toks := tk' } s₂ → LoopStepU h₀ env.locals [s.heap.objs.size] own (J' (i + 1)) { s with heap := hh', toks := tk' } .next s₂ := by
      rintro ⟨h', tk, m', news', e, F', N', hn, hm'⟩
      exact ⟨rfl, h', tk, m', news₁, e, F', fun p hp => N' p (hn p hp), hoff, rfl, hm'⟩
    cases f with
    | ret v => exact .ret p
    | brk => exact .brk p
    | next => exact .next (fin p)
    | cont => exact .cont (fin p)
  · rintro h' tk m' news' F' N' _ ⟨rfl, hJ⟩
    exact done m' h' tk hJ F' N'
end
noncomputable def unHit (firsts : List Int) (e p : Int) (q : Int × Int) : Bool :=
  decide (firsts.getD q.1.toNat 0 ≤ firsts.getD q.1.toNat 0 + p - q.2 ∧ firsts.getD q.1.toNat 0 + p - q.2 < if q.1 + 1 < (firsts.length : Int) then firsts.getD (q.1 + 1).toNat 0 else e)
noncomputable def unmovedF (firsts : List Int) (bs : List (Int × Int)) (e p : Int) : Int :=
  if firsts = [] ∨ p < firsts.getD 0 0 ∨ e ≤ p then p else match bs.find? (unHit firsts e p) with | some q => firsts.getD q.1.toNat 0 + p - q.2 | none => p
def UnJ (firsts : List Int) (bs : List (Int × Int)) (e p : Int) (tp : Tok) (x : Addr) (i : Nat) (m : Str → Option Value) : Prop :=
  (bs.take i).find? (unHit firsts e p) = none ∧ m "self" = some (.ref x) ∧ m "primary" = some (.int p tp)
theorem PairsAre.get {r : List (Int × Value)} {q : List (Int × Int)} (h : PairsAre r q) {i : Nat} {k : Int} {v : Value} (hx : r[i]? = some (k, v)) : ∃ b t, v = .int b t ∧ q[i]? = some (k, b) := by
  induction h generalizing i with
  | nil => simp at hx
  | cons k' v' t' _ ih =>
    cases i with
    | zero => simp at hx; exact ⟨v', t', hx.2.symm, by simp [hx.1]⟩
    | succ i => simp at hx; obtain ⟨b, t, e1, e2⟩ := ih hx; exact ⟨b, t, e1, by simpa using e2⟩
theorem dict_nodup {prog : Program} {w : World} {oB : Obj} {kvs : List (Int × Value)} (hD : oB.IsDictOf (intKind prog w) kvs) : (kvs.map (·.1)).Nodup := by
  obtain ⟨es, ep, _, _, _, _, hn⟩ := hD
  exact hn
theorem unmovedF_same {firsts : List Int} {bs : List (Int × Int)} {e p : Int} (h : firsts = [] ∨ p < firsts.getD 0 0 ∨ e ≤ p) : unmovedF firsts bs e p = p := by rw [unmovedF, if_pos h]
theorem un_not {firsts : List Int} {e p : Int} (h0 : decide (firsts = []) = false) (h1 : ¬ p < firsts.getD 0 0) (h2 : ¬ e ≤ p) : ¬ (firsts = [] ∨ p < firsts.getD 0 0 ∨ e ≤ p) := by
  rintro (h | h | h)
  · simp [h] at h0
  · exact h1 h
  · exact h2 h
theorem take_find {bs : List (Int × Int)} {i : Nat} {q : Int × Int} {f : Int × Int → Bool} (h : (bs.take i).find? f = none) (hq : bs[i]? = some q) : (bs.take (i + 1)).find? f = if f q = true then some q else none := by
  rw [List.take_add_one, hq, List.find?_append, h]
  cases hf : f q <;> simp [hf]
theorem un_hit {firsts : List Int} {bs : List (Int × Int)} {e p : Int} {i : Nat} {k b : Int} (hn : ¬ (firsts = [] ∨ p < firsts.getD 0 0 ∨ e ≤ p)) (h : (bs.take i).find? (unHit firsts e p) = none) (hq : bs[i]? = some (k, b)) (hc : unHit firsts e p (k, b) = true) :
    unmovedF firsts bs e p = firsts.getD k.toNat 0 + p - b := by
  have h1 := take_find h hq
  rw [if_pos hc] at h1
  have h2 : bs.find? (unHit firsts e p) = some (k, b) := by
    rw [← List.take_append_drop (i + 1) bs, List.find?_append, h1]; rfl
  rw [unmovedF, if_neg hn, h2]
theorem un_done {firsts : List Int} {bs : List (Int × Int)} {e p : Int} {n : Nat} (hl : n = bs.length) (h : (bs.take n).find? (unHit firsts e p) = none) : unmovedF firsts bs e p = p := by
  subst hl
  rw [List.take_length] at h
  rw [unmovedF, h]; split <;> rfl
theorem un_next {h₀ h' : Heap} {L x : Addr} {s : Shared} {m' : Str → Option Value} {firsts : List Int} {bs : List (Int × Int)} {e p k b : Int} {tp : Tok} {news own : Led} {all : Led} {i tk : Nat}
    (F : Fr h₀ L h' m') (N : News h₀ L h' all) (hs : ∀ q ∈ own ++ news, q ∈ all) (h : (bs.take i).find? (unHit firsts e p) = none) (hq : bs[i]? = some (k, b)) (hc : unHit firsts e p (k, b) = false)
    (m2 : m' "self" = some (.ref x)) (m3 : m' "primary" = some (.int p tp)) : InvEnd h₀ L (UnJ firsts bs e p tp x (i + 1)) (own ++ news) s { s with heap := h', toks := tk } :=
  InvEnd.intro F N hs ⟨by rw [take_find h hq, if_neg (by rw [hc]; exact Bool.false_ne_true)], m2, m3⟩
end Mine
namespace Mine
section
variable {firsts : List Int} {e p k b : Int}
theorem uh_t1 (hk : k + 1 < (firsts.length : Int)) (c1 : firsts.getD k.toNat 0 ≤ firsts.getD k.toNat 0 + p - b) (c2 : firsts.getD k.toNat 0 + p - b < firsts.getD (k + 1).toNat 0) : unHit firsts e p (k, b) = true := by
  unfold unHit; rw [if_pos hk]; exact decide_eq_true ⟨c1, c2⟩
theorem uh_t2 (hk : ¬ k + 1 < (firsts.length : Int)) (c1 : firsts.getD k.toNat 0 ≤ firsts.getD k.toNat 0 + p - b) (c2 : firsts.getD k.toNat 0 + p - b < e) : unHit firsts e p (k, b) = true := by
  unfold unHit; rw [if_neg hk]; exact decide_eq_true ⟨c1, c2⟩
theorem uh_f0 (c1 : ¬ firsts.getD k.toNat 0 ≤ firsts.getD k.toNat 0 + p - b) : unHit firsts e p (k, b) = false := by
  unfold unHit; exact decide_eq_false fun h => c1 h.1
theorem uh_f1 (hk : k + 1 < (firsts.length : Int)) (c2 : ¬ firsts.getD k.toNat 0 + p - b < firsts.getD (k + 1).toNat 0) : unHit firsts e p (k, b) = false := by
  unfold unHit; rw [if_pos hk]; exact decide_eq_false fun h => c2 h.2
theorem uh_f2 (hk : ¬ k + 1 < (firsts.length : Int)) (c2 : ¬ firsts.getD k.toNat 0 + p - b < e) : unHit firsts e p (k, b) = false := by
  unfold unHit; rw [if_neg hk]; exact decide_eq_false fun h => c2 h.2
end
end Mine
namespace Mine
/-- tuples that begin with an int, each at its address -/
inductive Tups (tl : Led) : List Value → List Int → Prop
  | nil : Tups tl [] []
  | cons {a : Addr} {w : Int} {t : Tok} {r : List Value} {n : Nat} {refs : List Value} {ws : List Int} : (a, ({ cls := .type "tuple", data := .seq (Value.int w t :: r).toArray n } : Obj)) ∈ tl → Tups tl refs ws → Tups tl (.ref a :: refs) (w :: ws)
theorem Tups.mono {tl tl' : Led} {refs : List Value} {ws : List Int} (h : Tups tl refs ws) (hs : ∀ p ∈ tl, p ∈ tl') : Tups tl' refs ws := by
  induction h with
  | nil => exact .nil
  | cons hm _ ih => exact .cons (hs _ hm) ih
theorem Tups.snoc {tl tl' : Led} {a : Addr} {w : Int} {t : Tok} {r : List Value} {n : Nat} {refs : List Value} {ws : List Int} (h : Tups tl refs ws) (hs : ∀ p ∈ tl, p ∈ tl') (hm : (a, ({ cls := .type "tuple", data := .seq (Value.int w t :: r).toArray n } : Obj)) ∈ tl') :
    Tups tl' (refs ++ [.ref a]) (ws ++ [w]) := by
  induction h with
  | nil => exact .cons hm .nil
  | cons hm' _ ih => exact .cons (hs _ hm') ih
theorem Tups.length {tl : Led} {refs : List Value} {ws : List Int} (h : Tups tl refs ws) : refs.length = ws.length := by
  induction h with
  | nil => rfl
  | cons _ _ ih => simp [ih]
theorem Tups.get {tl : Led} {refs : List Value} {ws : List Int} (h : Tups tl refs ws) {k : Nat} (hk : k < ws.length) : ∃ a t r n, refs[k]? = some (.ref a) ∧ (a, ({ cls := .type "tuple", data := .seq (Value.int (ws.getD k 0) t :: r).toArray n } : Obj)) ∈ tl := by
  induction h generalizing k with
  | nil => exact absurd hk (Nat.not_lt_zero _)
  | cons hm _ ih =>
    cases k with
    | zero => exact ⟨_, _, _, _, rfl, hm⟩
    | succ k => exact ih (Nat.lt_of_succ_lt_succ hk)
def WeJ (prog : Program) (w : World) (aT aC aF : Addr) (high : Int) (th : Tok) (i : Nat) (m : Str → Option Value) (nx : Led) : Prop :=
  ∃ (oT : Obj) (vs : List Value) (n : Nat) (refs : List Value) (k : Nat) (subs : Led) (ws : List Int),
    nx = (aT, oT) :: (aC, listOf vs.toArray n) :: (aF, listOf refs.toArray k) :: subs ∧ TapeIs prog w oT aC vs ∧ Tups subs refs ws ∧ (∀ x ∈ ws, 0 ≤ x ∧ x < high + 3) ∧ ws.length = i ∧
    m "found" = some (.ref aF) ∧ m "tape" = some (.ref aT) ∧ m "high" = some (.int high th) ∧ (∀ p ∈ subs, p.1 ≠ aT) ∧ (∀ p ∈ subs, p.1 ≠ aC) ∧ (∀ p ∈ subs, p.1 ≠ aF)
theorem we_end {prog : Program} {w : World} {aT aC aF D L : Addr} {high x : Int} {th tx : Tok} {i n k tk c : Nat} {h₀ h' : Heap} {m' : Str → Option Value} {oT oT0 : Obj} {vs vs0 refs r : List Value} {n0 : Nat} {subs own : Led} {ws : List Int} {s₁ : Shared} {its : Array Value} {all : Led}
    (F : Fr h₀ L h' m') (N : News h₀ L h' all) (hsub : ∀ p ∈ (D, ({ cls := .type "tuple", data := .seq (Value.int x tx :: r).toArray c } : Obj)) :: (aT, oT) :: (aC, listOf vs.toArray n) :: (aF, listOf its (k + 1)) :: (subs ++ own), p ∈ all)
    (e : its = (refs ++ [Value.ref D]).toArray) (hT : TapeIs prog w oT aC vs) (hL : Tups subs refs ws) (hw : ∀ x ∈ ws, 0 ≤ x ∧ x < high + 3) (q1 : 0 ≤ x) (q2 : x < high + 3) (hlen : ws.length = i)
    (m1 : m' "found" = some (.ref aF)) (m2 : m' "tape" = some (.ref aT)) (m3 : m' "high" = some (.int high th)) (o1 : ∀ p ∈ subs, p.1 ≠ aT) (o2 : ∀ p ∈ subs, p.1 ≠ aC) (o3 : ∀ p ∈ subs, p.1 ≠ aF)
    (d1 : @Ne Nat D aT) (d2 : @Ne Nat D aC) (d3 : @Ne Nat D aF) (d4 : ∀ p ∈ own, p.1 ≠ D) (hoff : OwnOff own (((aT, oT0) :: (aC, listOf vs0.toArray n0) :: (aF, listOf refs.toArray k) :: subs).map (·.1))) :
    InvEndG h₀ L (WeJ prog w aT aC aF high th (i + 1)) own s₁ { s₁ with heap := h', toks := tk } := by
  subst e
  refine InvEndG.intro (nx := (aT, oT) :: (aC, listOf vs.toArray n) :: (aF, listOf (refs ++ [Value.ref D]).toArray (k + 1)) :: (D, ({ cls := .type "tuple", data := .seq (Value.int x tx :: r).toArray c } : Obj)) :: subs) F N
    ⟨oT, vs, n, _, _, _, _, rfl, hT, hL.snoc (fun _ h => .tail _ h) (.head _), ?_, by simp [hlen], m1, m2, m3, off_cons d1 o1, off_cons d2 o2, off_cons d3 o3⟩
    (own_ins3 hoff d4) (fun p hp => hsub p ?_) fun p hp => hsub p (.tail _ (.tail _ (.tail _ (.tail _ (List.mem_append_right _ hp)))))
  · intro y hy
    rcases List.mem_append.mp hy with hy | hy
    · exact hw y hy
    · rw [List.mem_singleton.mp hy]; exact ⟨q1, q2⟩
  · simp only [List.mem_cons, List.mem_append] at hp ⊢
    rcases hp with h | h | h | h | h <;> simp [h]
end Mine
namespace Mine
theorem ne_of_4 {A B C : Prop} {d : Addr} {l own : Led} (h : A ∧ B ∧ C ∧ AllLt d (l ++ own)) : ∀ p ∈ own, p.1 ≠ d := ne_of_allLt h.2.2.2 fun _ hp => List.mem_append_right _ hp
end Mine
namespace Mine
noncomputable def cmpF : List Int → List Int → Int
  | [], [] => 0
  | [], _ :: _ => -1
  | _ :: _, [] => 1
  | x :: xs, y :: ys => if x = y then cmpF xs ys else if x < y then -1 else 1
theorem cmpF_at : ∀ {i : Nat} {xs ys : List Int}, xs.take i = ys.take i → i < xs.length → i < ys.length → xs.getD i 0 ≠ ys.getD i 0 → cmpF xs ys = if xs.getD i 0 < ys.getD i 0 then -1 else 1
  | 0, x :: xs, y :: ys, _, _, _, hn => by simp at hn; simp [cmpF, hn]
  | i + 1, x :: xs, y :: ys, h, h1, h2, hn => by
    simp at h h1 h2 hn
    rw [cmpF, if_pos h.1]
    have := cmpF_at (i := i) (xs := xs) (ys := ys) h.2 h1 h2 (by simpa using hn)
    simpa using this
  | 0, [], _, _, h, _, _ => absurd h (Nat.not_lt_zero _)
  | 0, _ :: _, [], _, _, h, _ => absurd h (Nat.not_lt_zero _)
  | i + 1, [], _, _, h, _, _ => absurd h (Nat.not_lt_zero _)
  | i + 1, _ :: _, [], _, _, h, _ => absurd h (Nat.not_lt_zero _)
theorem cmpF_end : ∀ {xs ys : List Int}, xs.take (min xs.length ys.length) = ys.take (min xs.length ys.length) → cmpF xs ys = if xs.length = ys.length then 0 else if xs.length < ys.length then -1 else 1
  | [], [], _ => rfl
  | [], _ :: _, _ => by simp [cmpF]
  | _ :: _, [], _ => by simp [cmpF]
  | x :: xs, y :: ys, h => by
    simp only [List.length_cons, Nat.succ_min_succ, List.take_succ_cons, List.cons.injEq] at h
    rw [cmpF, if_pos h.1, cmpF_end h.2]
    simp
def CmpJ (xs ys : List Int) (aX aY : Addr) (i : Nat) (m : Str → Option Value) (nx : Led) : Prop :=
  nx = [] ∧ xs.take i = ys.take i ∧ m "one" = some (.ref aX) ∧ m "other" = some (.ref aY)
theorem cmp_next {xs ys : List Int} {aX aY L : Addr} {i tk : Nat} {h₀ h' : Heap} {m' : Str → Option Value} {own all : Led} {s₁ : Shared} (F : Fr h₀ L h' m') (N : News h₀ L h' all) (hs : ∀ p ∈ own, p ∈ all)
    (h : xs.take i = ys.take i) (h1 : i < xs.length) (h2 : i < ys.length) (e : xs.getD (0 + (i : Int)).toNat 0 = ys.getD (0 + (i : Int)).toNat 0) (m1 : m' "one" = some (.ref aX)) (m2 : m' "other" = some (.ref aY)) :
    InvEndG h₀ L (CmpJ xs ys aX aY (i + 1)) own s₁ { s₁ with heap := h', toks := tk } := by
  refine InvEndG.intro (nx := []) F N ⟨rfl, ?_, m1, m2⟩ (fun _ _ _ h => nomatch h) (List.forall_mem_nil _) hs
  rw [show (0 + (i : Int)).toNat = i by omega, List.getD_eq_getElem?_getD, List.getD_eq_getElem?_getD, List.getElem?_eq_getElem h1, List.getElem?_eq_getElem h2] at e
  rw [List.take_add_one, List.take_add_one, h, List.getElem?_eq_getElem h1, List.getElem?_eq_getElem h2]
  simp at e
  rw [e]
end Mine
namespace Mine
theorem cmp_lt {xs ys : List Int} {i : Nat} (h : xs.take i = ys.take i) (h1 : i < xs.length) (h2 : i < ys.length) (hn : xs.getD (0 + (i : Int)).toNat 0 ≠ ys.getD (0 + (i : Int)).toNat 0) (c : xs.getD (0 + (i : Int)).toNat 0 < ys.getD (0 + (i : Int)).toNat 0) : cmpF xs ys = -1 := by
  rw [show (0 + (i : Int)).toNat = i by omega] at hn c
  rw [cmpF_at h h1 h2 hn, if_pos c]
theorem cmp_gt {xs ys : List Int} {i : Nat} (h : xs.take i = ys.take i) (h1 : i < xs.length) (h2 : i < ys.length) (hn : xs.getD (0 + (i : Int)).toNat 0 ≠ ys.getD (0 + (i : Int)).toNat 0) (c : ¬ xs.getD (0 + (i : Int)).toNat 0 < ys.getD (0 + (i : Int)).toNat 0) : cmpF xs ys = 1 := by
  rw [show (0 + (i : Int)).toNat = i by omega] at hn c
  rw [cmpF_at h h1 h2 hn, if_neg c]
theorem cmp_min {xs ys : List Int} {n : Nat} (e : n = min xs.length ys.length) (h : xs.take n = ys.take n) : cmpF xs ys = if xs.length = ys.length then 0 else if xs.length < ys.length then -1 else 1 := by
  subst e; exact cmpF_end h
end Mine
namespace Mine
noncomputable abbrev optDict (P : Params) (t1 t2 t3 t4 t5 t6 t7 t8 ts : Tok) (y : Addr) : Obj :=
  dictOf [⟨PyData.keyHash P "factors", .str "factors" t1, .ref 22⟩, ⟨PyData.keyHash P "how", .str "how" t2, .str "shifted" 203⟩, ⟨PyData.keyHash P "strength", .str "strength" t3, .int 1 ts⟩,
    ⟨PyData.keyHash P "is_backwards", .str "is_backwards" t4, .bool false⟩, ⟨PyData.keyHash P "case_first", .str "case_first" t5, .str "" 205⟩, ⟨PyData.keyHash P "has_case_level", .str "has_case_level" t6, .bool false⟩,
    ⟨PyData.keyHash P "is_numeric", .str "is_numeric" t7, .bool false⟩, ⟨PyData.keyHash P "reorder", .str "reorder" t8, .ref y⟩] 8
end Mine
namespace Mine
/-- what collkey_first hands back -/
noncomputable def firstF (firsts : List Int) (bs : List (Int × Int)) (e : Int) (ws : List Int) : List Int := (ws.filter fun x => decide (x ≠ 0)).map (movedF firsts bs e)
end Mine
namespace Mine
open LCg LCt in
/-- a comprehension with a test by a word over its whole state -/
theorem comp_restT {prog : Program} {w : World} {A : Around} {s : Shared} {h₀ : Heap} {L : Addr} {m : Str → Option Value} {env : Env} {ct elt : Expr} {x : Str} {scope : Scope} {cl : List (Str × Addr)} {S : Led → Prop} {P : Nat → Value → Prop} {Fin : List Value → Led → Prop}
    (J : Nat → List Value → Led → Prop) (n : Nat)
    (step : ∀ i ys news, i < n → J i ys news → ∀ v I oI C oC D m₂ h tk (E' : Value → Shared → Prop), P i v → NsObj oC m₂ → m₂ x = some v → Fr h₀ L h m → News h₀ L h ((I, oI) :: (C, oC) :: (D, lst ys) :: news) → Off3 I C D news → ((@Ne Nat I C) ∧ (@Ne Nat I D) ∧ (@Ne Nat C D)) →
      wpAny (model prog w) A (isTrue ct (compEnvC scope cl C env) (eval ct (compEnvC scope cl C env))) (fun ok s' => if ok = true then
        wpAny (model prog w) A (eval elt (compEnvC scope cl C env)) (CompEnd h₀ L m { s with heap := h, toks := tk } I oI C oC D (lst ys) S (fun y news' => J (i + 1) (ys ++ [y]) news')) E' s'
        else CompEnd h₀ L m { s with heap := h, toks := tk } I oI C oC D (lst ys) S (fun _ news' => J (i + 1) ys news') Value.none s') E' { s with heap := h, toks := tk })
    (fin : ∀ ys news, J n ys news → Fin ys news) :
    ∀ k i ys news, i + k = n → J i ys news → CompRestT prog w A h₀ L m env ct elt x scope cl s S P Fin k i ys news := by
  intro k
  induction k with
  | zero => intro i ys news e hj; obtain rfl : i = n := by omega
            exact CompRestT.zero (fin ys news hj)
  | succ k ih =>
    intro i ys news e hj
    refine CompRestT.succ fun v I oI C oC D m₂ h tk E' hv hC hx F N off ne => ?_
    refine wpAny_mono (step i ys news (by omega) hj v I oI C oC D m₂ h tk E' hv hC hx F N off ne) (fun ok s₂ he => ?_) fun _ _ e => e
    cases ok with
    | true =>
      simp only [if_true] at he ⊢
      refine wpAny_mono he (fun y s₃ he => ?_) fun _ _ e => e
      obtain ⟨h', tk', news', e', F', N', o', hS, hJ⟩ := he
      exact ⟨h', tk', news', e', F', N', o', hS, ih (i + 1) _ _ (by omega) hJ⟩
    | false =>
      simp only [Bool.false_eq_true, if_false] at he ⊢
      obtain ⟨h', tk', news', e', F', N', o', hS, hJ⟩ := he
      exact ⟨h', tk', news', e', F', N', o', hS, ih (i + 1) _ _ (by omega) hJ⟩
noncomputable abbrev tup1 (w : Int) (t : Tok) (r : List Value) (n : Nat) : Obj := { cls := .type "tuple", data := .seq (Value.int w t :: r).toArray n }
theorem tup_ground {prog : Program} {w : World} {A : Around} {E : Value → Shared → Prop} {s : Shared} {g : Heap} {L : Addr} {m : Str → Option Value} {value slice : PySem.Expr} {a : Addr} {x : Int} {t u : Tok} {r : List Value} {n : Nat} {Q : Value → Shared → Prop}
    (F : Fr g L s.heap m) (ht : g.get? a = some (tup1 x t r n)) (h : Q (.int x t) s)
    (hs : subscripted slice false (.ref a) (.int 0 u) = operate [.ref a, .int 0 u] (getItem (.ref a) (.int 0 u))) :
    wpAny (model prog w) A (subscriptTail value slice (.ref a) (.int 0 u)) Q E s :=
  item_tupleT (l := Value.int x t :: r) (j := 0) ⟨_, F.keep _ _ ht, rfl, n, rfl⟩ (by decide) (by decide) (by simp [seqIndex?]) rfl h hs
end Mine
namespace Mine
def FirJ (ws : List Int) (V : Led) (i : Nat) (ys : List Value) (news : Led) : Prop := news = V ∧ IntsAre ys ((ws.take i).filter fun x => decide (x ≠ 0))
def MapJ (f : Int → Int) (xs : List Int) (V : Led) (i : Nat) (ys : List Value) (news : Led) : Prop := news = V ∧ IntsAre ys ((xs.take i).map f)
theorem FirJ.yes {ws : List Int} {V : Led} {i : Nat} {ys : List Value} {x : Int} {t : Tok} (h : IntsAre ys ((ws.take i).filter fun x => decide (x ≠ 0))) (hx : ws[i]? = some x) (h0 : x ≠ 0) : FirJ ws V (i + 1) (ys ++ [.int x t]) V := by
  refine ⟨rfl, ?_⟩
  rw [List.take_add_one, hx, List.filter_append]
  simp only [Option.toList_some, List.filter_cons, decide_eq_true h0, if_true, List.filter_nil]
  exact h.append (.cons x t .nil)
theorem FirJ.no {ws : List Int} {V : Led} {i : Nat} {ys : List Value} {x : Int} (h : IntsAre ys ((ws.take i).filter fun x => decide (x ≠ 0))) (hx : ws[i]? = some x) (h0 : x = 0) : FirJ ws V (i + 1) ys V := by
  refine ⟨rfl, ?_⟩
  rw [List.take_add_one, hx, List.filter_append]
  simpa [h0] using h
theorem MapJ.snoc {f : Int → Int} {xs : List Int} {V : Led} {i : Nat} {ys : List Value} {x : Int} {t : Tok} (h : IntsAre ys ((xs.take i).map f)) (hx : xs[i]? = some x) : MapJ f xs V (i + 1) (ys ++ [.int (f x) t]) V := by
  refine ⟨rfl, ?_⟩
  rw [List.take_add_one, hx, List.map_append]
  exact h.append (.cons (f x) t .nil)
theorem Tups.at {tl : Led} {refs : List Value} {ws : List Int} (h : Tups tl refs ws) {i : Nat} {v : Value} (hv : refs.toArray[i]? = some v) : ∃ a x t r n, v = .ref a ∧ ws[i]? = some x ∧ (a, tup1 x t r n) ∈ tl := by
  rw [List.getElem?_toArray] at hv
  have hi : i < ws.length := by rw [← h.length]; exact (List.getElem?_eq_some_iff.mp hv).1
  obtain ⟨a, t, r, n, e, hm⟩ := h.get hi
  rw [e] at hv
  exact ⟨a, _, t, r, n, (Option.some.inj hv).symm, by rw [List.getElem?_eq_getElem hi, List.getD_eq_getElem?_getD, List.getElem?_eq_getElem hi]; rfl, hm⟩
theorem ia_at {vs : List Value} {xs : List Int} (h : IntsAre vs xs) {i : Nat} {v : Value} (hv : vs.toArray[i]? = some v) : ∃ x t, v = .int x t ∧ xs[i]? = some x := by
  rw [List.getElem?_toArray] at hv
  have hi : i < xs.length := by rw [← h.length]; exact (List.getElem?_eq_some_iff.mp hv).1
  obtain ⟨t, hx⟩ := h.get i (xs[i]'hi) (List.getElem?_eq_getElem hi)
  rw [hx] at hv
  exact ⟨_, t, (Option.some.inj hv).symm, List.getElem?_eq_getElem hi⟩
end Mine
namespace Mine
theorem firstF_of {firsts : List Int} {bs : List (Int × Int)} {e : Int} {ws : List Int} {refs ys ys2 : List Value} (hl : refs.length = ws.length) (hI : IntsAre ys ((ws.take refs.toArray.size).filter fun x => decide (x ≠ 0)))
    (hJ : IntsAre ys2 ((((ws.take refs.toArray.size).filter fun x => decide (x ≠ 0)).take ys.toArray.size).map (movedF firsts bs e))) : IntsAre ys2 (firstF firsts bs e ws) := by
  have e1 : ys.toArray.size = ((ws.take refs.toArray.size).filter fun x => decide (x ≠ 0)).length := by rw [List.size_toArray, hI.length]
  rw [e1, List.take_length, List.size_toArray, hl, List.take_length] at hJ
  exact hJ
end Mine
namespace Mine
/-- an empty list extended by a made one -/
theorem ext0 {prog : Program} {w : World} {A : Around} {E : Value → Shared → Prop} {s : Shared} {h₀ : Heap} {L D b : Addr} {m : Str → Option Value} {news news' : Led} {rv : List Value} {n n2 : Nat} {Q : Value → Shared → Prop}
    (F : Fr h₀ L s.heap m) (N : News h₀ L s.heap news) (hb : (b, listOf rv.toArray n2) ∈ news) (hz : rv.length ≤ 100)
    (U : Upd D (listOf #[] n) (listOf rv.toArray (if rv.length = 0 then n else n + 1)) news news')
    (h : ∀ h', Fr h₀ L h' m → News h₀ L h' news' → Q .none { s with heap := h' }) : wpAny (model prog w) A (call (.builtin "list.extend") [.ref D, .ref b]) Q E s := by
  have hs : sizeLine = 16777216 := by rw [sizeLine_eq]
  by_cases e : rv.length = 0
  · rw [if_pos e] at U
    have e1 : rv = [] := List.eq_nil_of_length_eq_zero e
    subst e1
    exact kxn_extend (its := #[]) F N hb rfl U (by decide) (by simp) (by simp [hs]) h
  · rw [if_neg e] at U
    exact kl_extend (its := #[]) (l := rv) F N hb (by simp) (by simpa using e) U (by simp) (by simp) (by simp [hs]; omega) h
end Mine
namespace Mine
theorem firstF_len {firsts : List Int} {bs : List (Int × Int)} {e : Int} {ws : List Int} (h : ws.length ≤ 6) : (firstF firsts bs e ws).length ≤ 100 := by
  rw [firstF, List.length_map]
  exact Nat.le_trans (List.length_filter_le _ _) (by omega)
theorem firstF_len' {firsts : List Int} {bs : List (Int × Int)} {e : Int} {ws : List Int} {rv : List Value} (h : IntsAre rv (firstF firsts bs e ws)) (h6 : ws.length ≤ 6) : rv.length ≤ 100 := by
  rw [h.length]; exact firstF_len h6
end Mine
namespace Mine
theorem Lots.at' {tl : Led} {refs : List Value} {lots : List (List Int)} (h : Lots tl refs lots) {i : Nat} {v : Value} (hv : refs.toArray[i]? = some v) : ∃ a vs n l, v = .ref a ∧ lots[i]? = some l ∧ (a, listOf vs.toArray n) ∈ tl ∧ IntsAre vs l := by
  rw [List.getElem?_toArray] at hv
  have hi : i < lots.length := by rw [← h.length]; exact (List.getElem?_eq_some_iff.mp hv).1
  obtain ⟨a, vs, n, e, hm, hI⟩ := h.get hi
  rw [e] at hv
  refine ⟨a, vs, n, _, (Option.some.inj hv).symm, List.getElem?_eq_getElem hi, hm, ?_⟩
  rwa [List.getD_eq_getElem?_getD, List.getElem?_eq_getElem hi] at hI
def FstJ (lots : List (List Int)) (V : Led) (i : Nat) (ys : List Value) (news : Led) : Prop := news = V ∧ IntsAre ys ((lots.take i).map fun l => l.getD 0 0)
theorem FstJ.snoc {lots : List (List Int)} {V : Led} {i : Nat} {ys : List Value} {l : List Int} {t : Tok} (h : IntsAre ys ((lots.take i).map fun l => l.getD 0 0)) (hx : lots[i]? = some l) : FstJ lots V (i + 1) (ys ++ [.int (l.getD 0 0) t]) V := by
  refine ⟨rfl, ?_⟩
  rw [List.take_add_one, hx, List.map_append]
  exact h.append (.cons _ t .nil)
theorem LotsOk.all {a₀ a : Int} {l : List (List Int)} (h : LotsOk a₀ l a) : ∀ x ∈ l, 1 ≤ x.length ∧ x.length ≤ 6 := by
  induction h with
  | nil => exact List.forall_mem_nil _
  | snoc _ h1 h2 ih =>
    intro x hx
    rcases List.mem_append.mp hx with hx | hx
    · exact ih x hx
    · rw [List.mem_singleton.mp hx, rangeKs_length]; exact ⟨h1, h2⟩
end Mine
namespace Mine
theorem head_at {vs : List Value} {l : List Int} (h : IntsAre vs l) (h1 : 1 ≤ l.length) : ∃ t, vs[(0 : Int).toNat]? = some (.int (l.getD 0 0) t) := by
  cases h with
  | nil => exact absurd h1 (by decide)
  | cons n t r => exact ⟨t, rfl⟩
end Mine
namespace Mine
theorem Off1.all {D : Addr} : ∀ {l : Led}, LCg.Off1 D l → ∀ p ∈ l, @Ne Nat p.1 D
  | [], _ => List.forall_mem_nil _
  | p :: r, h => List.forall_mem_cons.mpr ⟨h.1, Off1.all (l := r) h.2⟩
theorem Off3.all {I C D : Addr} {l : Led} (h : LCg.Off3 I C D l) : (∀ p ∈ l, @Ne Nat p.1 I) ∧ (∀ p ∈ l, @Ne Nat p.1 C) ∧ (∀ p ∈ l, @Ne Nat p.1 D) :=
  ⟨fun p hp => (h.mem p hp).1, fun p hp => (h.mem p hp).2.1, fun p hp => (h.mem p hp).2.2⟩
noncomputable def firstsOf (lots : List (List Int)) : List Int := lots.map fun l => l.getD 0 0
theorem firstsOf_len (lots : List (List Int)) : (firstsOf lots).length = lots.length := List.length_map _
theorem fst_of {lots : List (List Int)} {refs ys : List Value} (hl : refs.length = lots.length) (h : IntsAre ys ((lots.take refs.toArray.size).map fun l => l.getD 0 0)) : IntsAre ys (firstsOf lots) := by
  rwa [List.size_toArray, hl, List.take_length] at h
end Mine
namespace Mine
theorem all_cat {P : Addr × Obj → Prop} {a b : Led} (h : ∀ p ∈ a, P p) (k : ∀ p ∈ b, P p) : ∀ p ∈ a ++ b, P p := fun p hp => (List.mem_append.mp hp).elim (h p) (k p)
theorem all_c {P : Addr × Obj → Prop} {x : Addr × Obj} {b : Led} (h : P x) (k : ∀ p ∈ b, P p) : ∀ p ∈ x :: b, P p := List.forall_mem_cons.mpr ⟨h, k⟩
end Mine
namespace Mine
theorem with_cells {G : Prop} {h₀ h : Heap} {L c1 c2 : Addr} {news r1 r2 : Led} (oA oB : Obj) (N : News h₀ L h news) (P1 : Pull c2 oB news r1) (P2 : Pull c1 oA r1 r2) (h1 : ∀ p ∈ r2, @Ne Nat p.1 c1) (h2 : ∀ p ∈ r2, @Ne Nat p.1 c2) 
    (k : News h₀ L h ((c1, oA) :: (c2, oB) :: r2) → (∀ p ∈ r2, @Ne Nat p.1 c1) → (∀ p ∈ r2, @Ne Nat p.1 c2) → G) : G :=
  k (news_sub (news_sub N (P1.two P2)) (by
    intro p hp
    simp only [List.mem_cons] at hp ⊢
    rcases hp with h | h | h <;> simp [h])) h1 h2
end Mine
namespace Mine
theorem with_loop {G : Prop} {h₀ h : Heap} {L aM aT aC : Addr} {oM oT oC : Obj} {news : Led} (V : Led) (N : News h₀ L h news) (hs : ∀ p ∈ (aM, oM) :: (aT, oT) :: (aC, oC) :: V, p ∈ news) (h1 : ∀ p ∈ V, @Ne Nat p.1 aM) (h2 : ∀ p ∈ V, @Ne Nat p.1 aT) (h3 : ∀ p ∈ V, @Ne Nat p.1 aC)
    (k : News h₀ L h ((aM, oM) :: (aT, oT) :: (aC, oC) :: V) → (∀ p ∈ V, @Ne Nat p.1 aM) → (∀ p ∈ V, @Ne Nat p.1 aT) → (∀ p ∈ V, @Ne Nat p.1 aC) → G) : G := k (news_sub N hs) h1 h2 h3
end Mine
namespace Mine
theorem ints_kf {vs : List Value} {xs : List Int} (h : IntsAre vs xs) : kf_ints vs = true := by
  induction h with
  | nil => rfl
  | cons _ _ _ ih => exact ih
theorem ints_at {vs : List Value} {xs : List Int} (h : IntsAre vs xs) {k : Int} (hk : k ∈ xs) : kf_at k vs = some (xs.idxOf k) := by
  induction h with
  | nil => cases hk
  | cons n t _ ih =>
    unfold kf_at
    by_cases e : n = k
    · subst e
      simp [isInt, List.idxOf_cons]
    · have hk' := (List.mem_cons.mp hk).resolve_left (fun h => e h.symm)
      have e1 : isInt k (.int n t) = false := by simp [isInt, e]
      rw [e1, ih hk']
      have e2 : (n == k) = false := by simpa using e
      simp [List.idxOf_cons, e2]
theorem index_ints {prog : Program} {w : World} {A : Around} {E : Value → Shared → Prop} {s : Shared} {h₀ : Heap} {L D : Addr} {news : Led} {vs : List Value} {xs : List Int} {n : Nat} {k : Int} {t : Tok} {Q : Value → Shared → Prop}
    (N : News h₀ L s.heap news) (hm : (D, listOf vs.toArray n) ∈ news) (hI : IntsAre vs xs) (hk : k ∈ xs) (hz : xs.length ≤ 1000) (h : Q (.int (xs.idxOf k : Nat) s.toks) { s with toks := s.toks + 1 }) :
    wpAny (model prog w) A (call (.builtin "list.index") [.ref D, .int k t]) Q E s :=
  kf_index (j := xs.idxOf k) N hm (by simpa using ints_kf hI) (by simpa using ints_at hI hk) rfl (by rw [sizeLine_eq]; simp only [List.toList_toArray, hI.length]; omega) h
noncomputable def fsIs (f : Int → Int) (i : Nat) : List (Int × Int) := (List.range i).map fun k => (Int.ofNat k, f (Int.ofNat k))
theorem fsIs_none {f : Int → Int} {kvs : List (Int × Value)} {i : Nat} (h : PairsAre kvs (fsIs f i)) : valueAt kvs (0 + (i : Int)) = none := by
  apply valueAt_none_of_not_mem
  rw [h.keys]
  intro hm
  simp only [fsIs, List.map_map, List.mem_map, List.mem_range, Function.comp_apply] at hm
  obtain ⟨j, hj, e⟩ := hm
  simp at e
  omega
theorem fsIs_snoc {f : Int → Int} {kvs : List (Int × Value)} {i : Nat} {t : Tok} (h : PairsAre kvs (fsIs f i)) : PairsAre (kvs ++ [(0 + (i : Int), .int (f (0 + (i : Int))) t)]) (fsIs f (i + 1)) := by
  have := h.snoc (0 + (i : Int)) (f (0 + (i : Int))) t
  rw [fsIs, List.range_succ, List.map_append]
  simpa [fsIs] using this
theorem valueAt_last {kvs : List (Int × Value)} {k : Int} {v : Value} (h : valueAt kvs k = none) : valueAt (kvs ++ [(k, v)]) k = some v := by
  unfold valueAt at h ⊢
  rw [List.find?_append]
  have : kvs.find? (fun p => decide (p.1 = k)) = none := by simpa using h
  rw [this]
  simp
end Mine
namespace Mine
theorem stored_is {prog : Program} {w : World} {o : Obj} {kvs : List (Int × Value)} {k b c : Int} {t : Tok} (h : o.IsDictOf (intKind prog w) (stored kvs k (.int b t))) (hn : valueAt kvs k = none) (e : b = c) : o.IsDictOf (intKind prog w) (kvs ++ [(k, .int c t)]) := by
  rw [stored_absent hn, e] at h; exact h
theorem stored_both {prog : Program} {w : World} {o : Obj} {kvs : List (Int × Value)} {k b c : Int} {t : Tok} (h : o.IsDictOf (intKind prog w) (stored kvs k (.int b t))) (hn : valueAt kvs k = none) (e : b = c) :
    o.IsDictOf (intKind prog w) (kvs ++ [(k, .int c t)]) ∧ valueAt (kvs ++ [(k, .int c t)]) k = some (.int c t) := ⟨stored_is h hn e, valueAt_last hn⟩
end Mine
namespace Mine
theorem ne_same {prog : Program} {w : World} {A : Around} {E : Value → Shared → Prop} {s : Shared} {a : Int} {t u : Tok} {Q : Value → Shared → Prop} (h : Q (.bool false) s) : wpAny (model prog w) A (compareOp .NotEq (.int a t) (.int a u)) Q E s :=
  PyProof.Rows.ne_int (by rw [bne_self_eq_false]; exact h)
/-- the end of a turn of the law's loop -/
theorem law_end {prog : Program} {w : World} {f : Int → Int} {aM L : Addr} {h₀ h' : Heap} {m' : Str → Option Value} {V own all : Led} {v1 v2 v3 v4 v5 v6 : Value} {i tk : Nat} {oM' oM : Obj} {kvs : List (Int × Value)} {s₁ : Shared}
    (F : Fr h₀ L h' m') (N : News h₀ L h' all) (hs : ∀ p ∈ (aM, oM') :: (V ++ own), p ∈ all) (hD : oM'.IsDictOf (intKind prog w) kvs) (hP : PairsAre kvs (fsIs f (i + 1)))
    (m1 : m' "tape" = some v1) (m2 : m' "end" = some v2) (m3 : m' "told" = some v3) (m4 : m' "order" = some v4) (m5 : m' "firsts" = some v5) (m6 : m' "row" = some v6) (hoff : OwnOff own (((aM, oM) :: V).map (·.1))) :
    InvEndG h₀ L (fun m nx => ∃ oM kvs, nx = (aM, oM) :: V ∧ oM.IsDictOf (intKind prog w) kvs ∧ PairsAre kvs (fsIs f (i + 1)) ∧ m "tape" = some v1 ∧ m "end" = some v2 ∧ m "told" = some v3 ∧ m "order" = some v4 ∧ m "firsts" = some v5 ∧ m "row" = some v6) own s₁ { s₁ with heap := h', toks := tk } := by
  refine InvEndG.intro (nx := (aM, oM') :: V) F N ⟨oM', kvs, rfl, hD, hP, m1, m2, m3, m4, m5, m6⟩ hoff (fun p hp => hs p ?_) (fun p hp => hs p (.tail _ (List.mem_append_right _ hp)))
  rcases List.mem_cons.mp hp with rfl | hp
  · exact .head _
  · exact .tail _ (List.mem_append_left _ hp)
open PySem.Calls LCg
section
variable {prog : Program} {w : World} {A : Around} {E : Value → Shared → Prop} {s : Shared} {h₀ : Heap} {L : Addr} {m : Str → Option Value} {env : Env}
/-- what a comprehension over a dict's keys asks -/
def SrcK (prog : Program) (w : World) (A : Around) (h₀ : Heap) (L : Addr) (m : Str → Option Value) (env : Env) (elt : Expr) (x : Str) (scope : Scope) (cl : List (Str × Addr)) (Fin : Shared → List Value → Led → Prop) (xv : Value) (s₁ : Shared) : Prop :=
  ∃ d oB kvs news, xv = .ref d ∧ A.handled = none ∧ Fr h₀ L s₁.heap m ∧ News h₀ L s₁.heap news ∧ (d, oB) ∈ news ∧ oB.IsDictOf (intKind prog w) kvs ∧ (d == sysModules) = false ∧ kvs.length ≤ sizeLine ∧
    ∀ s₂ : Shared, (∃ h, s₂ = { s₁ with heap := h }) → CompRest prog w A h₀ L m env elt x scope cl s₂ (fun nw => (d, oB) ∈ nw) (fun i v => ∃ k t, (kvs.map (·.1))[i]? = some k ∧ v = .int k t) (Fin s₂) kvs.length 0 [] news
theorem SrcK.intro {elt : Expr} {x : Str} {scope : Scope} {cl : List (Str × Addr)} {Fin : Shared → List Value → Led → Prop} {d : Addr} {oB : Obj} {kvs : List (Int × Value)} {news : Led} {s₁ : Shared}
    (hh : A.handled = none) (F : Fr h₀ L s₁.heap m) (N : News h₀ L s₁.heap news) (hm : (d, oB) ∈ news) (hD : oB.IsDictOf (intKind prog w) kvs) (lo : (d == sysModules) = false) (hsz : kvs.length ≤ sizeLine)
    (h : ∀ g, CompRest prog w A h₀ L m env elt x scope cl { s₁ with heap := g } (fun nw => (d, oB) ∈ nw) (fun i v => ∃ k t, (kvs.map (·.1))[i]? = some k ∧ v = .int k t) (Fin { s₁ with heap := g }) kvs.length 0 [] news) :
    SrcK prog w A h₀ L m env elt x scope cl Fin (.ref d) s₁ := ⟨d, oB, kvs, news, rfl, hh, F, N, hm, hD, lo, hsz, fun _ ⟨g, e⟩ => e ▸ h g⟩
theorem ListComp_K {elt iter : Expr} {x : Str} {px : Pos} {scope : Scope} {cl : List (Str × Addr)} {pos : Pos} {Q : Value → Shared → Prop} (F₀ : Fr h₀ L s.heap m)
    (hclos : closureFor scope env = pure cl) (hcell : ∀ y ∈ scope.names, y.2 ≠ .cell) (hkind : scope.kind = .function)
    (hnames : ∀ y ∈ scope.names, y.2 = .local → scope.names.lookup y.1 = some .local) (hx : scope.names.lookup x = some .local)
    (h : wpAny (model prog w) A (eval iter env) (SrcK prog w A h₀ L m env elt x scope cl (fun s₂ => FinE h₀ L m s₂ Q)) E s)
    (hs : ∀ x, foldedSetIterable iter env x = pure x) :
    wpAny (model prog w) A (eval (.ListComp elt [⟨.Name x px, iter, [], 0⟩] scope pos) env) Q E s := by
  rw [eval_ListComp]
  refine wpAny_comprehension_free (use := none) rfl hs hclos hkind hnames (wpAny_mono h (fun xv s₁ h₁ => ?_) fun _ _ e => e)
  obtain ⟨d, oB, kvs, news, rfl, hh, F, N, hm, hD, lo, hsz, R⟩ := h₁
  obtain ⟨ep, ha⟩ := KdkAt.of hD
  have hat : s₁.heap.DictAt (intKind prog w) d kvs ep := ha.dictAt (N _ hm).1
  have hlt : d < s₁.heap.objs.size := hat.lt_size
  have hne : d ≠ s₁.heap.objs.size := Nat.ne_of_lt hlt
  refine wpAny_pyIter_dict lo hat ?_
  have up : ∀ b o, s₁.heap.get? b = some o → (s₁.heap.push { cls := .type "dict_keyiterator", data := .fields #[.ref d, .int 0 0, .int kvs.length 0, .int ep 0] }).get? b = some o := fun b o e => Heap.get?_push_of_some _ e
  have W := Walks.dictKeys (prog := prog) (w := w) (A := A) (knd := intKind prog w) hh s₁.heap.objs.size d hne kvs ep
  have W' : Walks prog w A s₁.heap.objs.size [s₁.heap.objs.size, d] [s₁.heap.objs.size] kvs.length (fun i v => ∃ k t, (kvs.map (·.1))[i]? = some k ∧ v = .int k t) (fun i h => h.IsKeyIter s₁.heap.objs.size d i kvs.length ep ∧ h.DictAt (intKind prog w) d kvs ep) :=
    { sub := W.sub, frame := W.frame, done := W.done, self := W.self,
      item := fun i s Q E hi st hQ => W.item i s Q E hi st fun v h' tk hP => hQ v h' tk (by
        obtain ⟨k, xv, hx, hk⟩ := hP
        obtain ⟨t, ev⟩ := Value.isInt_shape hk
        exact ⟨k, t, by simp [hx], ev⟩) }
  refine block_U (S := fun nw => (d, oB) ∈ nw) W' hsz (fun i h st => by obtain ⟨o, e, _⟩ := st.1; exact ⟨o, e⟩) (fun i h h' o nw st e e' k N' S => ⟨?_, ha.dictAt (N' _ S).1⟩) hcell hkind hx ⟨⟨_, Heap.get?_push_size _ rfl, rfl, rfl⟩, hat.push _⟩ (fun b hb => ?_)
    (F.keeps up) (N.grown up) (Nat.ne_of_lt F.ns.lt) (next_is_new F) (fun p hp => Nat.ne_of_lt (Heap.lt_size (N p hp).1)) hm (R _ ⟨_, rfl⟩) ?_
  · obtain ⟨o', q, r⟩ := st.1; rw [e] at q; cases q; exact ⟨o, e', r⟩
  · show b < (s₁.heap.push _).objs.size
    rw [Heap.size_push]
    rcases List.mem_cons.mp hb with rfl | hb
    · exact Nat.lt_succ_self _
    · rw [List.mem_singleton.mp hb]; exact Nat.lt_succ_of_lt hlt
  · intro D C h tk m' ys news' F' N' o1 hn hC₀ hD₀ hCL hDL hCD offC fin
    refine ⟨m', hn, fun h'' hs'' => fin D h'' tk (F'.change hs'' hCL hC₀) (fun p hp => ?_) o1⟩
    refine ⟨hs''.extBut _ _ ?_ (N' p hp).1, (N' p hp).2⟩
    rcases List.mem_cons.mp hp with rfl | hp
    · exact Ne.symm hCD
    · exact offC p hp
end
end Mine
namespace Mine
theorem ints_of : ∀ {vs : List Value} {kvs : List (Int × Value)}, vs.length = kvs.length → (∀ (j : Nat) (v : Value), vs[j]? = some v → ∃ (k : Int) (t : Tok), (kvs.map (·.1))[j]? = some k ∧ v = Value.int k t) → IntsAre vs (kvs.map (·.1))
  | [], [], _, _ => .nil
  | [], _ :: _, h, _ => by cases h
  | _ :: _, [], h, _ => by cases h
  | v :: vs, p :: r, h, hv => by
    obtain ⟨k, t, e, rfl⟩ := hv 0 v rfl
    simp at e
    subst e
    exact .cons _ t (ints_of (kvs := r) (by simpa using h) fun j v hj => by simpa using hv (j + 1) v (by simpa using hj))
section
variable {prog : Program} {w : World} {A : Around} {E : Value → Shared → Prop} {s : Shared} {h₀ : Heap} {L D : Addr} {m : Str → Option Value} {news : Led}
theorem lsort_head {vs : List Value} {ns : List Int} {n : Nat} {Q : Value → Shared → Prop} (F : Fr h₀ L s.heap m) (N : News h₀ L s.heap ((D, listOf vs.toArray n) :: news)) (l1 : ∀ q ∈ news, q.1 < D) (hI : IntsAre vs ns) (h64 : vs.length < 64)
    (h : ∀ vs' ns' e h', Fr h₀ L h' m → News h₀ L h' ((D, listOf vs'.toArray e) :: news) → IntsAre vs' ns' → ns'.Perm ns → ns'.Pairwise (· ≤ ·) → Q .none { s with heap := h' }) :
    wpAny (model prog w) A (call (.builtin "list.sort") [.ref D]) Q E s := by
  have z := N _ (.head _)
  have ho : s.heap.get? D = some (seqObj "list" vs.toArray n) := z.1
  refine wpAny_call_entry PyProof.Rows.slot_list_sort ⟨_, z.1, rfl⟩ PyProof.Rows.entry_list_sort (list_sort_tree (n := n) (vs := vs) ho hI h64 fun out ns' hI' hp hP => ⟨.none, rfl, ?_⟩) (PyProof.Rows.args_list_sort _)
  obtain ⟨e, he⟩ := sortedHeap_at (vs := vs) (out := out) ho
  have old : ∀ b o, b ≠ D → s.heap.get? b = some o → (sortedHeap s.heap D vs out).get? b = some o := fun b o hb hh => by rw [sortedHeap_old hb (Heap.lt_size hh)]; exact hh
  refine h out.toList ns' e _ ⟨F.ns.at' fun o hh => old L o (Ne.symm z.2.1) hh, fun b o hh => old b o (fun q => ?_) (F.keep b o hh), F.above⟩ (fun p hp => ?_) hI' hp hP
  · rw [q, z.2.2] at hh; cases hh
  · rcases List.mem_cons.mp hp with rfl | hp
    · exact ⟨by simpa using he, z.2⟩
    · have y := N p (.tail _ hp)
      exact ⟨old _ _ (Nat.ne_of_lt (l1 p hp)) y.1, y.2⟩
theorem sorted_dict {d : Addr} {oB : Obj} {kvs : List (Int × Value)} {Q : Value → Shared → Prop} (hh : A.handled = none) (F : Fr h₀ L s.heap m) (N : News h₀ L s.heap news) (hm : (d, oB) ∈ news) (hD : oB.IsDictOf (intKind prog w) kvs) (lo : (d == sysModules) = false) (h64 : kvs.length < 64)
    (h : ∀ D vs' ns' e h' tk, Fr h₀ L h' m → News h₀ L h' ((D, listOf vs'.toArray e) :: news) → (∀ q ∈ news, q.1 < D) → IntsAre vs' ns' → ns'.Perm (kvs.map (·.1)) → ns'.Pairwise (· ≤ ·) → Q (.ref D) { s with heap := h', toks := tk }) :
    wpAny (model prog w) A (call (.builtin "sorted") [.ref d]) Q E s := by
  obtain ⟨ep, ha⟩ := KdkAt.of hD
  have hat : s.heap.DictAt (intKind prog w) d kvs ep := ha.dictAt (N _ hm).1
  refine kdu_sorted (kdl_dict (knd := intKind prog w) (kvs := kvs) (ep := ep) lo) hh F N hat (by rw [sizeLine_eq]; omega) fun D h' tk vs F' N' l1 hl hv => ?_
  have hI : IntsAre vs (kvs.map (·.1)) := ints_of hl fun j v hj => by
    obtain ⟨k, x, hx, hk⟩ := hv j v hj
    obtain ⟨t, ev⟩ := Value.isInt_shape hk
    exact ⟨k, t, by simp [hx], ev⟩
  exact lsort_head F' N' l1 hI (by omega) fun vs' ns' e h'' F'' N'' a b c => h D vs' ns' e h'' tk F'' N'' l1 a b c
end
end Mine
namespace Mine
open PySem.Calls LCg
section
variable {prog : Program} {w : World} {A : Around} {E : Value → Shared → Prop} {s : Shared} {h₀ : Heap} {L : Addr} {m : Str → Option Value} {env : Env}
/-- what a comprehension over a made tuple asks -/
def SrcTu (prog : Program) (w : World) (A : Around) (h₀ : Heap) (L : Addr) (m : Str → Option Value) (env : Env) (elt : Expr) (x : Str) (scope : Scope) (cl : List (Str × Addr)) (Fin : Shared → List Value → Led → Prop) (xv : Value) (s₁ : Shared) : Prop :=
  ∃ ax its n news, xv = .ref ax ∧ A.handled = none ∧ Fr h₀ L s₁.heap m ∧ News h₀ L s₁.heap news ∧ (ax, ({ cls := .type "tuple", data := .seq its n } : Obj)) ∈ news ∧ its.size ≤ sizeLine ∧
    ∀ s₂ : Shared, (∃ h, s₂ = { s₁ with heap := h }) → CompRest prog w A h₀ L m env elt x scope cl s₂ (fun nw => (ax, ({ cls := .type "tuple", data := .seq its n } : Obj)) ∈ nw) (fun i v => its[i]? = some v) (Fin s₂) its.size 0 [] news
theorem SrcTu.intro {elt : Expr} {x : Str} {scope : Scope} {cl : List (Str × Addr)} {Fin : Shared → List Value → Led → Prop} {ax : Addr} {its : Array Value} {n : Nat} {news : Led} {s₁ : Shared}
    (hh : A.handled = none) (F : Fr h₀ L s₁.heap m) (N : News h₀ L s₁.heap news) (hm : (ax, ({ cls := .type "tuple", data := .seq its n } : Obj)) ∈ news) (hsz : its.size ≤ sizeLine)
    (h : ∀ g, CompRest prog w A h₀ L m env elt x scope cl { s₁ with heap := g } (fun nw => (ax, ({ cls := .type "tuple", data := .seq its n } : Obj)) ∈ nw) (fun i v => its[i]? = some v) (Fin { s₁ with heap := g }) its.size 0 [] news) :
    SrcTu prog w A h₀ L m env elt x scope cl Fin (.ref ax) s₁ := ⟨ax, its, n, news, rfl, hh, F, N, hm, hsz, fun _ ⟨g, e⟩ => e ▸ h g⟩
theorem Assign_ListComp_Tu {elt iter : Expr} {x y : Str} {px py : Pos} {scope : Scope} {cl : List (Str × Addr)} {pos spos : Pos} {Q : Flow → Shared → Prop} (F₀ : Fr h₀ L s.heap m) (hLe : env.locals = L)
    (hsw : swapsWith (.ListComp elt [⟨.Name x px, iter, [], 0⟩] scope pos) (some (.Name y py)) spos.line env = pure true)
    (hclos : closureFor scope env = pure cl) (hcell : ∀ z ∈ scope.names, z.2 ≠ .cell) (hkind : scope.kind = .function)
    (hnames : ∀ z ∈ scope.names, z.2 = .local → scope.names.lookup z.1 = some .local) (hx : scope.names.lookup x = some .local)
    (hy : env.kindOf y = some .local) (hp : (env.scope.kind == .class || (env.scope.kind == .module && env.locals != env.globals)) = false)
    (h : wpAny (model prog w) A (eval iter env) (SrcTu prog w A h₀ L m env elt x scope cl (fun s₂ => FinA h₀ L m s₂ y Q)) E s)
    (hs : ∀ x, foldedSetIterable iter env x = pure x) :
    wpAny (model prog w) A (exec (.Assign [.Name y py] (.ListComp elt [⟨.Name x px, iter, [], 0⟩] scope pos) spos) env) Q E s := by
  subst hLe
  rw [exec_Assign_Name_used _ _ _ _ hsw]
  refine wpAny_bind (wpAny_standAt (wpAny_bind ?_))
  show wpAny _ A (do let _ ← comprehension (.ListComp elt [⟨.Name x px, iter, [], 0⟩] scope pos) scope env _ (newList []) false (eval iter env) (some (assign (.Name y py) env))) _ _ s
  refine wpAny_bind (wpAny_mono (wpAny_comprehension_free (use := some (assign (.Name y py) env)) (Q := fun _ s' => Q .next s') rfl hs hclos hkind hnames
    (wpAny_mono h (fun xv s₁ h₁ => ?_) fun _ _ e => e)) (fun _ s' hq => wpAny_pure (wpAny_pure hq)) fun _ _ e => e)
  obtain ⟨ax, its, n, news, rfl, hh, F, N, hm, hsz, R⟩ := h₁
  have hl : s₁.heap.IsTuple ax its := ⟨_, (N _ hm).1, rfl, n, rfl⟩
  have hlt : ax < s₁.heap.objs.size := Heap.lt_size (N _ hm).1
  refine wpAny_pyIter_tuple hl ?_
  have up : ∀ b o, s₁.heap.get? b = some o → (s₁.heap.push { cls := .type "tuple_iterator", data := .fields #[.ref ax, .int 0 0] }).get? b = some o := fun b o e => Heap.get?_push_of_some _ e
  refine block_U (S := fun nw => (ax, ({ cls := .type "tuple", data := .seq its n } : Obj)) ∈ nw) (Walks.tuple hh s₁.heap.objs.size ax (Nat.ne_of_lt hlt) its) hsz (fun i h st => by obtain ⟨o, e, _⟩ := st.1; exact ⟨o, e⟩) (fun i h h' o nw st e e' k N' S => ⟨?_, ⟨_, (N' _ S).1, rfl, n, rfl⟩⟩) hcell hkind hx
    ⟨⟨_, Heap.get?_push_size _ rfl, rfl, rfl⟩, ⟨_, up _ _ (N _ hm).1, rfl, n, rfl⟩⟩ (fun b hb => ?_)
    (F.keeps up) (N.grown up) (Nat.ne_of_lt F.ns.lt) (next_is_new F) (fun p hp => Nat.ne_of_lt (Heap.lt_size (N p hp).1)) hm (R _ ⟨_, rfl⟩) ?_
  · obtain ⟨o', q, r⟩ := st.1; rw [e] at q; cases q; exact ⟨o, e', r⟩
  · show b < (s₁.heap.push _).objs.size
    rw [Heap.size_push]
    rcases List.mem_cons.mp hb with rfl | hb
    · exact Nat.lt_succ_self _
    · rw [List.mem_singleton.mp hb]; exact Nat.lt_succ_of_lt hlt
  · intro D C h' tk m' ys news' F' N' o1 hn hC₀ hD₀ hCL hDL hCD offC fin
    show wpAny _ A (assign (.Name y py) env (.ref D)) _ _ _
    refine wpAny_assign_Name (wpAny_storeName_local hy F'.ns (fun h₂ hn₂ hs₂ => ?_) hp)
    have hL₀ : h₀.get? env.locals = none := Heap.get?_none_of_le F'.above
    have F₂ : Fr h₀ env.locals h₂ (fun z => if z = y then some (.ref D) else m z) := ⟨hn₂, fun b o e => hs₂.extBut b o (fun q => by rw [q, hL₀] at e; cases e) (F'.keep b o e), F'.above⟩
    refine ⟨m', hn.sameBut hs₂ hCL, fun h'' hs'' => fin D h'' _ (F₂.change hs'' hCL hC₀) (fun p hp => ?_) o1⟩
    have z : h₂.get? p.1 = some p.2 := hs₂.extBut _ _ (N' p hp).2.1 (N' p hp).1
    refine ⟨hs''.extBut _ _ ?_ z, (N' p hp).2⟩
    rcases List.mem_cons.mp hp with rfl | hp
    · exact Ne.symm hCD
    · exact offC p hp
end
end Mine
namespace Mine
theorem with_tape {G : Prop} {h₀ h : Heap} {L o d aM aT aC : Addr} {A Bd oM oT oC : Obj} {news V : Led} (N : News h₀ L h ((o, A) :: (d, Bd) :: news)) (qO : ∀ q ∈ news, @Ne Nat q.1 o) (qD : ∀ q ∈ news, @Ne Nat q.1 d) (hTM : @Ne Nat aT aM) (hCM : @Ne Nat aC aM) (wT : ∀ p ∈ V, @Ne Nat p.1 aT) (wC : ∀ p ∈ V, @Ne Nat p.1 aC)
    (hs : ∀ p ∈ (aT, oT) :: (aC, oC) :: (aM, oM) :: V, p ∈ news)
    (k : News h₀ L h ((aT, oT) :: (aC, oC) :: (o, A) :: (d, Bd) :: (aM, oM) :: V) → (∀ p ∈ (o, A) :: (d, Bd) :: (aM, oM) :: V, @Ne Nat p.1 aT) → (∀ p ∈ (o, A) :: (d, Bd) :: (aM, oM) :: V, @Ne Nat p.1 aC) → G) : G :=
  k (news_sub N fun p hp => by
      rcases List.mem_cons.mp hp with h1 | hp
      · exact .tail _ (.tail _ (hs p (h1 ▸ .head _)))
      rcases List.mem_cons.mp hp with h1 | hp
      · exact .tail _ (.tail _ (hs p (h1 ▸ .tail _ (.head _))))
      rcases List.mem_cons.mp hp with h1 | hp
      · exact h1 ▸ .head _
      rcases List.mem_cons.mp hp with h1 | hp
      · exact h1 ▸ .tail _ (.head _)
      exact .tail _ (.tail _ (hs p (.tail _ (.tail _ hp)))))
    (all_c (Ne.symm (qO _ (hs _ (.head _)))) (all_c (Ne.symm (qD _ (hs _ (.head _)))) (all_c (Ne.symm hTM) wT)))
    (all_c (Ne.symm (qO _ (hs _ (.tail _ (.head _))))) (all_c (Ne.symm (qD _ (hs _ (.tail _ (.head _))))) (all_c (Ne.symm hCM) wC)))
end Mine
namespace Mine
theorem with_so {G : Prop} {V rest1 rest2 subs1 subs2 : Led} {aW1 aW2 : Addr} {A B : Obj} (h1 : ∀ q ∈ rest1, @Ne Nat q.1 aW1) (s1 : ∀ q ∈ rest1, ∀ p ∈ subs1, @Ne Nat p.1 q.1) (h2 : ∀ q ∈ rest2, @Ne Nat q.1 aW2) (s2 : ∀ q ∈ rest2, ∀ p ∈ subs2, @Ne Nat p.1 q.1)
    (i1 : ∀ q ∈ V, q ∈ rest1) (i2 : ∀ q ∈ V, q ∈ rest2) (k : (∀ q ∈ V, ∀ p ∈ (aW1, A) :: (aW2, B) :: (subs1 ++ subs2), q.1 ≠ p.1) → G) : G := by
  refine k fun q hq p hp => ?_
  rcases List.mem_cons.mp hp with rfl | hp
  · exact h1 q (i1 q hq)
  rcases List.mem_cons.mp hp with rfl | hp
  · exact h2 q (i2 q hq)
  rcases List.mem_append.mp hp with hp | hp
  · exact Ne.symm (s1 q (i1 q hq) p hp)
  · exact Ne.symm (s2 q (i2 q hq) p hp)
end Mine
namespace Mine
theorem fsIs_lookup {f : Int → Int} {n : Nat} {k : Int} (h0 : 0 ≤ k) (h1 : k < (n : Int)) : (fsIs f n).lookup k = some (f k) := by
  have : ∀ (l : List Nat), k.toNat ∈ l → (l.map fun j => (Int.ofNat j, f (Int.ofNat j))).lookup k = some (f k) := by
    intro l
    induction l with
    | nil => intro h; cases h
    | cons j r ih =>
      intro h
      rw [List.map_cons, List.lookup_cons]
      by_cases e : k = Int.ofNat j
      · rw [← e]; simp
      · have e1 : (k == Int.ofNat j) = false := by simpa using e
        rw [e1]
        refine ih ((List.mem_cons.mp h).resolve_left fun e2 => e ?_)
        simp [← e2, Int.toNat_of_nonneg h0]
  exact this _ (List.mem_range.mpr (by omega))
noncomputable def wF (f : Int → Int) (ws : List Int) : List Int := (ws.filter fun x => decide (0 < x)).map f
def GtJ (f : Int → Int) (ws : List Int) (V : Led) (i : Nat) (ys : List Value) (news : Led) : Prop := news = V ∧ IntsAre ys (wF f (ws.take i))
theorem GtJ.yes {f : Int → Int} {ws : List Int} {V : Led} {i : Nat} {ys : List Value} {x : Int} {t : Tok} (h : IntsAre ys (wF f (ws.take i))) (hx : ws[i]? = some x) (h0 : 0 < x) : GtJ f ws V (i + 1) (ys ++ [.int (f x) t]) V := by
  refine ⟨rfl, ?_⟩
  rw [wF, List.take_add_one, hx, List.filter_append, List.map_append]
  simp only [Option.toList_some, List.filter_cons, decide_eq_true h0, if_true, List.filter_nil, List.map_cons, List.map_nil]
  exact h.append (.cons (f x) t .nil)
theorem GtJ.no {f : Int → Int} {ws : List Int} {V : Led} {i : Nat} {ys : List Value} {x : Int} (h : IntsAre ys (wF f (ws.take i))) (hx : ws[i]? = some x) (h0 : ¬ 0 < x) : GtJ f ws V (i + 1) ys V := by
  refine ⟨rfl, ?_⟩
  rw [wF, List.take_add_one, hx, List.filter_append]
  simp only [Option.toList_some, List.filter_cons, decide_eq_false h0, Bool.false_eq_true, if_false, List.filter_nil, List.append_nil]
  exact h
theorem wF_of {f : Int → Int} {ws : List Int} {refs ys : List Value} (hl : refs.length = ws.length) (h : IntsAre ys (wF f (ws.take refs.toArray.size))) : IntsAre ys (wF f ws) := by
  rwa [List.size_toArray, hl, List.take_length] at h
theorem tup_heap {prog : Program} {w : World} {A : Around} {E : Value → Shared → Prop} {s : Shared} {value slice : PySem.Expr} {a : Addr} {x : Int} {t u : Tok} {r : List Value} {n : Nat} {Q : Value → Shared → Prop}
    (ht : s.heap.get? a = some (tup1 x t r n)) (h : Q (.int x t) s)
    (hs : subscripted slice false (.ref a) (.int 0 u) = operate [.ref a, .int 0 u] (getItem (.ref a) (.int 0 u))) :
    wpAny (model prog w) A (subscriptTail value slice (.ref a) (.int 0 u)) Q E s :=
  item_tupleT (l := Value.int x t :: r) (j := 0) ⟨_, ht, rfl, n, rfl⟩ (by decide) (by decide) (by simp [seqIndex?]) rfl h hs
theorem firstF_eq {f : Int → Int} {firsts : List Int} {bs : List (Int × Int)} {e : Int} {ws : List Int} (hf : ∀ k, movedF firsts bs e k = f k) (h : ∀ x ∈ ws, 0 ≤ x) : firstF firsts bs e ws = wF f ws := by
  rw [firstF, wF]
  have : (ws.filter fun x => decide (x ≠ 0)) = ws.filter fun x => decide (0 < x) := List.filter_congr fun x hx => by
    have := h x hx
    exact decide_eq_decide.mpr ⟨fun _ => by omega, fun _ => by omega⟩
  rw [this]
  exact List.map_congr_left fun x _ => hf x
end Mine
namespace Mine
open LCg in
theorem comp_out {h₀ h : Heap} {L I C D D5 : Addr} {m : Str → Option Value} {s₁ : Shared} {oI oC oD o5 : Obj} {S : Led → Prop} {rest : Value → Led → Prop} {y : Value} {V : Led} {tk : Nat}
    (F : Fr h₀ L h m) (N : News h₀ L h ((D5, o5) :: (I, oI) :: (C, oC) :: (D, oD) :: V)) (q : Off1 D5 ((I, oI) :: (C, oC) :: (D, oD) :: V)) (off : Off3 I C D V) (hS : S ((D5, o5) :: V)) (r : rest y ((D5, o5) :: V)) :
    CompEnd h₀ L m s₁ I oI C oC D oD S rest y { s₁ with heap := h, toks := tk } :=
  CompEnd.intro F N ((D5, o5) :: V) (by
    intro p hp
    simp only [List.mem_cons] at hp ⊢
    rcases hp with h | h | h | h | h <;> simp [h]) ⟨⟨Ne.symm q.1, Ne.symm q.2.1, Ne.symm q.2.2.1⟩, off⟩ hS r
end Mine
namespace Mine
theorem wF_len {f : Int → Int} {ws : List Int} (h : ws.length ≤ 6) : (wF f ws).length ≤ 6 := by
  rw [wF, List.length_map]; exact Nat.le_trans (List.length_filter_le _ _) h
end Mine
namespace Mine
open PySem.Calls
/-- a statement that stores an int in a name, whichever way it went -/
def IntStored (h₀ : Heap) (L : Addr) (m : Str → Option Value) (news : Led) (x : Str) (v : Int) (s : Shared) (f : Flow) (s' : Shared) : Prop :=
  f = .next ∧ ∃ h' tk t, s' = { s with heap := h', toks := tk } ∧ Fr h₀ L h' (fun y => if y = x then some (.int v t) else m y) ∧ News h₀ L h' news
theorem IntStored.intro {h₀ h' : Heap} {L : Addr} {m : Str → Option Value} {news : Led} {x : Str} {v v' : Int} {s : Shared} {tk : Nat} {t : Tok}
    (F : Fr h₀ L h' (fun y => if y = x then some (.int v' t) else m y)) (N : News h₀ L h' news) (e : v' = v) : IntStored h₀ L m news x v s .next { s with heap := h', toks := tk } := ⟨rfl, h', tk, t, rfl, e ▸ F, N⟩
theorem cut_int {M : Model} {A : Around} {tree : Sem Flow} {E : Value → Shared → Prop} {s : Shared} {Q : Flow → Shared → Prop} {h₀ : Heap} {L : Addr} {m : Str → Option Value} {news : Led} (x : Str) (v : Int)
    (F : Fr h₀ L s.heap m) (N : News h₀ L s.heap news) (h : wpAny M A tree (IntStored h₀ L m news x v s) E s)
    (k : ∀ h' tk t, Fr h₀ L h' (fun y => if y = x then some (.int v t) else m y) → News h₀ L h' news → Q .next { s with heap := h', toks := tk }) : wpAny M A tree Q E s :=
  wpAny_mono h (fun _ _ ⟨e1, h', tk, t, e2, F', N'⟩ => e1 ▸ e2 ▸ k h' tk t F' N') fun _ _ e => e
open PySem.AutoSeq1 (wpAny_loadPart')
open PySem.MeetsSeq PySem.MeetsSeq3
theorem cmpF_neg_at {xs ys : List Int} {i : Nat} (h : xs.take i = ys.take i) (h1 : i < xs.length) (h2 : i < ys.length) (hn : xs.getD i 0 ≠ ys.getD i 0) : decide (cmpF xs ys = -1) = decide (xs.getD i 0 < ys.getD i 0) := by
  rw [cmpF_at h h1 h2 hn]
  by_cases c : xs.getD i 0 < ys.getD i 0
  · rw [if_pos c, decide_eq_true c]; rfl
  · rw [if_neg c, decide_eq_false c]; rfl
theorem cmpF_neg_end {xs ys : List Int} {i : Nat} (h : xs.take i = ys.take i) (h1 : ¬ (i < xs.length ∧ i < ys.length)) (h2 : i ≤ xs.length) (h3 : i ≤ ys.length) : decide (cmpF xs ys = -1) = decide (xs.length < ys.length) := by
  have e : i = min xs.length ys.length := by omega
  rw [cmp_min e h]
  by_cases c : xs.length = ys.length
  · rw [if_pos c]; simp; omega
  · rw [if_neg c]
    by_cases d : xs.length < ys.length
    · rw [if_pos d]; simp [d]
    · rw [if_neg d]; simp [d]
theorem ints_get {vs : List Value} {xs : List Int} (h : IntsAre vs xs) {i : Nat} (hi : i < xs.length) : ∃ t, vs.toArray[((i : Nat) : Int).toNat]? = some (.int (xs.getD i 0) t) := by
  obtain ⟨t, e⟩ := h.get i (xs[i]'hi) (List.getElem?_eq_getElem hi)
  refine ⟨t, ?_⟩
  rw [Int.toNat_natCast, List.getElem?_toArray, e, List.getD_eq_getElem?_getD, List.getElem?_eq_getElem hi]; rfl
theorem ints_none {vs : List Value} {xs : List Int} (h : IntsAre vs xs) {i : Nat} (hi : ¬ i < xs.length) : vs.toArray[((i : Nat) : Int).toNat]? = none := by
  rw [Int.toNat_natCast, List.getElem?_toArray]
  exact List.getElem?_eq_none (by rw [h.length]; omega)
theorem rc_lt {prog : Program} {w : World} {A : Around} {E : Value → Shared → Prop} {s : Shared} {a b : Int} {t u : Tok} {Q : Value → Shared → Prop} (h : Q (.bool (decide (a < b))) s) : wpAny (model prog w) A (richCompare .Lt (.int a t) (.int b u)) Q E s :=
  PyProof.Rows.lt_int (A := A) (E := E) h
theorem lt_loop (l b : Addr) (vs us : List Value) (xs ys : List Int) (n n2 : Nat) (hx : IntsAre vs xs) (hy : IntsAre us ys) (k : Nat) :
    ∀ i : Nat, xs.length - i = k → i ≤ xs.length → i ≤ ys.length → xs.take i = ys.take i → Meets (Builtin.«list.__eq__.loop» ⟨[.ref l, .ref b, rawInt i, rawInt 0], []⟩)
      (fun _ R s => s.heap.get? l = some { cls := .type "list", dict := none, data := .seq vs.toArray n, slots := #[] } ∧ s.heap.get? b = some { cls := .type "list", dict := none, data := .seq us.toArray n2, slots := #[] } ∧
        R (.ok (.ret (.bool (decide (cmpF xs ys = -1))))) s) := by
  induction k with
  | zero =>
    intro i hk h1 h2 ht prog w A R s h
    obtain ⟨hp, g, d, tk, os⟩ := s; obtain ⟨hl, hb, h⟩ := h
    wp_walk using wpAny_loadPart' hl, wpAny_loadPart' hb
    rw [ints_none hx (by omega)]
    wp_walk using wpAny_loadPart' hl, wpAny_loadPart' hb
    show R (.ok (.ret (.bool (decide (vs.toArray.size < us.toArray.size))))) _
    rw [cmpF_neg_end ht (by omega) h1 h2] at h
    simpa [hx.length, hy.length] using h
  | succ k ih =>
    intro i hk h1 h2 ht prog w A R s h
    obtain ⟨hp, g, d, tk, os⟩ := s; obtain ⟨hl, hb, h⟩ := h
    wp_walk using wpAny_loadPart' hl, wpAny_loadPart' hb
    have hlt : i < xs.length := by omega
    have hc : ((i : Int) + 1) = ((i + 1 : Nat) : Int) := by push_cast; rfl
    obtain ⟨t, e1⟩ := ints_get hx hlt
    by_cases hlt2 : i < ys.length
    · obtain ⟨u, e2⟩ := ints_get hy hlt2
      rw [e1, e2]
      refine wpAny_bind (EqGives.int (xs.getD i 0) (ys.getD i 0) t u prog w _ _ _ _ ?_)
      cases hb' : (xs.getD i 0 == ys.getD i 0) with
      | true =>
        wp_walk
        rw [hc]
        exact ⟨plainId_quiet plain_eq_loop _, codeAny_builtin entry_eq_loop (by
          rw [Around.under_plainId plain_eq_loop _]
          exact ih (i + 1) (by omega) (by omega) (by omega) (by
            have e : xs.getD i 0 = ys.getD i 0 := by simpa using hb'
            rw [List.getD_eq_getElem?_getD, List.getD_eq_getElem?_getD, List.getElem?_eq_getElem hlt, List.getElem?_eq_getElem hlt2] at e
            rw [List.take_add_one, List.take_add_one, ht, List.getElem?_eq_getElem hlt, List.getElem?_eq_getElem hlt2]
            simp at e
            rw [e]) prog w A R _ ⟨hl, hb, h⟩)⟩
      | false =>
        wp_walk using wpAny_loadPart' hl, wpAny_loadPart' hb
        rw [e1, e2]
        refine wpAny_bind (rc_lt ?_)
        rw [cmpF_neg_at ht hlt hlt2 (by simpa using hb')] at h
        wp_walk
        exact h
    · rw [e1, ints_none hy hlt2]
      wp_walk using wpAny_loadPart' hl, wpAny_loadPart' hb
      show R (.ok (.ret (.bool (decide (vs.toArray.size < us.toArray.size))))) _
      rw [cmpF_neg_end ht (by omega) h1 h2] at h
      simpa [hx.length, hy.length] using h
theorem list_lt (l b : Addr) (vs us : List Value) (xs ys : List Int) (n n2 : Nat) (hx : IntsAre vs xs) (hy : IntsAre us ys) :
    Meets (Builtin.«list.__lt__» ⟨[.ref l, .ref b], []⟩)
      (fun _ R s => s.heap.get? l = some { cls := .type "list", dict := none, data := .seq vs.toArray n, slots := #[] } ∧ s.heap.get? b = some { cls := .type "list", dict := none, data := .seq us.toArray n2, slots := #[] } ∧
        R (.ok (.ret (.bool (decide (cmpF xs ys = -1))))) s) := by
  intro prog w A R s h
  obtain ⟨hp, g, d, tk, os⟩ := s; obtain ⟨hl, hb, h⟩ := h
  have f3 := AutoSeq1.sub_list_list
  wp_walk using wpAny_loadPart' hl, wpAny_loadPart' hb
  exact ⟨plainId_quiet plain_eq_loop _, codeAny_builtin entry_eq_loop (by
    rw [Around.under_plainId plain_eq_loop _]
    exact lt_loop l b vs us xs ys n n2 hx hy _ 0 rfl (Nat.zero_le _) (Nat.zero_le _) rfl prog w A R _ ⟨hl, hb, h⟩)⟩
theorem lt_lists {prog : Program} {w : World} {A : Around} {E : Value → Shared → Prop} {s : Shared} {h₀ : Heap} {L l b : Addr} {news : Led} {vs us : List Value} {xs ys : List Int} {n n2 : Nat} {Q : Value → Shared → Prop}
    (hu : A.units < cLine) (N : News h₀ L s.heap news) (hl : (l, listOf vs.toArray n) ∈ news) (hb : (b, listOf us.toArray n2) ∈ news) (hx : IntsAre vs xs) (hy : IntsAre us ys) (h : Q (.bool (decide (cmpF xs ys = -1))) s) :
    wpAny (model prog w) A (compareOp .Lt (.ref l) (.ref b)) Q E s :=
  (richCompare_meets_room (op := .Lt) (A := A) (E := E) (News.isList N hl).typeIs (News.isList N hb).typeIs PySem.F.slot_list_lt PySem.F.entry_list_lt (PySem.F.args_list_lt_2 _ _) (list_lt l b vs us xs ys n n2 hx hy) ⟨(N _ hl).1, (N _ hb).1, fun e => Value.noConfusion e, h⟩ hu)
end Mine
namespace Mine
theorem cmpF_range : ∀ (xs ys : List Int), cmpF xs ys = -1 ∨ cmpF xs ys = 0 ∨ cmpF xs ys = 1
  | [], [] => .inr (.inl rfl)
  | [], _ :: _ => .inl rfl
  | _ :: _, [] => .inr (.inr rfl)
  | x :: xs, y :: ys => by
    unfold cmpF
    split
    · exact cmpF_range xs ys
    · split
      · exact .inl rfl
      · exact .inr (.inr rfl)
theorem cmpF_swap : ∀ (xs ys : List Int), cmpF ys xs = - cmpF xs ys
  | [], [] => rfl
  | [], _ :: _ => rfl
  | _ :: _, [] => rfl
  | x :: xs, y :: ys => by
    unfold cmpF
    by_cases e : x = y
    · rw [if_pos e, if_pos e.symm]; exact cmpF_swap xs ys
    · rw [if_neg e, if_neg (fun h => e h.symm)]
      by_cases l : x < y
      · rw [if_pos l, if_neg (by omega)]; rfl
      · rw [if_neg l, if_pos (by omega)]
theorem cmpF_self : ∀ (xs : List Int), cmpF xs xs = 0
  | [] => rfl
  | x :: xs => by unfold cmpF; rw [if_pos rfl]; exact cmpF_self xs
theorem cmpF_eq0 {xs ys : List Int} (h : xs = ys) : cmpF xs ys = 0 := h ▸ cmpF_self xs
theorem cmpF_zero : ∀ {xs ys : List Int}, cmpF xs ys = 0 → xs = ys
  | [], [], _ => rfl
  | [], _ :: _, h => by simp [cmpF] at h
  | _ :: _, [], h => by simp [cmpF] at h
  | x :: xs, y :: ys, h => by
    unfold cmpF at h
    by_cases e : x = y
    · rw [if_pos e] at h; rw [e, cmpF_zero h]
    · rw [if_neg e] at h; split at h <;> simp at h
theorem cmpF_ne0 {xs ys : List Int} (h : ¬ xs = ys) : cmpF xs ys ≠ 0 := fun e => h (cmpF_zero e)
end Mine
namespace Mine
theorem cmpF_one {xs ys : List Int} (h3 : cmpF xs ys = -1 ∨ cmpF xs ys = 0 ∨ cmpF xs ys = 1) (h1 : ¬ cmpF xs ys = -1) (hn : ¬ xs = ys) : cmpF xs ys = 1 := by
  have := cmpF_ne0 hn
  omega
/-- the law's own table -/
noncomputable def lawMv (lots : List (List Int)) (order : List Int) (k : Int) : Int := if k ∈ rowF lots order then (firstsOf lots).getD 0 0 + ((rowF lots order).idxOf k : Int) else k
noncomputable def bd (lots : List (List Int)) (e : Int) (i : Nat) : Int := if i < lots.length then (firstsOf lots).getD i 0 else e
theorem rangeKs_len (a : Int) (n : Nat) : (rangeKs a n).length = n := by simp [rangeKs]
theorem rangeKs_get (a : Int) (n j : Nat) (h : j < n) : (rangeKs a n)[j]? = some (a + (j : Int)) := by simp [rangeKs, h]
theorem rangeKs_mem {a p : Int} {n : Nat} : p ∈ rangeKs a n ↔ a ≤ p ∧ p < a + (n : Int) := by
  simp only [rangeKs, List.mem_map, List.mem_range]
  constructor
  · rintro ⟨i, hi, rfl⟩; exact ⟨Int.le_add_of_nonneg_right (Int.natCast_nonneg i), Int.add_lt_add_left (Int.ofNat_lt.mpr hi) a⟩
  · rintro ⟨h1, h2⟩
    obtain ⟨i, rfl⟩ := Int.le.dest h1
    exact ⟨i, Int.ofNat_lt.mp (Int.lt_of_add_lt_add_left h2), rfl⟩
theorem rangeKs_nodup (a : Int) (n : Nat) : (rangeKs a n).Nodup := by
  rw [rangeKs, List.nodup_iff_pairwise_ne, List.pairwise_map]
  exact List.nodup_range.imp fun h e => h (Int.ofNat.inj (Int.add_left_cancel e))
theorem rangeKs_first {a : Int} {k : Nat} (h : 1 ≤ k) : (rangeKs a k).getD 0 0 = a := by
  rw [List.getD_eq_getElem?_getD, rangeKs_get _ _ _ h]; simp
theorem tn_lt {x : Int} {n : Nat} (h0 : 0 ≤ x) (h1 : x < (n : Int)) : x.toNat < n := (Int.toNat_lt h0).mpr h1
theorem tn_succ {x : Int} (h : 0 ≤ x) : (x + 1).toNat = x.toNat + 1 := Int.toNat_add_nat h 1
theorem tn_next {x : Int} {m n : Nat} (hm : m = n) (h0 : 0 ≤ x) (h2 : x + 1 < (m : Int)) : x.toNat + 1 < n := by subst hm; rw [← tn_succ h0]; exact tn_lt (Int.le_add_one h0) h2
theorem tn_last {x : Int} {m n : Nat} (hm : m = n) (h0 : 0 ≤ x) (h1 : x < (n : Int)) (h2 : ¬ x + 1 < (m : Int)) : x.toNat + 1 = n := by
  subst hm
  exact Nat.le_antisymm (tn_lt h0 h1) (by rw [← tn_succ h0]; exact Int.le_toNat (Int.le_add_one h0) |>.mpr (Int.not_lt.mp h2))
theorem tn_inj {x y : Int} (hx : 0 ≤ x) (hy : 0 ≤ y) (h : x.toNat = y.toNat) : x = y := by rw [← Int.toNat_of_nonneg hx, ← Int.toNat_of_nonneg hy, h]
theorem tn_len {a b : Int} (h : a < b) : ((b - a).toNat : Int) = b - a := Int.toNat_of_nonneg (Int.sub_nonneg.mpr (Int.le_of_lt h))
theorem tn_sub {a k : Int} (c : a ≤ k) : a + ((k - a).toNat : Int) = k := by rw [Int.toNat_of_nonneg (Int.sub_nonneg.mpr c), Int.add_comm, Int.sub_add_cancel]
theorem tn_sublt {a b k : Int} (c : a ≤ k) (d : k < b) : ((k - a).toNat : Int) < b - a := by rw [Int.toNat_of_nonneg (Int.sub_nonneg.mpr c)]; exact Int.sub_lt_sub_right d a
theorem tn_back (a : Int) (k : Nat) : k = (a + (k : Int) - a).toNat := by rw [Int.add_comm, Int.add_sub_cancel]; rfl
theorem tn_place {a e : Int} {m n : Nat} (h : (n : Int) ≤ e - a) (hm : m < n) : a ≤ a + (m : Int) ∧ a + (m : Int) < e := by omega
theorem tn_hit {a d : Int} {o j : Nat} (hj : (j : Int) < d) : a + (o : Int) ≤ a + ((o + j : Nat) : Int) ∧ a + ((o + j : Nat) : Int) < a + (o : Int) + d := by omega
theorem tn_o {a d x : Int} {m o : Nat} (e : x = a + (o : Int)) (h : x ≤ a + (m : Int) ∧ a + (m : Int) < x + d) : o ≤ m ∧ ((m - o : Nat) : Int) < d ∧ ∀ f : Int, f + (a + (m : Int)) - x = f + ((m - o : Nat) : Int) := by subst e; exact ⟨by omega, by omega, fun f => by omega⟩
theorem tn_un {f x q F : Int} : (f ≤ f + x - q ∧ f + x - q < F) ↔ (q ≤ x ∧ x < q + (F - f)) := by omega
theorem tn_mv {a f : Int} {o j : Nat} : a + (o : Int) + (f + (j : Int)) - f = a + ((o + j : Nat) : Int) := by omega
theorem tn_mem {a b p : Int} (h : a < b) : p ∈ rangeKs a (b - a).toNat ↔ a ≤ p ∧ p < b := by rw [rangeKs_mem, tn_sub (Int.le_of_lt h)]
theorem tn_asm {a r u v : Int} : a + r + u - v = a + (r + (u - v)) := by rw [Int.add_sub_assoc, Int.add_assoc]
theorem tn_cond {a e k : Int} : (k < a ∨ e ≤ k) ↔ ¬ (a ≤ k ∧ k < e) := by rw [Classical.not_and_iff_not_or_not, Int.not_le, Int.not_lt]
theorem tn_last2 {a b e : Int} {n : Nat} (hS : b = a) (h2 : 2 ≤ a) (h : b ≤ b + (n : Int) ∧ b + (n : Int) < e) : 0 ≤ b + (n : Int) ∧ b + (n : Int) < e + 4 := by omega
theorem tn_all {e x : Int} : x ∈ rangeKs 0 (e + 4 - 0).toNat ↔ 0 ≤ x ∧ x < e + 4 := by rw [rangeKs_mem]; omega
structure Bounds (F : Nat → Int) (lots : List (List Int)) (a₀ e : Int) : Prop where
  start : F 0 = a₀
  top : F lots.length = e
  up : ∀ i < lots.length, F i < F (i + 1) ∧ F (i + 1) ≤ F i + 6
  lot : ∀ i < lots.length, lots.getD i [] = rangeKs (F i) (F (i + 1) - F i).toNat
theorem bd_top (lots : List (List Int)) (e : Int) : bd lots e lots.length = e := by simp [bd]
theorem bd_snoc {l : List (List Int)} {a : Int} {k : Nat} (h1 : 1 ≤ k) (e : Int) {i : Nat} (hi : i ≤ l.length) : bd (l ++ [rangeKs a k]) e i = bd l a i := by
  have hf : firstsOf (l ++ [rangeKs a k]) = firstsOf l ++ [a] := by
    simp only [firstsOf, List.map_append, List.map_cons, List.map_nil, rangeKs_first h1]
  have hl := firstsOf_len l
  unfold bd
  rw [hf, List.getD_eq_getElem?_getD, List.getD_eq_getElem?_getD, List.length_append, List.length_singleton, if_pos (Nat.lt_succ_of_le hi)]
  by_cases h : i < l.length
  · rw [if_pos h, List.getElem?_append_left (by rw [hl]; exact h)]
  · obtain rfl : i = l.length := Nat.le_antisymm hi (Nat.not_lt.mp h)
    rw [if_neg h, List.getElem?_append_right (Nat.le_of_eq hl), hl]; simp
theorem bounds {a₀ e : Int} {lots : List (List Int)} (h : LotsOk a₀ lots e) : Bounds (bd lots e) lots a₀ e := by
  induction h with
  | nil => exact ⟨by simp [bd], by simp [bd], fun i hi => absurd hi (Nat.not_lt_zero _), fun i hi => absurd hi (Nat.not_lt_zero _)⟩
  | @snoc l a k _ h1 h2 ih =>
    have ht : bd (l ++ [rangeKs a k]) (a + (k : Int)) (l.length + 1) = a + (k : Int) := by simp [bd]
    have hs : bd (l ++ [rangeKs a k]) (a + (k : Int)) l.length = a := by rw [bd_snoc h1 _ (Nat.le_refl _)]; exact ih.top
    refine ⟨by rw [bd_snoc h1 _ (Nat.zero_le _)]; exact ih.start, bd_top _ _, fun i hi => ?_, fun i hi => ?_⟩
    · rw [List.length_append, List.length_singleton] at hi
      by_cases hi' : i < l.length
      · rw [bd_snoc h1 _ (Nat.le_of_lt hi'), bd_snoc h1 _ hi']; exact ih.up i hi'
      · obtain rfl : i = l.length := Nat.eq_of_lt_succ_of_not_lt hi hi'
        rw [ht, hs]; exact ⟨Int.lt_add_of_pos_right a (Int.ofNat_lt.mpr h1), Int.add_le_add_left (Int.ofNat_le.mpr h2) a⟩
    · rw [List.length_append, List.length_singleton] at hi
      by_cases hi' : i < l.length
      · rw [bd_snoc h1 _ (Nat.le_of_lt hi'), bd_snoc h1 _ hi', ← ih.lot i hi', List.getD_eq_getElem?_getD, List.getD_eq_getElem?_getD, List.getElem?_append_left hi']
      · obtain rfl : i = l.length := Nat.eq_of_lt_succ_of_not_lt hi hi'
        rw [ht, hs, List.getD_eq_getElem?_getD, List.getElem?_append_right (Nat.le_refl _)]
        simp only [Nat.sub_self, List.getElem?_cons_zero, Option.getD_some]
        rw [← tn_back]
theorem mono_le {F : Nat → Int} {n : Nat} (up : ∀ i < n, F i < F (i + 1)) : ∀ {i j : Nat}, i ≤ j → j ≤ n → F i ≤ F j := by
  intro i j hij hj
  induction hij with
  | refl => exact Int.le_refl _
  | @step j h ih =>
    exact Int.le_trans (ih (Nat.le_of_succ_le hj)) (Int.le_of_lt (up j hj))
/-- an int lies in one lot alone -/
theorem one_lot {F : Nat → Int} {n : Nat} (up : ∀ i < n, F i < F (i + 1)) {i j : Nat} {p : Int} (hi : i < n) (hj : j < n) (a : F i ≤ p) (b : p < F (i + 1)) (c : F j ≤ p) (d : p < F (j + 1)) : i = j := by
  rcases Nat.lt_trichotomy i j with h | h | h
  · exact absurd (Int.lt_of_lt_of_le b (Int.le_trans (mono_le up h (Nat.le_of_lt hj)) c)) (Int.lt_irrefl p)
  · exact h
  · exact absurd (Int.lt_of_lt_of_le d (Int.le_trans (mono_le up h (Nat.le_of_lt hi)) a)) (Int.lt_irrefl p)
structure Plan (F : Nat → Int) (n : Nat) (row met : List Int) (bs : List (Int × Int)) (a : Int) : Prop where
  keys : bs.map (·.1) = met
  here : a = F 0 + (row.length : Int)
  rng : ∀ q ∈ met, 0 ≤ q ∧ q < (n : Int)
  nd : met.Nodup
  pos : ∀ q ∈ bs, ∃ o : Nat, q.2 = F 0 + (o : Int) ∧ ∀ j : Nat, (j : Int) < F (q.1.toNat + 1) - F q.1.toNat → row[o + j]? = some (F q.1.toNat + (j : Int))
  src : ∀ p ∈ row, ∃ q ∈ met, F q.toNat ≤ p ∧ p < F (q.toNat + 1)
  rnd : row.Nodup
theorem Plan.step {F : Nat → Int} {n : Nat} {row met : List Int} {bs : List (Int × Int)} {a x b : Int} {lot : List Int} (h : Plan F n row met bs a) (up : ∀ i < n, F i < F (i + 1))
    (h0 : 0 ≤ x) (h1 : x < (n : Int)) (h2 : x ∉ met) (hl : lot = rangeKs (F x.toNat) (F (x.toNat + 1) - F x.toNat).toNat) (hb : b = a + F (x.toNat + 1) - F x.toNat) :
    Plan F n (row ++ lot) (met ++ [x]) (bs ++ [(x, a)]) b := by
  have hu := up x.toNat (tn_lt h0 h1)
  have hlen : (lot.length : Int) = F (x.toNat + 1) - F x.toNat := by rw [hl, rangeKs_len]; exact tn_len hu
  refine ⟨by simp [h.keys], by rw [hb, h.here, List.length_append, Int.natCast_add, hlen]; exact tn_asm, ?_, ?_, ?_, ?_, ?_⟩
  · intro q hq
    rcases List.mem_append.mp hq with hq | hq
    · exact h.rng q hq
    · rw [List.mem_singleton.mp hq]; exact ⟨h0, h1⟩
  · rw [List.nodup_append]
    exact ⟨h.nd, by simp, fun y hy z hz e => h2 (by rw [List.mem_singleton.mp hz] at e; exact e ▸ hy)⟩
  · intro q hq
    rcases List.mem_append.mp hq with hq | hq
    · obtain ⟨o, e, hp⟩ := h.pos q hq
      refine ⟨o, e, fun j hj => ?_⟩
      have := hp j hj
      rw [List.getElem?_append_left (List.getElem?_eq_some_iff.mp this).1, this]
    · rw [List.mem_singleton.mp hq]
      refine ⟨row.length, h.here, fun j hj => ?_⟩
      dsimp only at hj ⊢
      rw [List.getElem?_append_right (Nat.le_add_right _ _), hl, Nat.add_sub_cancel_left, rangeKs_get _ _ _ (Int.lt_toNat.mpr hj)]
  · intro p hp
    rcases List.mem_append.mp hp with hp | hp
    · obtain ⟨q, hq, e⟩ := h.src p hp
      exact ⟨q, List.mem_append_left _ hq, e⟩
    · rw [hl] at hp
      exact ⟨x, by simp, (tn_mem hu).mp hp⟩
  · rw [List.nodup_append]
    refine ⟨h.rnd, hl ▸ rangeKs_nodup _ _, fun p hp p' hp' e => ?_⟩
    subst e
    obtain ⟨q, hq, e1, e2⟩ := h.src p hp
    rw [hl] at hp'
    have hp' := (tn_mem hu).mp hp'
    have hr := h.rng q hq
    have : q.toNat = x.toNat := one_lot up (tn_lt hr.1 hr.2) (tn_lt h0 h1) e1 e2 hp'.1 hp'.2
    exact h2 (tn_inj hr.1 h0 this ▸ hq)
theorem plan_fold {F : Nat → Int} {lots : List (List Int)} {firsts : List Int} {a₀ e : Int} (B : Bounds F lots a₀ e) (hF : ∀ i < lots.length, F i = firsts.getD i 0) (hl : firsts.length = lots.length) :
    ∀ (all : List Int) (st : List Int × List Int) (su : List (Int × Int) × Int), Plan F lots.length st.1 st.2 su.1 su.2 →
      Plan F lots.length (all.foldl (rowStep lots) st).1 (all.foldl (rowStep lots) st).2 (all.foldl (initStep firsts e) su).1 (all.foldl (initStep firsts e) su).2 ∧
      (∀ x ∈ st.2, x ∈ (all.foldl (rowStep lots) st).2) ∧ ∀ x ∈ all, 0 ≤ x → x < (lots.length : Int) → x ∈ (all.foldl (rowStep lots) st).2 := by
  intro all
  induction all with
  | nil => exact fun _ _ h => ⟨h, (fun _ h => h), (fun _ h => nomatch h)⟩
  | cons y all ih =>
    intro st su h
    rw [List.foldl_cons, List.foldl_cons]
    by_cases c : 0 ≤ y ∧ y < (lots.length : Int) ∧ y ∉ st.2
    · have hr : rowStep lots st y = (st.1 ++ lots.getD y.toNat [], st.2 ++ [y]) := by rw [rowStep, if_pos c]
      have hi : initStep firsts e su y = (su.1 ++ [(y, su.2)], su.2 + F (y.toNat + 1) - F y.toNat) := by
        rw [initStep, if_pos (by rw [hl, h.keys]; exact c), hF y.toNat (tn_lt c.1 c.2.1), tn_succ c.1]
        by_cases c2 : y + 1 < (firsts.length : Int)
        · rw [if_pos c2, hF (y.toNat + 1) (tn_next hl c.1 c2)]
        · rw [if_neg c2, tn_last hl c.1 c.2.1 c2, B.top]
      rw [hr, hi]
      obtain ⟨p1, p2, p3⟩ := ih (st.1 ++ lots.getD y.toNat [], st.2 ++ [y]) (su.1 ++ [(y, su.2)], su.2 + F (y.toNat + 1) - F y.toNat)
        (h.step (fun i hi => (B.up i hi).1) c.1 c.2.1 c.2.2 (B.lot _ (tn_lt c.1 c.2.1)) rfl)
      refine ⟨p1, fun x hx => p2 x (List.mem_append_left _ hx), fun x hx h0 h1 => ?_⟩
      rcases List.mem_cons.mp hx with rfl | hx
      · exact p2 x (by simp)
      · exact p3 x hx h0 h1
    · have hr : rowStep lots st y = st := by rw [rowStep, if_neg c]
      have hi : initStep firsts e su y = su := by rw [initStep, if_neg (by rw [hl, h.keys]; exact c)]
      rw [hr, hi]
      obtain ⟨p1, p2, p3⟩ := ih st su h
      refine ⟨p1, p2, fun x hx h0 h1 => ?_⟩
      rcases List.mem_cons.mp hx with rfl | hx
      · exact p2 x (Classical.not_not.mp fun hn => c ⟨h0, h1, hn⟩)
      · exact p3 x hx h0 h1
/-- what stands when both have run -/
structure Done (F : Nat → Int) (n : Nat) (row : List Int) (bs : List (Int × Int)) (e : Int) : Prop where
  up : ∀ i < n, F i < F (i + 1)
  top : F n = e
  nd : (bs.map (·.1)).Nodup
  rng : ∀ q ∈ bs, 0 ≤ q.1 ∧ q.1 < (n : Int)
  all : ∀ i < n, ∃ b, ((i : Int), b) ∈ bs
  pos : ∀ q ∈ bs, ∃ o : Nat, q.2 = F 0 + (o : Int) ∧ ∀ j : Nat, (j : Int) < F (q.1.toNat + 1) - F q.1.toNat → row[o + j]? = some (F q.1.toNat + (j : Int))
  src : ∀ p ∈ row, F 0 ≤ p ∧ p < e
  rnd : row.Nodup
theorem done_of {a₀ e : Int} {lots : List (List Int)} (order : List Int) (h : LotsOk a₀ lots e) : Done (bd lots e) lots.length (rowF lots order) (initF (firstsOf lots) order e) e := by
  have B := bounds h
  have hl := firstsOf_len lots
  have up := fun i hi => (B.up i hi).1
  have hF : ∀ i < lots.length, bd lots e i = (firstsOf lots).getD i 0 := fun i hi => by rw [bd, if_pos hi]
  have h0 : (firstsOf lots).headD e = bd lots e 0 := by
    rw [bd]
    cases hf : firstsOf lots with
    | nil => rw [hf] at hl; rw [if_neg (by rw [← hl]; exact Nat.lt_irrefl 0)]; rfl
    | cons x xs => rw [hf] at hl; rw [if_pos (by rw [← hl]; exact Nat.succ_pos _)]; rfl
  obtain ⟨p, _, pa⟩ := plan_fold B hF hl (order ++ rangeKs 0 lots.length) ([], []) ([], (firstsOf lots).headD e)
    ⟨rfl, by rw [h0]; simp, (fun _ h => nomatch h), List.nodup_nil, (fun _ h => nomatch h), (fun _ h => nomatch h), List.nodup_nil⟩
  have e1 : ((order ++ rangeKs 0 lots.length).foldl (rowStep lots) ([], [])).1 = rowF lots order := rfl
  have e2 : ((order ++ rangeKs 0 lots.length).foldl (initStep (firstsOf lots) e) ([], (firstsOf lots).headD e)).1 = initF (firstsOf lots) order e := by rw [initF, hl]
  rw [e1, e2] at p
  refine ⟨up, B.top, p.keys ▸ p.nd, fun q hq => p.rng _ (p.keys ▸ List.mem_map_of_mem hq), fun i hi => ?_, p.pos, fun k hk => ?_, p.rnd⟩
  · have := pa (i : Int) (List.mem_append_right _ (rangeKs_mem.mpr ⟨Int.natCast_nonneg i, by rw [Int.zero_add]; exact Int.ofNat_lt.mpr hi⟩)) (Int.natCast_nonneg i) (Int.ofNat_lt.mpr hi)
    rw [← p.keys] at this
    obtain ⟨⟨i', b⟩, hm, hq⟩ := List.mem_map.mp this
    exact ⟨b, by rw [← hq]; exact hm⟩
  · obtain ⟨q, hq, c1, c2⟩ := p.src k hk
    have hr := p.rng q hq
    have hq' := tn_lt hr.1 hr.2
    exact ⟨Int.le_trans (mono_le up (Nat.zero_le _) (Nat.le_of_lt hq')) c1, Int.lt_of_lt_of_le c2 (Int.le_trans (mono_le up hq' (Nat.le_refl _)) (Int.le_of_eq B.top))⟩
/-- no more than there is room for -/
theorem len_le {l m : List Int} (hn : l.Nodup) (hs : ∀ x ∈ l, x ∈ m) : l.length ≤ m.length := by
  induction l generalizing m with
  | nil => exact Nat.zero_le _
  | cons x t ih =>
    have hx := hs x (.head _)
    have hn' := List.nodup_cons.mp hn
    have := ih (m := m.erase x) hn'.2 fun y hy => (List.mem_erase_of_ne (by rintro rfl; exact hn'.1 hy)).mpr (hs y (.tail _ hy))
    rw [List.length_erase_of_mem hx] at this
    have hpos : 0 < m.length := List.length_pos_of_mem hx
    exact Nat.add_le_of_le_sub hpos this
theorem perm_of {l m : List Int} (hn : l.Nodup) (hs : ∀ x ∈ l, x ∈ m) (hl : m.length ≤ l.length) : l.Perm m := by
  induction l generalizing m with
  | nil => rw [List.length_eq_zero_iff.mp (Nat.le_zero.mp hl)]
  | cons x t ih =>
    have hx := hs x (.head _)
    have hn' := List.nodup_cons.mp hn
    refine (List.Perm.cons x (ih (m := m.erase x) hn'.2 (fun y hy => (List.mem_erase_of_ne (by rintro rfl; exact hn'.1 hy)).mpr (hs y (.tail _ hy))) ?_)).trans (List.perm_cons_erase hx).symm
    rw [List.length_erase_of_mem hx]
    exact Nat.sub_le_of_le_add hl
theorem lookup_of {bs : List (Int × Int)} {k b : Int} (hn : (bs.map (·.1)).Nodup) (h : (k, b) ∈ bs) : bs.lookup k = some b := by
  induction bs with
  | nil => nomatch h
  | cons q t ih =>
    obtain ⟨k', b'⟩ := q
    rw [List.map_cons, List.nodup_cons] at hn
    rcases List.mem_cons.mp h with h | h
    · injection h with h1 h2
      subst h1; subst h2
      simp [List.lookup]
    · have : k ≠ k' := fun e => hn.1 (e ▸ List.mem_map_of_mem (f := (·.1)) h)
      rw [List.lookup_cons, show (k == k') = false by simpa using this]
      exact ih hn.2 h
theorem lotGo_at {firsts : List Int} {p : Int} {i : Nat} (hi : i < firsts.length) (h1 : ∀ j, 1 ≤ j → j ≤ i → firsts.getD j 0 ≤ p) (h2 : ¬ (i + 1 < firsts.length ∧ firsts.getD (i + 1) 0 ≤ p)) :
    ∀ k l, l ≤ i → i ≤ l + k → lotGo firsts p k l = i
  | 0, l, a, b => by rw [lotGo]; exact Nat.le_antisymm a b
  | k + 1, l, a, b => by
    by_cases c : l = i
    · subst c; exact lotGo_stop h2
    · have hlt : l < i := Nat.lt_of_le_of_ne a c
      rw [lotGo, if_pos ⟨Nat.lt_of_le_of_lt hlt hi, h1 _ (Nat.succ_le_succ (Nat.zero_le l)) hlt⟩]
      exact lotGo_at hi h1 h2 k (l + 1) hlt (by rw [Nat.add_right_comm]; exact b)
theorem find_lot {F : Nat → Int} {n : Nat} (p : Int) (up : ∀ i < n, F i < F (i + 1)) (a : F 0 ≤ p) (b : p < F n) : ∃ i < n, F i ≤ p ∧ p < F (i + 1) := by
  induction n with
  | zero => exact absurd b (Int.not_lt.mpr a)
  | succ n ih =>
    by_cases c : p < F n
    · obtain ⟨i, hi, h⟩ := ih (fun i hi => up i (Nat.lt_succ_of_lt hi)) c
      exact ⟨i, Nat.lt_succ_of_lt hi, h⟩
    · exact ⟨n, Nat.lt_succ_self n, Int.not_lt.mp c, b⟩
section
variable {a₀ e : Int} {lots : List (List Int)} {order : List Int}
/-- a primary of the lots: its lot, its beginning, its place -/
theorem at_row (h : LotsOk a₀ lots e) {k : Int} (a : bd lots e 0 ≤ k) (b : k < e) : ∃ (i : Nat) (o j : Nat), i < lots.length ∧ ((i : Int), bd lots e 0 + (o : Int)) ∈ initF (firstsOf lots) order e ∧ k = bd lots e i + (j : Int) ∧ (j : Int) < bd lots e (i + 1) - bd lots e i ∧
    (rowF lots order)[o + j]? = some k := by
  have D := done_of order h
  obtain ⟨i, hi, c, d⟩ := find_lot k D.up a (by rw [D.top]; exact b)
  obtain ⟨b', hb⟩ := D.all i hi
  obtain ⟨o, ho, hp⟩ := D.pos _ hb
  dsimp only [Int.toNat_natCast] at ho hp
  subst ho
  refine ⟨i, o, (k - bd lots e i).toNat, hi, hb, (tn_sub c).symm, tn_sublt c d, ?_⟩
  rw [hp _ (tn_sublt c d), tn_sub c]
theorem idx_of {l : List Int} {k : Int} {i : Nat} (hn : l.Nodup) (h : l[i]? = some k) : l.idxOf k = i := by
  obtain ⟨hi, rfl⟩ := List.getElem?_eq_some_iff.mp h
  exact hn.idxOf_getElem i hi
theorem not_row (h : LotsOk a₀ lots e) {k : Int} (hn : ¬ (bd lots e 0 ≤ k ∧ k < e)) : k ∉ rowF lots order := fun hm => hn ((done_of order h).src k hm)
theorem lawMv_in (h : LotsOk a₀ lots e) {k : Int} {i : Nat} (hk : (rowF lots order)[i]? = some k) : lawMv lots order k = bd lots e 0 + (i : Int) := by
  have D := done_of order h
  have hm : k ∈ rowF lots order := List.mem_of_getElem? hk
  have hs := D.src k hm
  have h0 : 0 < lots.length := by
    rcases Nat.eq_zero_or_pos lots.length with h0 | h0
    · have := D.top; rw [h0] at this; exact absurd (Int.lt_of_lt_of_le hs.2 (Int.le_of_eq this.symm)) (Int.not_lt.mpr hs.1)
    · exact h0
  rw [lawMv, if_pos hm, idx_of D.rnd hk, bd, if_pos h0]
theorem lawMv_out (h : LotsOk a₀ lots e) {k : Int} (hn : ¬ (bd lots e 0 ≤ k ∧ k < e)) : lawMv lots order k = k := by rw [lawMv, if_neg (not_row h hn)]
theorem cond_iff (h : LotsOk a₀ lots e) (k : Int) : (firstsOf lots = [] ∨ k < (firstsOf lots).getD 0 0 ∨ e ≤ k) ↔ ¬ (bd lots e 0 ≤ k ∧ k < e) := by
  have D := bounds h
  have hl := firstsOf_len lots
  by_cases c : lots.length = 0
  · have h1 : firstsOf lots = [] := List.length_eq_zero_iff.mp (hl.trans c)
    have := D.top
    rw [c] at this
    exact ⟨fun _ hk => absurd (Int.lt_of_lt_of_le hk.2 (Int.le_of_eq this.symm)) (Int.not_lt.mpr hk.1), fun _ => .inl h1⟩
  · have h1 : firstsOf lots ≠ [] := fun e => c (by rw [← hl, e]; rfl)
    have h2 : bd lots e 0 = (firstsOf lots).getD 0 0 := by rw [bd, if_pos (Nat.pos_of_ne_zero c)]
    rw [h2]
    exact ⟨fun h => tn_cond.mp (h.resolve_left h1), fun h => .inr (tn_cond.mpr h)⟩
theorem plain_moved (h : LotsOk a₀ lots e) (k : Int) : movedF (firstsOf lots) (initF (firstsOf lots) order e) e k = lawMv lots order k := by
  by_cases c : bd lots e 0 ≤ k ∧ k < e
  · rw [movedF, if_neg fun hc => (cond_iff h k).mp hc c]
    obtain ⟨i, o, j', hi, hb, hk, hj, hr⟩ := at_row (order := order) h c.1 c.2
    have D := done_of order h
    have hl := firstsOf_len lots
    have hF : ∀ i < lots.length, bd lots e i = (firstsOf lots).getD i 0 := fun i hi => by rw [bd, if_pos hi]
    have hlot : lotOf (firstsOf lots) k = i := by
      refine lotGo_at (hl.symm ▸ hi) (fun j h1 h2 => ?_) ?_ _ _ (Nat.zero_le _) (by rw [Nat.zero_add, hl]; exact Nat.le_of_lt hi)
      · rw [← hF j (Nat.lt_of_le_of_lt h2 hi)]
        exact Int.le_trans (mono_le D.up h2 (Nat.le_of_lt hi)) (hk ▸ Int.le_add_of_nonneg_right (Int.natCast_nonneg j'))
      · rintro ⟨h1, h2⟩
        rw [← hF (i + 1) (hl ▸ h1), hk] at h2
        exact absurd (Int.lt_of_lt_of_le (Int.add_lt_of_lt_sub_left hj) h2) (Int.lt_irrefl _)
    rw [hlot, lookup_of D.nd hb, lawMv_in h hr, ← hF i hi, Option.getD_some]
    exact (congrArg (fun k => bd lots e 0 + (o : Int) + k - bd lots e i) hk).trans tn_mv
  · rw [movedF, if_pos ((cond_iff h k).mpr c), lawMv_out h c]
theorem row_len (h : LotsOk a₀ lots e) : ((rowF lots order).length : Int) ≤ e - bd lots e 0 := by
  have D := done_of order h
  have h0 : bd lots e 0 ≤ e := Int.le_trans (mono_le D.up (Nat.zero_le _) (Nat.le_refl _)) (Int.le_of_eq D.top)
  have := len_le (m := rangeKs (bd lots e 0) (e - bd lots e 0).toNat) D.rnd fun x hx => rangeKs_mem.mpr (by rw [tn_sub h0]; exact D.src x hx)
  rw [rangeKs_len] at this
  exact Int.le_trans (Int.ofNat_le.mpr this) (Int.le_of_eq (Int.toNat_of_nonneg (Int.sub_nonneg.mpr h0)))
theorem plain_unmoved (h : LotsOk a₀ lots e) (k : Int) : unmovedF (firstsOf lots) (initF (firstsOf lots) order e) e (lawMv lots order k) = k := by
  by_cases c : bd lots e 0 ≤ k ∧ k < e
  · obtain ⟨i, o, j, hi, hb, hk, hj, hr⟩ := at_row (order := order) h c.1 c.2
    have D := done_of order h
    have hl := firstsOf_len lots
    have hF : ∀ i < lots.length, bd lots e i = (firstsOf lots).getD i 0 := fun i hi => by rw [bd, if_pos hi]
    have hlen := row_len (order := order) h
    have hio := (List.getElem?_eq_some_iff.mp hr).1
    rw [lawMv_in h hr, unmovedF, if_neg fun hc => (cond_iff h _).mp hc (tn_place hlen hio)]
    have hhit : ∀ q ∈ initF (firstsOf lots) order e, unHit (firstsOf lots) e (bd lots e 0 + ((o + j : Nat) : Int)) q = decide (q.2 ≤ bd lots e 0 + ((o + j : Nat) : Int) ∧ bd lots e 0 + ((o + j : Nat) : Int) < q.2 + (bd lots e (q.1.toNat + 1) - bd lots e q.1.toNat)) := by
      intro q hq
      have hr := D.rng q hq
      have e1 : (if q.1 + 1 < ((firstsOf lots).length : Int) then (firstsOf lots).getD (q.1 + 1).toNat 0 else e) = bd lots e (q.1.toNat + 1) := by
        by_cases c2 : q.1 + 1 < ((firstsOf lots).length : Int)
        · rw [if_pos c2, hF (q.1.toNat + 1) (tn_next hl hr.1 c2), tn_succ hr.1]
        · rw [if_neg c2, tn_last hl hr.1 hr.2 c2, D.top]
      rw [unHit, e1, ← hF q.1.toNat (tn_lt hr.1 hr.2)]
      exact decide_eq_decide.mpr tn_un
    cases hf : (initF (firstsOf lots) order e).find? (unHit (firstsOf lots) e (bd lots e 0 + ((o + j : Nat) : Int))) with
    | none =>
      have := List.find?_eq_none.mp hf _ hb
      rw [hhit _ hb] at this
      exact absurd (decide_eq_true (by dsimp only [Int.toNat_natCast]; exact tn_hit hj)) this
    | some q =>
      have hq := List.mem_of_find?_eq_some hf
      have hc := List.find?_some hf
      rw [hhit q hq] at hc
      have hc := of_decide_eq_true hc
      obtain ⟨o', e', hp⟩ := D.pos q hq
      have hr2 := D.rng q hq
      obtain ⟨t1, t2, t3⟩ := tn_o e' hc
      have := hp (o + j - o') t2
      rw [Nat.add_sub_of_le t1, hr] at this
      dsimp only
      rw [← hF q.1.toNat (tn_lt hr2.1 hr2.2)]
      exact (t3 _).trans (Option.some.inj this).symm
  · rw [lawMv_out h c, unmovedF, if_pos ((cond_iff h k).mpr c)]
theorem plain_all (h : LotsOk a₀ lots e) : ∀ l < (firstsOf lots).length, ((initF (firstsOf lots) order e).lookup (l : Int)).isSome = true := by
  intro l hl
  have D := done_of order h
  obtain ⟨b, hb⟩ := D.all l (by rw [← firstsOf_len lots]; exact hl)
  rw [lookup_of D.nd hb]; rfl
theorem plain_keys (h : LotsOk a₀ lots e) : ∀ q ∈ initF (firstsOf lots) order e, 0 ≤ q.1 ∧ q.1 < ((firstsOf lots).length : Int) := by
  rw [firstsOf_len]; exact (done_of order h).rng
theorem plain_len (h : LotsOk a₀ lots e) (h5 : lots.length ≤ 5) : (rowF lots order).length ≤ 30 := by
  have := row_len (order := order) h
  have hb := h.bounds
  have := (bounds h).start
  omega
end
theorem plain_pos {lots : List (List Int)} {order : List Int} {k : Int} (h : k ∈ rowF lots order) : 1 ≤ (firstsOf lots).length := by
  rw [firstsOf_len]
  rcases Nat.eq_zero_or_pos lots.length with h0 | h0
  · exfalso
    have hs : ∀ (all : List Int) (st : List Int × List Int), all.foldl (rowStep lots) st = st := by
      intro all
      induction all with
      | nil => intro st; rfl
      | cons y t ih => intro st; rw [List.foldl_cons, rowStep, if_neg (by omega)]; exact ih st
    rw [rowF, hs] at h
    nomatch h
  · exact h0
theorem fsIs_fst (f : Int → Int) (n : Nat) : (fsIs f n).map (·.1) = rangeKs 0 n := by
  simp only [fsIs, rangeKs, List.map_map]
  exact List.map_congr_left fun i _ => by simp
theorem plain_perm {a₀ e : Int} {lots : List (List Int)} {order : List Int} (h : LotsOk a₀ lots e) (h2 : 2 ≤ a₀) : (((fsIs (lawMv lots order) (e + 4 - 0).toNat).map (·.1)).map (lawMv lots order)).Perm ((fsIs (lawMv lots order) (e + 4 - 0).toNat).map (·.1)) := by
  rw [fsIs_fst]
  have hinj : ∀ x y, lawMv lots order x = lawMv lots order y → x = y := fun x y hxy => by
    rw [← plain_unmoved (order := order) h x, hxy, plain_unmoved h y]
  refine perm_of ?_ ?_ (by rw [List.length_map]; exact Nat.le_refl _)
  · rw [List.nodup_iff_pairwise_ne, List.pairwise_map]
    exact (rangeKs_nodup _ _).imp fun hn he => hn (hinj _ _ he)
  · intro x hx
    obtain ⟨k, hk, rfl⟩ := List.mem_map.mp hx
    rw [tn_all] at hk ⊢
    have hS := (bounds h).start
    by_cases c : bd lots e 0 ≤ k ∧ k < e
    · obtain ⟨i, o, j, _, _, _, _, hr⟩ := at_row (order := order) h c.1 c.2
      have hlen := row_len (order := order) h
      have hio := (List.getElem?_eq_some_iff.mp hr).1
      rw [lawMv_in h hr]
      exact tn_last2 hS h2 (tn_place hlen hio)
    · rw [lawMv_out h c]; exact hk
theorem pos_of {vs : List Value} {cells : List Int} (h : IntsAre vs cells) (a : decide (cells = []) = false) : 0 < vs.length := by
  rw [h.length]
  cases cells with
  | nil => simp at a
  | cons => simp
set_option maxHeartbeats 8000000 in
theorem next_spec {w : World} {p : Program} {loose : List Str} {mean : ExcName → Option Value} {mg mb : Str → Option Value}
    {dp un : Nat} {gd : Option (List Code)} {cn : Str} {cs : Scope} {a : Addr} {ccd : Value} {cl : List (Str × Addr)} {outer : List Env} {A₀ : Around} {base h₀ : Heap} {L : Addr} {m : Str → Option Value} {s : Shared} {Q E : Value → Shared → Prop}
    {aT aC : Addr} {oT : Obj} {vs : List Value} {cells : List Int} {seed below : Int} {ts tb : Tok} {n : Nat} {rest : List (Addr × Obj)}
    (B : Below A₀ base outer h₀) (F : Fr h₀ L s.heap m) (X : (hd.heap_39 w.params).In h₀) (N : News h₀ L s.heap [(aT, oT), (aC, listOf vs.toArray n)]) (T : Top p loose mean mg mb h₀) (hk : cs.kind = .function)
    (M : News h₀ L s.heap rest) (off : ∀ q ∈ [(aT, oT), (aC, listOf vs.toArray n)], ∀ p ∈ rest, q.1 ≠ p.1)
    (hT : oT.IsDictOf (strKind PySem.Challenge.rw_pq1297_01.row.prog w) [("cells", .ref aC), ("seed", .int seed ts)]) (hC : IntsAre vs cells) (hlen : vs.length ≤ 64) (hs0 : 0 ≤ seed) (hs1 : seed < 999853) (hne : @Ne Nat aT aC) (hb : 0 < below)
    (hd : dp + 1 < recursionLimit) (hu : un + 200 < cLine)
    (ret : ∀ x t oT' vs' cells' seed' ts' n' h' tk', 0 ≤ x → x < below → oT'.IsDictOf (strKind PySem.Challenge.rw_pq1297_01.row.prog w) [("cells", .ref aC), ("seed", .int seed' ts')] → IntsAre vs' cells' → vs'.length ≤ 64 → 0 ≤ seed' → seed' < 999853 →
      Fr h₀ L h' m → News h₀ L h' [(aT, oT'), (aC, listOf vs'.toArray n')] → News h₀ L h' rest → Q (.int x t) { s with heap := h', toks := tk' }) :
    wpAny (model PySem.Challenge.rw_pq1297_01.row.prog w) (ktrTop dp un gd cn cs L a ccd cl outer) (call (.ref 151) [.ref aT, .int below tb]) Q E s := by
  w_top off
  k_with_none
  k_with_none
  refine wpAny_call ?_
  k_dflt (refine' call_sub ?k1 ?k2 ?k3 ?k4 ?k5 ?kA ?kF ?kK ?k6 ?k7 ?k8 ?k9 ?kB ?_ ?c2 ?c3 ?c4 ?c5; (case kA => exact rfl); (case kF => exact rfl); (case kK => assumption); (case k1 => k_asm); (case k2 => k_asm); (case k3 => k_asm); (case k4 => exact N); (case k5 => k_asm); (case k6 => k_is); (case k7 => k_is); (case k8 => ktr_room); (case k9 => exact BindsTo.of_eq rfl); (case c5 => decide); (case kB => exact locs rfl); (case c2 => exact rfl); (case c3 => exact rfl); (case c4 => exact rfl); k_whole; intro g' L' h' FG' F' N' B' X' T' hg' lt'; (try dsimp only))
  k_steps
  · refine' ret _ _ _ vs cells _ _ _ _ _ ?e1 ?e2 ?e3 ?e4 ?e5 ?e6 ?e7 ?e8 ?e9 ?e10
    case e8 => k_asm
    case e9 => exact news_sub (by assumption) (fun _ h => .tail _ h)
    case e3 => assumption
    case e1 => exact fmod_lo _ hb
    case e2 => exact fmod_hi _ hb
    case e4 => exact hC
    case e5 => exact hlen
    case e6 => exact fmod_lo _ (by decide)
    case e7 => exact fmod_hi _ (by decide)
    case e10 => exact keep_rest M off hg' (by assumption)
  · have hpos : 0 < vs.length := pos_of hC (by assumption)
    k_steps
    refine' ret _ _ _ vs.dropLast cells.dropLast _ _ _ _ _ ?e1 ?e2 ?e3 ?e4 ?e5 ?e6 ?e7 ?e8 ?e9 ?e10
    case e8 => k_asm
    case e9 => exact news_sub (by assumption) (fun _ h => .tail _ h)
    case e3 => assumption
    case e1 => exact fmod_lo _ hb
    case e2 => exact fmod_hi _ hb
    case e4 => assumption
    case e5 => rw [List.length_dropLast]; omega
    case e6 => exact hs0
    case e7 => exact hs1
    case e10 => exact keep_rest M off hg' (by assumption)

/-- the contract of _law_next -/
theorem next_use {w : World} {p : Program} {loose : List Str} {mean : ExcName → Option Value} {mg mb : Str → Option Value}
    {dp un : Nat} {gd : Option (List Code)} {cn : Str} {cs : Scope} {a : Addr} {ccd : Value} {cl : List (Str × Addr)} {outer : List Env} {A₀ : Around} {base h₀ : Heap} {L : Addr} {m : Str → Option Value} {s : Shared} {Q E : Value → Shared → Prop}
    {aT aC : Addr} {oT : Obj} {vs : List Value} {below : Int} {tb : Tok} {n : Nat} {rest : Led}
    (B : Below A₀ base outer h₀) (F : Fr h₀ L s.heap m) (X : (hd.heap_39 w.params).In h₀) (N : News h₀ L s.heap ((aT, oT) :: (aC, listOf vs.toArray n) :: rest)) (T : Top p loose mean mg mb h₀) (hk : cs.kind = .function)
    (hT : TapeIs PySem.Challenge.rw_pq1297_01.row.prog w oT aC vs) (hne : @Ne Nat aT aC) (oT1 : ∀ q ∈ rest, q.1 ≠ aT) (oC1 : ∀ q ∈ rest, q.1 ≠ aC) (hb : 0 < below)
    (hd : dp + 1 < recursionLimit) (hu : un + 200 < cLine)
    (ret : ∀ x t oT' vs' n' h' tk', 0 ≤ x → x < below → TapeIs PySem.Challenge.rw_pq1297_01.row.prog w oT' aC vs' →
      Fr h₀ L h' m → News h₀ L h' ((aT, oT') :: (aC, listOf vs'.toArray n') :: rest) → Q (.int x t) { s with heap := h', toks := tk' }) :
    wpAny (model PySem.Challenge.rw_pq1297_01.row.prog w) (ktrTop dp un gd cn cs L a ccd cl outer) (call (.ref 151) [.ref aT, .int below tb]) Q E s := by
  obtain ⟨cells, seed, ts, h1, h2, h3, h4, h5⟩ := hT
  refine next_spec (n := n) B F X (news_sub N (fun p hp => ?_)) T hk (news_sub N (b := rest) (fun p hp => .tail _ (.tail _ hp))) ?_ h1 h2 h3 h4 h5 hne hb hd hu
    fun x t oT' vs' cells' seed' ts' n' h' tk' e1 e2 e3 e4 e5 e6 e7 e8 e9 e10 => ret x t oT' vs' n' h' tk' e1 e2 ⟨cells', seed', ts', e3, e4, e5, e6, e7⟩ e8 (news_app e9 e10)
  · rcases List.mem_cons.mp hp with rfl | hp
    · exact .head _
    · rw [List.mem_singleton.mp hp]; exact .tail _ (.head _)
  · intro q hq p hp
    rcases List.mem_cons.mp hq with rfl | hq
    · exact fun e => oT1 p hp e.symm
    · rw [List.mem_singleton.mp hq]; exact fun e => oC1 p hp e.symm

theorem next_pull {w : World} {p : Program} {loose : List Str} {mean : ExcName → Option Value} {mg mb : Str → Option Value}
    {dp un : Nat} {gd : Option (List Code)} {cn : Str} {cs : Scope} {a : Addr} {ccd : Value} {cl : List (Str × Addr)} {outer : List Env} {A₀ : Around} {base h₀ : Heap} {L : Addr} {m : Str → Option Value} {s : Shared} {Q E : Value → Shared → Prop}
    {aT aC : Addr} {oT : Obj} {vs : List Value} {below : Int} {tb : Tok} {n : Nat} {news r1 rest : Led}
    (B : Below A₀ base outer h₀) (F : Fr h₀ L s.heap m) (X : (hd.heap_39 w.params).In h₀) (N : News h₀ L s.heap news) (T : Top p loose mean mg mb h₀) (hk : cs.kind = .function)
    (hT : TapeIs PySem.Challenge.rw_pq1297_01.row.prog w oT aC vs) (P1 : Pull aT oT news r1) (P2 : Pull aC (listOf vs.toArray n) r1 rest) (hne : @Ne Nat aT aC) (oT1 : ∀ q ∈ rest, q.1 ≠ aT) (oC1 : ∀ q ∈ rest, q.1 ≠ aC) (hb : 0 < below)
    (hd : dp + 1 < recursionLimit) (hu : un + 200 < cLine)
    (ret : ∀ x t oT' vs' n' h' tk', 0 ≤ x → x < below → TapeIs PySem.Challenge.rw_pq1297_01.row.prog w oT' aC vs' →
      Fr h₀ L h' m → News h₀ L h' ((aT, oT') :: (aC, listOf vs'.toArray n') :: rest) → Q (.int x t) { s with heap := h', toks := tk' }) :
    wpAny (model PySem.Challenge.rw_pq1297_01.row.prog w) (ktrTop dp un gd cn cs L a ccd cl outer) (call (.ref 151) [.ref aT, .int below tb]) Q E s :=
  next_use B F X (news_sub N (P1.two P2)) T hk hT hne oT1 oC1 hb hd hu ret
section
theorem knil {m : Str → Option Value} : ∀ p ∈ ([] : List (Str × Value)), m p.1 = some p.2 := List.forall_mem_nil _
theorem kcons {m : Str → Option Value} {x : Str} {v : Value} {ps : List (Str × Value)} (h : m x = some v) (r : ∀ p ∈ ps, m p.1 = some p.2) : ∀ p ∈ (x, v) :: ps, m p.1 = some p.2 := List.forall_mem_cons.mpr ⟨h, r⟩
theorem anil {d : Addr} : ∀ p ∈ ([] : Led), p.1 ≠ d := List.forall_mem_nil _
theorem acons {d : Addr} {q : Addr × Obj} {l : Led} (h : q.1 ≠ d) (r : ∀ p ∈ l, p.1 ≠ d) : ∀ p ∈ q :: l, p.1 ≠ d := List.forall_mem_cons.mpr ⟨h, r⟩
local macro_rules | `(tactic| k_all) => `(tactic| first | assumption | exact anil | (refine' acons ?a ?b; (case a => k_ne); (case b => k_all)))
local macro_rules | `(tactic| k_mem) => `(tactic| first | exact List.mem_of_getElem? (i := 0) rfl | exact List.mem_of_getElem? (i := 1) rfl | exact List.mem_of_getElem? (i := 2) rfl | exact List.mem_of_getElem? (i := 3) rfl | exact List.mem_of_getElem? (i := 4) rfl | exact List.mem_of_getElem? (i := 5) rfl | exact List.mem_of_getElem? (i := 6) rfl | exact List.mem_of_getElem? (i := 7) rfl | exact List.mem_of_getElem? (i := 8) rfl | exact List.mem_of_getElem? (i := 9) rfl | exact List.mem_of_getElem? (i := 10) rfl | exact List.mem_of_getElem? (i := 11) rfl | exact List.mem_of_getElem? (i := 12) rfl | exact List.mem_of_getElem? (i := 13) rfl | exact List.mem_of_getElem? (i := 14) rfl | exact List.mem_of_getElem? (i := 15) rfl | exact List.mem_of_getElem? (i := 16) rfl | exact List.mem_of_getElem? (i := 17) rfl | exact List.mem_of_getElem? (i := 18) rfl | exact List.mem_of_getElem? (i := 19) rfl)
section
local macro_rules | `(tactic| walk_at "zz") => `(tactic| skip)
set_option maxHeartbeats 16000000 in
theorem opts_spec {w : World} {p : Program} {loose : List Str} {mean : ExcName → Option Value} {mg mb : Str → Option Value}
    {dp un : Nat} {gd : Option (List Code)} {cn : Str} {cs : Scope} {a : Addr} {ccd : Value} {cl : List (Str × Addr)} {outer : List Env} {A₀ : Around} {base h₀ : Heap} {L : Addr} {m : Str → Option Value} {s : Shared} {Q E : Value → Shared → Prop}
    {rest : Led} {y : Addr} {ts : Tok}
    (B : Below A₀ base outer h₀) (F : Fr h₀ L s.heap m) (X : (hd.heap_39 w.params).In h₀) (T : Top p loose mean mg mb h₀) (hk : cs.kind = .function)
    (M : News h₀ L s.heap rest) (off : ∀ q ∈ ([] : Led), ∀ p ∈ rest, q.1 ≠ p.1) (N : News h₀ L s.heap [])
    
    (hd : dp + 20 < recursionLimit) (hu : un + 400 < cLine)
    (ret : ∀ x dx t1 t2 t3 t4 t5 t6 t7 t8 h' tk', Fr h₀ L h' m → News h₀ L h' ([(x, instObj 33 dx), (dx, optDict w.params t1 t2 t3 t4 t5 t6 t7 t8 ts y)]) → News h₀ L h' rest → (∀ p ∈ ([(x, instObj 33 dx), (dx, optDict w.params t1 t2 t3 t4 t5 t6 t7 t8 ts y)] : Led), ∀ q ∈ rest, q.1 ≠ p.1) → Q (.ref x) { s with heap := h', toks := tk' })
    : wpAny (model PySem.Challenge.rw_pq1297_01.row.prog w) (ktrTop dp un gd cn cs L a ccd cl outer) (call (.ref 33) [] [("strength", .int 1 ts), ("reorder", .ref y)]) Q E s := by
  w_top off
  k_with_none
  k_with "call type:range" => (k_here; first | ((with_reducible show wpAny _ _ (call _ [Value.int _ _]) _ _ _); k_dflt (refine range1_rows (by k_asm) (by k_asm) ?_; intro h'9 tk'9 t1'9 u1'9 v1'9 R'9 F'9 N'9 _); (try k_sweep)) | ((with_reducible show wpAny _ _ (call _ [Value.int _ _, Value.int _ _]) _ _ _); k_dflt (refine range2_rows (by k_asm) (by k_asm) ?_; intro h'9 tk'9 t1'9 u1'9 v1'9 R'9 F'9 N'9 _); (try k_sweep)))
  k_with "call type:list" => (k_here; (with_reducible show wpAny _ _ (call (Value.type _) [Value.ref _]) _ _ _); k_dflt (refine' kll_range rfl ?k1 ?k2 ?k3 ?k4 (rangeSize_nat _ _) ?k6 ?_; (case k1 => k_asm); (case k2 => k_asm); (case k3 => with_reducible assumption); (case k4 => exact small_one (by omega) (by omega) (by omega) (by omega)); (case k6 => omega); k_whole); intro D'9 vs'9 c'9 h'9 tk'9 F'9 N'9 l19 hI'9; (try k_lt l19); (try k_sweep))
  k_dflt (refine' call_cls (news := rest) ?k1 ?k2 ?k3 ?k4 ?k5 ?k6 ?_; (case k1 => k_asm); (case k2 => k_asm); (case k3 => assumption); (case k4 => k_is); (case k5 => k_is); (case k6 => k_is); k_whole)
  intro x dx h0 F0 N0 lt0 lt1
  have M0 : News h₀ L h0 rest := fun p hp => N0 p (.tail _ (.tail _ hp))
  have V0 : News h₀ L h0 [(x, instObj 33 dx), (dx, dictOf [] 0)] := news_sub N0 (fun p hp => by simp only [List.mem_cons, List.not_mem_nil, or_false] at hp ⊢; rcases hp with h | h <;> simp [h])
  have off0 : ∀ q ∈ [(x, instObj 33 dx), (dx, dictOf [] 0)], ∀ p ∈ rest, q.1 ≠ p.1 := by
    intro q hq p hp
    have := lt0 p hp
    simp only [List.mem_cons, List.not_mem_nil, or_false] at hq
    rcases hq with rfl | rfl
    · exact Nat.ne_of_gt (Nat.lt_trans this lt1)
    · exact Nat.ne_of_gt this
  clear N0
  k_dflt (refine' call_sub (binds := [("self", .ref x), ("how", .str "shifted" 203), ("strength", .int 1 ts), ("is_backwards", .bool false), ("case_first", .str "" 205), ("has_case_level", .bool false), ("is_numeric", .bool false), ("reorder", .ref y), ("factors", .ref 22)]) ?k1 ?k2 ?k3 ?k4 ?k5 ?kA ?kF ?kK ?k6 ?k7 ?k8 ?k9 ?kB ?_ ?c2 ?c3 ?c4 ?c5; (case kA => exact rfl); (case kF => exact rfl); (case kK => assumption); (case k1 => k_asm); (case k2 => k_asm); (case k3 => k_asm); (case k4 => assumption); (case k5 => k_asm); (case k6 => k_is); (case k7 => k_is); (case k8 => ktr_room); (case k9 => exact binds_K (by k_in) rfl (by k_is) rfl rfl rfl); (case c5 => decide); (case kB => exact locs rfl); (case c2 => exact rfl); (case c3 => exact rfl); (case c4 => exact rfl); k_whole)
  intro g L' h1 FG F1 N1 B1 X1 T1 hg lt
  replace lt1 := ltN lt1
  (repeat' ((fail_if_success (with_reducible show wpAny _ _ (exec (Stmt.For _ _ _ _ _) _) _ _ _)); (fail_if_success (with_reducible show wpAny _ _ (pyIter _) _ _ _)); (fail_if_success (with_reducible show wpAny _ _ (eval (Expr.ListComp _ _ _ _) _) _ _ _)); (fail_if_success (with_reducible show wpAny _ _ (exec (Stmt.Assign _ (Expr.ListComp _ _ _ _) _) _) _ _ _)); (fail_if_success (with_reducible show LCg.CompSrc _ _ _ _ _ _ _ _ _ _ _ _ _ _)); (fail_if_success (with_reducible show wpAny _ _ (exec (Stmt.While _ _ _ _) _) _ _ _)); first | ((fail_if_success (fail_if_success k_unfold)); (show wpAny _ _ _ _ _ _); (try dsimp only)) | (k_unfold; (try dsimp only)) | ((first | (with_reducible show wpAny _ _ (exec _ _) _ _ _) | (with_reducible show wpAny _ _ (isTrue _ _) _ _ _) | (with_reducible show wpAny _ _ (eval (Expr.Call _ _ _ _) _) _ _ _) | (with_reducible show wpAny _ _ (eval (Expr.Compare _ _ _ _) _) _ _ _) | (with_reducible show wpAny _ _ (eval (Expr.Subscript _ _ _) _) _ _ _)); k_fold) | (k_end; wrow_close) | walk1 | (dsimp only; walk1) | (leave1; walk_say "STEP leave1"; try dsimp only) | fail "no step"))
  refine' ret _ _ _ _ _ _ _ _ _ _ _ _ ?z1 ?z2 ?z3 ?z4
  case z1 => k_asm
  case z2 => exact news_sub (by assumption) (by lcg_sub)
  case z3 => refine' keep_rest M0 off0 ?g1 ?g2; (case g1 => assumption); (case g2 => assumption)
  case z4 => refine' fresh_sub ?g2 M0 off0 ?g1 ?g3; (case g1 => assumption); (case g2 => assumption); (case g3 => lcg_sub)
end
section
local macro_rules | `(tactic| kwd_rel) => `(tactic| first | assumption | exact And.right (by first | assumption | exact And.right (by first | assumption | exact And.right (by first | assumption | exact And.right (by first | assumption | exact And.right (by first | assumption | exact And.right (by first | assumption | exact And.right (by first | assumption | exact And.right (by first | assumption | exact And.right (by first | assumption | exact And.right (by first | assumption | exact And.right (by assumption))))))))))))
local macro_rules | `(tactic| k_ne) => `(tactic| (refine neN ?_; (try dsimp only); first | assumption | exact Ne.symm (by assumption) | exact Nat.ne_of_lt (And.left (by kwd_rel)) | exact Nat.ne_of_gt (And.left (by kwd_rel)) | exact Nat.ne_of_lt (by kwd_rel) | exact Nat.ne_of_gt (by kwd_rel) | exact And.left (by kwd_rel) | exact Ne.symm (And.left (by kwd_rel)) | exact And.right (by kwd_rel) | exact Ne.symm (And.right (by kwd_rel)) | omega))
set_option maxHeartbeats 16000000 in
theorem tape_spec {w : World} {p : Program} {loose : List Str} {mean : ExcName → Option Value} {mg mb : Str → Option Value}
    {dp un : Nat} {gd : Option (List Code)} {cn : Str} {cs : Scope} {a : Addr} {ccd : Value} {cl : List (Str × Addr)} {outer : List Env} {A₀ : Around} {base h₀ : Heap} {L : Addr} {m : Str → Option Value} {s : Shared} {Q E : Value → Shared → Prop}
    {rest : Led} {aS : Addr} {vs : List Value} {ns : List Int}
    (B : Below A₀ base outer h₀) (F : Fr h₀ L s.heap m) (X : (hd.heap_39 w.params).In h₀) (T : Top p loose mean mg mb h₀) (hk : cs.kind = .function)
    (M : News h₀ L s.heap rest) (off : ∀ q ∈ ([] : Led), ∀ p ∈ rest, q.1 ≠ p.1) (N : News h₀ L s.heap [])
    (hS : h₀.IsList aS vs.toArray) (hI : IntsAre vs ns) (hlen : ns.length ≤ 63)
    (hd : dp + 20 < recursionLimit) (hu : un + 400 < cLine)
    (ret : ∀ aT aC oT' vs' n' h' tk', TapeIs PySem.Challenge.rw_pq1297_01.row.prog w oT' aC vs' → @Ne Nat aT aC → Fr h₀ L h' m → News h₀ L h' ((aT, oT') :: (aC, listOf vs'.toArray n') :: []) → News h₀ L h' rest → (∀ p ∈ ((aT, oT') :: (aC, listOf vs'.toArray n') :: [] : Led), ∀ q ∈ rest, q.1 ≠ p.1) → Q (.ref aT) { s with heap := h', toks := tk' })
    : wpAny (model PySem.Challenge.rw_pq1297_01.row.prog w) (ktrTop dp un gd cn cs L a ccd cl outer) (call (.ref 144) [.ref aS]) Q E s := by
  w_top off
  k_with_none
  k_with "call type:range" => (k_here; first | ((with_reducible show wpAny _ _ (call _ [Value.int _ _]) _ _ _); k_dflt (refine range1_rows (by k_asm) (by k_asm) ?_; intro h'9 tk'9 t1'9 u1'9 v1'9 R'9 F'9 N'9 _); (try k_sweep)) | ((with_reducible show wpAny _ _ (call _ [Value.int _ _, Value.int _ _]) _ _ _); k_dflt (refine range2_rows (by k_asm) (by k_asm) ?_; intro h'9 tk'9 t1'9 u1'9 v1'9 R'9 F'9 N'9 _); (try k_sweep)))
  refine wpAny_call ?_
  (k_dflt (refine' call_sub ?k1 ?k2 ?k3 ?k4 ?k5 ?kA ?kF ?kK ?k6 ?k7 ?k8 ?k9 ?kB ?_ ?c2 ?c3 ?c4 ?c5; (case kA => exact rfl); (case kF => exact rfl); (case kK => assumption); (case k1 => k_asm); (case k2 => k_asm); (case k3 => k_asm); (case k4 => assumption); (case k5 => k_asm); (case k6 => k_is); (case k7 => k_is); (case k8 => ktr_room); (case k9 => exact BindsTo.of_eq rfl); (case c5 => decide); (case kB => exact locs rfl); (case c2 => exact rfl); (case c3 => exact rfl); (case c4 => exact rfl); k_whole; intro g9z L9z h9z FG9z F9z N9z B9z X9z T9z hg9z lt9z; (try dsimp only)))
  (rename Fr h₀ L _ m => FG)
  have hS' := hS.at (fun o e => FG.keep aS o e)
  clear FG
  (repeat' ((fail_if_success (with_reducible show wpAny _ _ (exec (Stmt.For _ _ _ _ _) _) _ _ _)); (fail_if_success (with_reducible show wpAny _ _ (pyIter _) _ _ _)); first | ((fail_if_success (fail_if_success k_unfold)); (show wpAny _ _ _ _ _ _); (try dsimp only)) | (k_unfold; (try dsimp only)) | ((first | (with_reducible show wpAny _ _ (exec _ _) _ _ _) | (with_reducible show wpAny _ _ (isTrue _ _) _ _ _) | (with_reducible show wpAny _ _ (eval (Expr.Call _ _ _ _) _) _ _ _) | (with_reducible show wpAny _ _ (eval (Expr.Compare _ _ _ _) _) _ _ _) | (with_reducible show wpAny _ _ (eval (Expr.Subscript _ _ _) _) _ _ _)); k_fold) | (k_end; wrow_close) | walk1 | (dsimp only; walk1) | (leave1; walk_say "STEP leave1"; try dsimp only) | fail "no step"))
  k_steps
  refine' ret _ _ _ _ _ _ _ ?e1 ?e2 ?e3 ?e4 ?e5 ?e6
  case e3 => k_asm
  case e1 => exact tape_is (by assumption) (by assumption)
  case e4 => exact news_sub (by assumption) (by lcg_sub)
  case e2 => k_ne
  case e5 => refine' keep_rest M off ?g1 ?g2; (case g1 => assumption); (case g2 => assumption)
  case e6 => refine' fresh_sub ?g2 M off ?g1 ?g3; (case g1 => assumption); (case g2 => assumption); (case g3 => lcg_sub)
section
local macro_rules | `(tactic| walk_at "zz") => `(tactic| skip)
set_option maxHeartbeats 16000000 in
theorem row_spec {w : World} {p : Program} {loose : List Str} {mean : ExcName → Option Value} {mg mb : Str → Option Value}
    {dp un : Nat} {gd : Option (List Code)} {cn : Str} {cs : Scope} {a : Addr} {ccd : Value} {cl : List (Str × Addr)} {outer : List Env} {A₀ : Around} {base h₀ : Heap} {L : Addr} {m : Str → Option Value} {s : Shared} {Q E : Value → Shared → Prop}
    {rest : Led} {aL aO : Addr} {refs os : List Value} {lots : List (List Int)} {order : List Int} {k no : Nat}
    (B : Below A₀ base outer h₀) (F : Fr h₀ L s.heap m) (X : (hd.heap_39 w.params).In h₀) (T : Top p loose mean mg mb h₀) (hk : cs.kind = .function)
    (M : News h₀ L s.heap rest) (off : ∀ q ∈ ([] : Led), ∀ p ∈ rest, q.1 ≠ p.1) (N : News h₀ L s.heap [])
    (hL : (aL, listOf refs.toArray k) ∈ rest) (hLs : Lots rest refs lots) (hO : (aO, listOf os.toArray no) ∈ rest) (hOI : IntsAre os order) (h5 : lots.length ≤ 5) (h6 : order.length ≤ 6) (hsz : ∀ l ∈ lots, l.length ≤ 6)
    (hd : dp + 20 < recursionLimit) (hu : un + 400 < cLine)
    (ret : ∀ aR rv nr h' tk', IntsAre rv (rowF lots order) → Fr h₀ L h' m → News h₀ L h' ((aR, listOf rv.toArray nr) :: []) → News h₀ L h' rest → (∀ p ∈ ((aR, listOf rv.toArray nr) :: [] : Led), ∀ q ∈ rest, q.1 ≠ p.1) → Q (.ref aR) { s with heap := h', toks := tk' })
    : wpAny (model PySem.Challenge.rw_pq1297_01.row.prog w) (ktrTop dp un gd cn cs L a ccd cl outer) (call (.ref 170) [.ref aL, .ref aO]) Q E s := by
  w_top off
  k_with_none
  k_with "call type:range" => (k_here; first | ((with_reducible show wpAny _ _ (call _ [Value.int _ _]) _ _ _); k_dflt (refine range1_rows (by k_asm) (by k_asm) ?_; intro h'9 tk'9 t1'9 u1'9 v1'9 R'9 F'9 N'9 _); (try k_sweep)) | ((with_reducible show wpAny _ _ (call _ [Value.int _ _, Value.int _ _]) _ _ _); k_dflt (refine range2_rows (by k_asm) (by k_asm) ?_; intro h'9 tk'9 t1'9 u1'9 v1'9 R'9 F'9 N'9 _); (try k_sweep)))
  k_with "call builtin:len" => (k_here; (with_reducible show wpAny _ _ (call (Value.builtin _) [Value.ref _]) _ _ _); (with_unfolding_all refine' len_any ?k1 ?k2 ?k3 ?_; (case k1 => is_list); (case k2 => assumption); (case k3 => omega); k_whole))
  refine wpAny_call ?_
  (k_dflt (refine' call_sub ?k1 ?k2 ?k3 ?k4 ?k5 ?kA ?kF ?kK ?k6 ?k7 ?k8 ?k9 ?kB ?_ ?c2 ?c3 ?c4 ?c5; (case kA => exact rfl); (case kF => exact rfl); (case kK => assumption); (case k1 => k_asm); (case k2 => k_asm); (case k3 => k_asm); (case k4 => assumption); (case k5 => k_asm); (case k6 => k_is); (case k7 => k_is); (case k8 => ktr_room); (case k9 => exact BindsTo.of_eq rfl); (case c5 => decide); (case kB => exact locs rfl); (case c2 => exact rfl); (case c3 => exact rfl); (case c4 => exact rfl); k_whole))
  intro g L' h1 FG F1 N1 B1 X1 T1 hg lt
  have hg2 : ∀ p ∈ rest, g.get? p.1 = some p.2 := fun p hp => hg p.1 p.2 (M p hp).1 (List.forall_mem_nil _)
  have hgL : g.IsList aL refs.toArray := ⟨_, hg2 _ hL, rfl, k, rfl⟩
  have hgO : g.IsList aO os.toArray := ⟨_, hg2 _ hO, rfl, no, rfl⟩
  have hrl : refs.length = lots.length := hLs.length
  (repeat' ((fail_if_success (with_reducible show wpAny _ _ (exec (Stmt.For _ _ _ _ _) _) _ _ _)); (fail_if_success (with_reducible show wpAny _ _ (pyIter _) _ _ _)); (fail_if_success (with_reducible show wpAny _ _ (eval (Expr.ListComp _ _ _ _) _) _ _ _)); (fail_if_success (with_reducible show wpAny _ _ (exec (Stmt.Assign _ (Expr.ListComp _ _ _ _) _) _) _ _ _)); (fail_if_success (with_reducible show LCg.CompSrc _ _ _ _ _ _ _ _ _ _ _ _ _ _)); first | ((fail_if_success (fail_if_success k_unfold)); (show wpAny _ _ _ _ _ _); (try dsimp only)) | (k_unfold; (try dsimp only)) | ((first | (with_reducible show wpAny _ _ (exec _ _) _ _ _) | (with_reducible show wpAny _ _ (isTrue _ _) _ _ _) | (with_reducible show wpAny _ _ (eval (Expr.Call _ _ _ _) _) _ _ _) | (with_reducible show wpAny _ _ (eval (Expr.Compare _ _ _ _) _) _ _ _) | (with_reducible show wpAny _ _ (eval (Expr.Subscript _ _ _) _) _ _ _)); k_fold) | (k_end; wrow_close) | walk1 | (dsimp only; walk1) | (leave1; walk_say "STEP leave1"; try dsimp only) | fail "no step"))
  (try ((with_reducible show wpAny _ _ _ _ _ _); k_fold))
  (rename Fr _ _ _ _ => lF'); k_dflt (refine' For_invVF lF' ?k1 ?k2 ?_; (case k1 => exact rfl); (case k2 => exact rfl); k_whole)
  (repeat' ((fail_if_success (with_reducible show wpAny _ _ (exec (Stmt.For _ _ _ _ _) _) _ _ _)); (fail_if_success (with_reducible show wpAny _ _ (pyIter _) _ _ _)); (fail_if_success (with_reducible show wpAny _ _ (eval (Expr.ListComp _ _ _ _) _) _ _ _)); (fail_if_success (with_reducible show wpAny _ _ (exec (Stmt.Assign _ (Expr.ListComp _ _ _ _) _) _) _ _ _)); (fail_if_success (with_reducible show LCg.CompSrc _ _ _ _ _ _ _ _ _ _ _ _ _ _)); first | ((fail_if_success (fail_if_success k_unfold)); (show wpAny _ _ _ _ _ _); (try dsimp only)) | (k_unfold; (try dsimp only)) | ((first | (with_reducible show wpAny _ _ (exec _ _) _ _ _) | (with_reducible show wpAny _ _ (isTrue _ _) _ _ _) | (with_reducible show wpAny _ _ (eval (Expr.Call _ _ _ _) _) _ _ _) | (with_reducible show wpAny _ _ (eval (Expr.Compare _ _ _ _) _) _ _ _) | (with_reducible show wpAny _ _ (eval (Expr.Subscript _ _ _) _) _ _ _)); k_fold) | (k_end; wrow_close) | walk1 | (dsimp only; walk1) | (leave1; walk_say "STEP leave1"; try dsimp only) | fail "no step"))
  refine' list_loop (RowJ lots (order ++ rangeKs 0 ((lots.length : Int) - 0).toNat) (_, listOf _ 0) aL _) ?a1 ?a2 ?a3 ?a4 ?a5 ?j0 ?turn ?done
  case a1 => exact rfl
  case a2 => assumption
  case a4 => assumption
  case' j0 => refine' ⟨[], [], 0, 0, _, [], [], rfl, .nil, .nil, rfl, Nat.le_refl _, Nat.le_refl _, ?j1, ?j2, ?j3, ?j4, ?j5⟩
  case a3 => exact .head _
  case j1 => k_dflt exact rfl
  case j2 => k_dflt exact rfl
  case j3 => k_dflt exact rfl
  case j4 => k_ne
  case j5 => (show @Ne Nat _ _); k_ne
  case a5 => exact news_sub (by assumption) (by lcg_sub)
  case turn =>
    rintro i nu t m₁ nx h tk own hi hoff hmem hJ01 F N
    (try ((with_reducible show wpAny _ _ _ _ _ _); k_fold))
    obtain ⟨metv, rowv, km, kr, aR, met, row, rfl, hM, hR, hst, l1, l2, m1, m2, m3, n1, n2⟩ := hJ01
    have q1 := hoff.ne (.head _)
    have q2 := hoff.ne (.tail _ (.head _))
    have q3 := hoff.ne (.tail _ (.tail _ (.head _)))
    have F1 := fr_kst [(_, _), (_, _), (_, _)] (kcons m1 (kcons m2 (kcons m3 (knil)))) F
    have N1 := news_sub N (b := (_, listOf _ _) :: (_, listOf metv.toArray km) :: (aR, listOf rowv.toArray kr) :: own) (fun p hp => hp)
    clear F N
    dsimp only [kstB] at F1
    have hi9 : i < 11 := by
      have := (List.getElem?_eq_some_iff.mp hi).1
      simp only [List.length_append, rangeKs_length] at this
      omega
    (repeat' ((fail_if_success (with_reducible show wpAny _ _ (exec (Stmt.For _ _ _ _ _) _) _ _ _)); (fail_if_success (with_reducible show wpAny _ _ (pyIter _) _ _ _)); (fail_if_success (with_reducible show wpAny _ _ (eval (Expr.ListComp _ _ _ _) _) _ _ _)); (fail_if_success (with_reducible show wpAny _ _ (exec (Stmt.Assign _ (Expr.ListComp _ _ _ _) _) _) _ _ _)); (fail_if_success (with_reducible show LCg.CompSrc _ _ _ _ _ _ _ _ _ _ _ _ _ _)); first | ((fail_if_success (fail_if_success k_unfold)); (show wpAny _ _ _ _ _ _); (try dsimp only)) | (k_unfold; (try dsimp only)) | ((first | (with_reducible show wpAny _ _ (exec _ _) _ _ _) | (with_reducible show wpAny _ _ (isTrue _ _) _ _ _) | (with_reducible show wpAny _ _ (eval (Expr.Call _ _ _ _) _) _ _ _) | (with_reducible show wpAny _ _ (eval (Expr.Compare _ _ _ _) _) _ _ _) | (with_reducible show wpAny _ _ (eval (Expr.Subscript _ _ _) _) _ _ _)); k_fold) | (k_end; wrow_close) | walk1 | (dsimp only; walk1) | (leave1; walk_say "STEP leave1"; try dsimp only) | fail "no step"))
    · refine' row_skip ?e1 ?e2 hoff hi hM hR hst l1 l2 n1 n2 ?e3 ?e4 ?e5 ?e6
      case e1 => assumption
      case e2 => assumption
      case e3 => exact fun hc => hc.2.2 (any_eq_true (by assumption))
      case e4 => k_dflt exact rfl
      case e5 => k_dflt exact rfl
      case e6 => k_dflt exact rfl
    · have hlt9 : nu.toNat < lots.length := by omega
      obtain ⟨aS, vS, nS, hr, hm, hIs⟩ := hLs.get hlt9
      have hgS : g.IsList aS vS.toArray := ⟨_, hg2 _ hm, rfl, _, rfl⟩
      have hsS : (lots.getD nu.toNat []).length ≤ 6 := hsz _ (by rw [List.getD_eq_getElem?_getD, List.getElem?_eq_getElem hlt9]; exact List.getElem_mem _)
      k_dflt (refine' item_any ?g1 ?g2 ?g3 hr ?_ ?g4; (case g1 => is_list); (case g2 => omega); (case g3 => omega); (case g4 => with_unfolding_all rfl))
      (repeat' ((fail_if_success (with_reducible show wpAny _ _ (exec (Stmt.For _ _ _ _ _) _) _ _ _)); (fail_if_success (with_reducible show wpAny _ _ (pyIter _) _ _ _)); (fail_if_success (with_reducible show wpAny _ _ (eval (Expr.ListComp _ _ _ _) _) _ _ _)); (fail_if_success (with_reducible show wpAny _ _ (exec (Stmt.Assign _ (Expr.ListComp _ _ _ _) _) _) _ _ _)); (fail_if_success (with_reducible show LCg.CompSrc _ _ _ _ _ _ _ _ _ _ _ _ _ _)); first | ((fail_if_success (fail_if_success k_unfold)); (show wpAny _ _ _ _ _ _); (try dsimp only)) | (k_unfold; (try dsimp only)) | ((first | (with_reducible show wpAny _ _ (exec _ _) _ _ _) | (with_reducible show wpAny _ _ (isTrue _ _) _ _ _) | (with_reducible show wpAny _ _ (eval (Expr.Call _ _ _ _) _) _ _ _) | (with_reducible show wpAny _ _ (eval (Expr.Compare _ _ _ _) _) _ _ _) | (with_reducible show wpAny _ _ (eval (Expr.Subscript _ _ _) _) _ _ _)); k_fold) | (k_end; wrow_close) | walk1 | (dsimp only; walk1) | (leave1; walk_say "STEP leave1"; try dsimp only) | fail "no step"))
      refine' row_take ?f1 ?f2 hoff hi hM hst l1 l2 n2 ?f3 ?f4 ?f5 ?f6 hsS ?f7 ?f10 ?f11 ?f12
      case f1 => assumption
      case f2 => assumption
      case f3 => assumption
      case f4 => assumption
      case f5 => assumption
      case f6 => assumption
      case f7 => assumption
      case f10 => k_dflt exact rfl
      case f11 => k_dflt exact rfl
      case f12 => k_dflt exact rfl
    · refine' row_skip ?e1 ?e2 hoff hi hM hR hst l1 l2 n1 n2 ?e3 ?e4 ?e5 ?e6
      case e1 => assumption
      case e2 => assumption
      case e3 => omega
      case e4 => k_dflt exact rfl
      case e5 => k_dflt exact rfl
      case e6 => k_dflt exact rfl
    · refine' row_skip ?e1 ?e2 hoff hi hM hR hst l1 l2 n1 n2 ?e3 ?e4 ?e5 ?e6
      case e1 => assumption
      case e2 => assumption
      case e3 => omega
      case e4 => k_dflt exact rfl
      case e5 => k_dflt exact rfl
      case e6 => k_dflt exact rfl
  case done =>
    rintro m₁ nx h tk hJ02 F N
    (try ((with_reducible show wpAny _ _ _ _ _ _); k_fold))
    obtain ⟨metv, rowv, km, kr, aR, met, row, rfl, hM, hR, hst, l1, l2, m1, m2, m3, n1, n2⟩ := hJ02
    have F1 := fr_kst0 [(_, _), (_, _), (_, _)] (kcons m1 (kcons m2 (kcons m3 (knil)))) F
    clear F
    dsimp only [kstB] at F1
    (repeat' ((fail_if_success (with_reducible show wpAny _ _ (exec (Stmt.For _ _ _ _ _) _) _ _ _)); (fail_if_success (with_reducible show wpAny _ _ (pyIter _) _ _ _)); (fail_if_success (with_reducible show wpAny _ _ (eval (Expr.ListComp _ _ _ _) _) _ _ _)); (fail_if_success (with_reducible show wpAny _ _ (exec (Stmt.Assign _ (Expr.ListComp _ _ _ _) _) _) _ _ _)); (fail_if_success (with_reducible show LCg.CompSrc _ _ _ _ _ _ _ _ _ _ _ _ _ _)); first | ((fail_if_success (fail_if_success k_unfold)); (show wpAny _ _ _ _ _ _); (try dsimp only)) | (k_unfold; (try dsimp only)) | ((first | (with_reducible show wpAny _ _ (exec _ _) _ _ _) | (with_reducible show wpAny _ _ (isTrue _ _) _ _ _) | (with_reducible show wpAny _ _ (eval (Expr.Call _ _ _ _) _) _ _ _) | (with_reducible show wpAny _ _ (eval (Expr.Compare _ _ _ _) _) _ _ _) | (with_reducible show wpAny _ _ (eval (Expr.Subscript _ _ _) _) _ _ _)); k_fold) | (k_end; wrow_close) | walk1 | (dsimp only; walk1) | (leave1; walk_say "STEP leave1"; try dsimp only) | fail "no step"))
    have hrow : IntsAre rowv (rowF lots order) := by
      rw [List.take_length, show ((lots.length : Int) - 0).toNat = lots.length by omega] at hst
      rw [rowF, hst]; exact hR
    refine' ret _ _ _ _ _ hrow ?h1 ?h2 ?h3 ?h4
    case h1 => k_asm
    case h2 => exact news_sub (by assumption) (by lcg_sub)
    case h3 => refine' keep_rest M off ?g1 ?g2; (case g1 => assumption); (case g2 => assumption)
    case h4 => refine' fresh_sub ?g2 M off ?g1 ?g3; (case g1 => assumption); (case g2 => assumption); (case g3 => lcg_sub)
end
set_option maxHeartbeats 16000000 in
theorem moved_spec {w : World} {p : Program} {loose : List Str} {mean : ExcName → Option Value} {mg mb : Str → Option Value}
    {dp un : Nat} {gd : Option (List Code)} {cn : Str} {cs : Scope} {a : Addr} {ccd : Value} {cl : List (Str × Addr)} {outer : List Env} {A₀ : Around} {base h₀ : Heap} {L : Addr} {m : Str → Option Value} {s : Shared} {Q E : Value → Shared → Prop}
    {rest : Led} {x dx aF2 aB : Addr} {fv : List Value} {firsts : List Int} {e p' : Int} {te tp t1 t2 t3 : Tok} {c : Nat} {oB : Obj} {kvs : List (Int × Value)} {bs : List (Int × Int)}
    (B : Below A₀ base outer h₀) (F : Fr h₀ L s.heap m) (X : (hd.heap_39 w.params).In h₀) (T : Top p loose mean mg mb h₀) (hk : cs.kind = .function)
    (M : News h₀ L s.heap rest) (off : ∀ q ∈ ([(x, instObj 76 dx), (dx, reoDict w.params t1 t2 t3 te aF2 aB e), (aF2, listOf fv.toArray c), (aB, oB)] : Led), ∀ p ∈ rest, q.1 ≠ p.1) (N : News h₀ L s.heap [(x, instObj 76 dx), (dx, reoDict w.params t1 t2 t3 te aF2 aB e), (aF2, listOf fv.toArray c), (aB, oB)])
    (hFI : IntsAre fv firsts) (hD : oB.IsDictOf (intKind PySem.Challenge.rw_pq1297_01.row.prog w) kvs) (hP : PairsAre kvs bs) (hB : ∀ l < firsts.length, (bs.lookup (l : Int)).isSome = true) (h5 : firsts.length ≤ 5)
    (hd : dp + 20 < recursionLimit) (hu : un + 400 < cLine)
    (ret : ∀ t h' tk', Fr h₀ L h' m → News h₀ L h' ([(x, instObj 76 dx), (dx, reoDict w.params t1 t2 t3 te aF2 aB e), (aF2, listOf fv.toArray c), (aB, oB)]) → News h₀ L h' rest → (∀ p ∈ ([(x, instObj 76 dx), (dx, reoDict w.params t1 t2 t3 te aF2 aB e), (aF2, listOf fv.toArray c), (aB, oB)] : Led), ∀ q ∈ rest, q.1 ≠ p.1) → Q (.int (movedF firsts bs e p') t) { s with heap := h', toks := tk' })
    : wpAny (model PySem.Challenge.rw_pq1297_01.row.prog w) (ktrTop dp un gd cn cs L a ccd cl outer) (call (.ref 66) [.ref x, .int p' tp]) Q E s := by
  w_top off
  k_with_none
  k_with "call type:range" => (k_here; first | ((with_reducible show wpAny _ _ (call _ [Value.int _ _]) _ _ _); k_dflt (refine range1_rows (by k_asm) (by k_asm) ?_; intro h'9 tk'9 t1'9 u1'9 v1'9 R'9 F'9 N'9 _); (try k_sweep)) | ((with_reducible show wpAny _ _ (call _ [Value.int _ _, Value.int _ _]) _ _ _); k_dflt (refine range2_rows (by k_asm) (by k_asm) ?_; intro h'9 tk'9 t1'9 u1'9 v1'9 R'9 F'9 N'9 _); (try k_sweep)))
  k_with "call type:list" => (k_here; (with_reducible show wpAny _ _ (call (Value.type _) [Value.ref _]) _ _ _); k_dflt (refine' kll_range rfl ?k1 ?k2 ?k3 ?k4 (rangeSize_nat _ _) ?k6 ?_; (case k1 => k_asm); (case k2 => k_asm); (case k3 => with_reducible assumption); (case k4 => exact small_one (by omega) (by omega) (by omega) (by omega)); (case k6 => omega); k_whole); intro D'9 vs'9 c'9 h'9 tk'9 F'9 N'9 l19 hI'9; (try k_lt l19); (try k_sweep))
  k_with "subscriptTail" => (k_here; (with_reducible show wpAny _ _ (subscriptTail _ _ (Value.ref _) (Value.int _ _)) _ _ _); k_dflt (refine' kdt_tail (knd := PySem.intKind _ _) ?a ?b ?c ?_; (case a => k_asm); (case b => k_mem); (case c => with_reducible assumption)))
  k_with "getItem ref int" => (k_here; k_dflt (refine' kdt_getItem (knd := PySem.intKind _ _) ?a ?b ?c (intKind_is _ _ _ _) ?d ?_; (case a => k_asm); (case b => k_mem); (case c => with_reducible assumption); (case d => with_reducible assumption)))
  refine wpAny_call ?_
  (k_dflt (refine' call_sub ?k1 ?k2 ?k3 ?k4 ?k5 ?kA ?kF ?kK ?k6 ?k7 ?k8 ?k9 ?kB ?_ ?c2 ?c3 ?c4 ?c5; (case kA => exact rfl); (case kF => exact rfl); (case kK => assumption); (case k1 => k_asm); (case k2 => k_asm); (case k3 => k_asm); (case k4 => assumption); (case k5 => k_asm); (case k6 => k_is); (case k7 => k_is); (case k8 => ktr_room); (case k9 => exact BindsTo.of_eq rfl); (case c5 => decide); (case kB => exact locs rfl); (case c2 => exact rfl); (case c3 => exact rfl); (case c4 => exact rfl); k_whole))
  intro g L' h1 FG F1 N1 B1 X1 T1 hg lt
  (repeat' ((fail_if_success (with_reducible show wpAny _ _ (exec (Stmt.For _ _ _ _ _) _) _ _ _)); (fail_if_success (with_reducible show wpAny _ _ (pyIter _) _ _ _)); (fail_if_success (with_reducible show wpAny _ _ (eval (Expr.ListComp _ _ _ _) _) _ _ _)); (fail_if_success (with_reducible show wpAny _ _ (exec (Stmt.Assign _ (Expr.ListComp _ _ _ _) _) _) _ _ _)); (fail_if_success (with_reducible show LCg.CompSrc _ _ _ _ _ _ _ _ _ _ _ _ _ _)); (fail_if_success (with_reducible show wpAny _ _ (exec (Stmt.While _ _ _ _) _) _ _ _)); first | ((fail_if_success (fail_if_success k_unfold)); (show wpAny _ _ _ _ _ _); (try dsimp only)) | (k_unfold; (try dsimp only)) | ((first | (with_reducible show wpAny _ _ (exec _ _) _ _ _) | (with_reducible show wpAny _ _ (isTrue _ _) _ _ _) | (with_reducible show wpAny _ _ (eval (Expr.Call _ _ _ _) _) _ _ _) | (with_reducible show wpAny _ _ (eval (Expr.Compare _ _ _ _) _) _ _ _) | (with_reducible show wpAny _ _ (eval (Expr.Subscript _ _ _) _) _ _ _)); k_fold) | (k_end; wrow_close) | walk1 | (dsimp only; walk1) | (leave1; walk_say "STEP leave1"; try dsimp only) | fail "no step"))
  · rw [show p' = movedF firsts bs e p' from (movedF_same (.inl (of_decide_eq_true (by assumption)))).symm]
    refine' ret _ _ _ ?za1 ?za2 ?za3 ?za4
    case za1 => k_asm
    case za2 => exact news_sub (by assumption) (by lcg_sub)
    case za3 => refine' keep_rest M off ?ga1 ?ga2; (case ga1 => assumption); (case ga2 => assumption)
    case za4 => refine' fresh_sub ?ga2 M off ?ga1 ?ga3; (case ga1 => assumption); (case ga2 => assumption); (case ga3 => lcg_sub)
  · have hpos : 0 < firsts.length := pos_of' (by assumption)
    (repeat' ((fail_if_success (with_reducible show wpAny _ _ (exec (Stmt.For _ _ _ _ _) _) _ _ _)); (fail_if_success (with_reducible show wpAny _ _ (pyIter _) _ _ _)); (fail_if_success (with_reducible show wpAny _ _ (eval (Expr.ListComp _ _ _ _) _) _ _ _)); (fail_if_success (with_reducible show wpAny _ _ (exec (Stmt.Assign _ (Expr.ListComp _ _ _ _) _) _) _ _ _)); (fail_if_success (with_reducible show LCg.CompSrc _ _ _ _ _ _ _ _ _ _ _ _ _ _)); (fail_if_success (with_reducible show wpAny _ _ (exec (Stmt.While _ _ _ _) _) _ _ _)); first | ((fail_if_success (fail_if_success k_unfold)); (show wpAny _ _ _ _ _ _); (try dsimp only)) | (k_unfold; (try dsimp only)) | ((first | (with_reducible show wpAny _ _ (exec _ _) _ _ _) | (with_reducible show wpAny _ _ (isTrue _ _) _ _ _) | (with_reducible show wpAny _ _ (eval (Expr.Call _ _ _ _) _) _ _ _) | (with_reducible show wpAny _ _ (eval (Expr.Compare _ _ _ _) _) _ _ _) | (with_reducible show wpAny _ _ (eval (Expr.Subscript _ _ _) _) _ _ _)); k_fold) | (k_end; wrow_close) | walk1 | (dsimp only; walk1) | (leave1; walk_say "STEP leave1"; try dsimp only) | fail "no step"))
    · rw [show p' = movedF firsts bs e p' from (movedF_same (.inr (.inl (by assumption)))).symm]
      refine' ret _ _ _ ?z1b ?z2b ?z3b ?z4b
      case z1b => k_asm
      case z2b => exact news_sub (by assumption) (by lcg_sub)
      case z3b => refine' keep_rest M off ?g1b ?g2b; (case g1b => assumption); (case g2b => assumption)
      case z4b => refine' fresh_sub ?g2b M off ?g1b ?g3b; (case g1b => assumption); (case g2b => assumption); (case g3b => lcg_sub)
    · rw [show p' = movedF firsts bs e p' from (movedF_same (.inr (.inr (by assumption)))).symm]
      refine' ret _ _ _ ?z1c ?z2c ?z3c ?z4c
      case z1c => k_asm
      case z2c => exact news_sub (by assumption) (by lcg_sub)
      case z3c => refine' keep_rest M off ?g1c ?g2c; (case g1c => assumption); (case g2c => assumption)
      case z4c => refine' fresh_sub ?g2c M off ?g1c ?g3c; (case g1c => assumption); (case g2c => assumption); (case g3c => lcg_sub)
    · refine' While_inv (MovedJ firsts p' tp x [(x, instObj 76 dx), (dx, reoDict w.params t1 t2 t3 te aF2 aB e), (aF2, listOf fv.toArray c), (aB, oB)]) (n₀ := firsts.length) ?w1 ?w2 ?w3 ?w4
      case w1 => assumption
      case w3 => exact ⟨rfl, 0, _, rfl, hpos, rfl, by k_dflt exact rfl, by k_dflt exact rfl, by k_dflt exact rfl⟩
      case w2 => exact news_sub (by assumption) (by lcg_sub)
      case w4 =>
        rintro n m₁ nx h tk F N hJ01
        (try ((with_reducible show wpAny _ _ _ _ _ _); k_fold))
        obtain ⟨rfl, l, tl, rfl, hl, hgo, m1, m2, m3⟩ := hJ01
        have F1 := fr_kst0 [(_, _), (_, _), (_, _)] (kcons m1 (kcons m2 (kcons m3 (knil)))) F
        clear F
        dsimp only [kstB] at F1
        obtain ⟨v, hv0⟩ := Option.isSome_iff_exists.mp (hB l hl)
        obtain ⟨tv, hv⟩ := hP.at hv0
        (repeat' ((fail_if_success (with_reducible show wpAny _ _ (exec (Stmt.For _ _ _ _ _) _) _ _ _)); (fail_if_success (with_reducible show wpAny _ _ (pyIter _) _ _ _)); (fail_if_success (with_reducible show wpAny _ _ (eval (Expr.ListComp _ _ _ _) _) _ _ _)); (fail_if_success (with_reducible show wpAny _ _ (exec (Stmt.Assign _ (Expr.ListComp _ _ _ _) _) _) _ _ _)); (fail_if_success (with_reducible show LCg.CompSrc _ _ _ _ _ _ _ _ _ _ _ _ _ _)); (fail_if_success (with_reducible show wpAny _ _ (exec (Stmt.While _ _ _ _) _) _ _ _)); first | ((fail_if_success (fail_if_success k_unfold)); (show wpAny _ _ _ _ _ _); (try dsimp only)) | (k_unfold; (try dsimp only)) | ((first | (with_reducible show wpAny _ _ (exec _ _) _ _ _) | (with_reducible show wpAny _ _ (isTrue _ _) _ _ _) | (with_reducible show wpAny _ _ (eval (Expr.Call _ _ _ _) _) _ _ _) | (with_reducible show wpAny _ _ (eval (Expr.Compare _ _ _ _) _) _ _ _) | (with_reducible show wpAny _ _ (eval (Expr.Subscript _ _ _) _) _ _ _)); k_fold) | (k_end; wrow_close) | walk1 | (dsimp only; walk1) | (leave1; walk_say "STEP leave1"; try dsimp only) | fail "no step"))
        · refine' moved_step ?y1 ?y2 ?y3 ?y4 hgo ?y5 ?y6 ?y7
          case y1 => assumption
          case y2 => assumption
          case y3 => assumption
          case y4 => assumption
          case y5 => k_dflt exact rfl
          case y6 => k_dflt exact rfl
          case y7 => k_dflt exact rfl
        · rw [← moved_exit1 (firsts := firsts) (bs := bs) (e := e) (p := p') (v := v) (l := l) (by assumption) (by assumption) (by assumption) hgo hv0 (by assumption)]
          refine' ret _ _ _ ?z1d ?z2d ?z3d ?z4d
          case z1d => k_asm
          case z2d => exact news_sub (by assumption) (by lcg_sub)
          case z3d => refine' keep_rest M off ?g1d ?g2d; (case g1d => assumption); (case g2d => assumption)
          case z4d => refine' fresh_sub ?g2d M off ?g1d ?g3d; (case g1d => assumption); (case g2d => assumption); (case g3d => lcg_sub)
        · rw [← moved_exit2 (firsts := firsts) (bs := bs) (e := e) (p := p') (v := v) (l := l) (by assumption) (by assumption) (by assumption) hgo hv0 (by assumption)]
          refine' ret _ _ _ ?z1f ?z2f ?z3f ?z4f
          case z1f => k_asm
          case z2f => exact news_sub (by assumption) (by lcg_sub)
          case z3f => refine' keep_rest M off ?g1f ?g2f; (case g1f => assumption); (case g2f => assumption)
          case z4f => refine' fresh_sub ?g2f M off ?g1f ?g3f; (case g1f => assumption); (case g2f => assumption); (case g3f => lcg_sub)
section
local macro_rules | `(tactic| walk_at "zz") => `(tactic| skip)
set_option maxHeartbeats 16000000 in
theorem unmoved_spec {w : World} {p : Program} {loose : List Str} {mean : ExcName → Option Value} {mg mb : Str → Option Value}
    {dp un : Nat} {gd : Option (List Code)} {cn : Str} {cs : Scope} {a : Addr} {ccd : Value} {cl : List (Str × Addr)} {outer : List Env} {A₀ : Around} {base h₀ : Heap} {L : Addr} {m : Str → Option Value} {s : Shared} {Q E : Value → Shared → Prop}
    {rest : Led} {x dx aF2 aB : Addr} {fv : List Value} {firsts : List Int} {e p' : Int} {te tp t1 t2 t3 : Tok} {c : Nat} {oB : Obj} {kvs : List (Int × Value)} {bs : List (Int × Int)}
    (B : Below A₀ base outer h₀) (F : Fr h₀ L s.heap m) (X : (hd.heap_39 w.params).In h₀) (T : Top p loose mean mg mb h₀) (hk : cs.kind = .function)
    (M : News h₀ L s.heap rest) (off : ∀ q ∈ ([(x, instObj 76 dx), (dx, reoDict w.params t1 t2 t3 te aF2 aB e), (aF2, listOf fv.toArray c), (aB, oB)] : Led), ∀ p ∈ rest, q.1 ≠ p.1) (N : News h₀ L s.heap [(x, instObj 76 dx), (dx, reoDict w.params t1 t2 t3 te aF2 aB e), (aF2, listOf fv.toArray c), (aB, oB)])
    (hFI : IntsAre fv firsts) (hD : oB.IsDictOf (intKind PySem.Challenge.rw_pq1297_01.row.prog w) kvs) (hP : PairsAre kvs bs) (hB : ∀ q ∈ bs, 0 ≤ q.1 ∧ q.1 < (firsts.length : Int)) (lo : (aB == sysModules) = false) (h5 : firsts.length ≤ 5)
    (hd : dp + 20 < recursionLimit) (hu : un + 400 < cLine)
    (ret : ∀ t h' tk', Fr h₀ L h' m → News h₀ L h' ([(x, instObj 76 dx), (dx, reoDict w.params t1 t2 t3 te aF2 aB e), (aF2, listOf fv.toArray c), (aB, oB)]) → News h₀ L h' rest → (∀ p ∈ ([(x, instObj 76 dx), (dx, reoDict w.params t1 t2 t3 te aF2 aB e), (aF2, listOf fv.toArray c), (aB, oB)] : Led), ∀ q ∈ rest, q.1 ≠ p.1) → Q (.int (unmovedF firsts bs e p') t) { s with heap := h', toks := tk' })
    : wpAny (model PySem.Challenge.rw_pq1297_01.row.prog w) (ktrTop dp un gd cn cs L a ccd cl outer) (call (.ref 73) [.ref x, .int p' tp]) Q E s := by
  w_top off
  k_with_none
  k_with "call type:range" => (k_here; first | ((with_reducible show wpAny _ _ (call _ [Value.int _ _]) _ _ _); k_dflt (refine range1_rows (by k_asm) (by k_asm) ?_; intro h'9 tk'9 t1'9 u1'9 v1'9 R'9 F'9 N'9 _); (try k_sweep)) | ((with_reducible show wpAny _ _ (call _ [Value.int _ _, Value.int _ _]) _ _ _); k_dflt (refine range2_rows (by k_asm) (by k_asm) ?_; intro h'9 tk'9 t1'9 u1'9 v1'9 R'9 F'9 N'9 _); (try k_sweep)))
  k_with "call type:list" => (k_here; (with_reducible show wpAny _ _ (call (Value.type _) [Value.ref _]) _ _ _); k_dflt (refine' kll_range rfl ?k1 ?k2 ?k3 ?k4 (rangeSize_nat _ _) ?k6 ?_; (case k1 => k_asm); (case k2 => k_asm); (case k3 => with_reducible assumption); (case k4 => exact small_one (by omega) (by omega) (by omega) (by omega)); (case k6 => omega); k_whole); intro D'9 vs'9 c'9 h'9 tk'9 F'9 N'9 l19 hI'9; (try k_lt l19); (try k_sweep))
  k_with "subscriptTail" => (k_here; (with_reducible show wpAny _ _ (subscriptTail _ _ (Value.ref _) (Value.int _ _)) _ _ _); k_dflt (refine' kdt_tail (knd := PySem.intKind _ _) ?a ?b ?c ?_; (case a => k_asm); (case b => k_mem); (case c => with_reducible assumption)))
  k_with "getItem ref int" => (k_here; k_dflt (refine' kdt_getItem (knd := PySem.intKind _ _) ?a ?b ?c (intKind_is _ _ _ _) ?d ?_; (case a => k_asm); (case b => k_mem); (case c => with_reducible assumption); (case d => with_reducible assumption)))
  refine wpAny_call ?_
  (k_dflt (refine' call_sub ?k1 ?k2 ?k3 ?k4 ?k5 ?kA ?kF ?kK ?k6 ?k7 ?k8 ?k9 ?kB ?_ ?c2 ?c3 ?c4 ?c5; (case kA => exact rfl); (case kF => exact rfl); (case kK => assumption); (case k1 => k_asm); (case k2 => k_asm); (case k3 => k_asm); (case k4 => assumption); (case k5 => k_asm); (case k6 => k_is); (case k7 => k_is); (case k8 => ktr_room); (case k9 => exact BindsTo.of_eq rfl); (case c5 => decide); (case kB => exact locs rfl); (case c2 => exact rfl); (case c3 => exact rfl); (case c4 => exact rfl); k_whole))
  intro g L' h1 FG F1 N1 B1 X1 T1 hg lt
  (repeat' ((fail_if_success (with_reducible show wpAny _ _ (exec (Stmt.For _ _ _ _ _) _) _ _ _)); (fail_if_success (with_reducible show wpAny _ _ (pyIter _) _ _ _)); (fail_if_success (with_reducible show wpAny _ _ (eval (Expr.ListComp _ _ _ _) _) _ _ _)); (fail_if_success (with_reducible show wpAny _ _ (exec (Stmt.Assign _ (Expr.ListComp _ _ _ _) _) _) _ _ _)); (fail_if_success (with_reducible show LCg.CompSrc _ _ _ _ _ _ _ _ _ _ _ _ _ _)); (fail_if_success (with_reducible show wpAny _ _ (exec (Stmt.While _ _ _ _) _) _ _ _)); first | ((fail_if_success (fail_if_success k_unfold)); (show wpAny _ _ _ _ _ _); (try dsimp only)) | (k_unfold; (try dsimp only)) | ((first | (with_reducible show wpAny _ _ (exec _ _) _ _ _) | (with_reducible show wpAny _ _ (isTrue _ _) _ _ _) | (with_reducible show wpAny _ _ (eval (Expr.Call _ _ _ _) _) _ _ _) | (with_reducible show wpAny _ _ (eval (Expr.Compare _ _ _ _) _) _ _ _) | (with_reducible show wpAny _ _ (eval (Expr.Subscript _ _ _) _) _ _ _)); k_fold) | (k_end; wrow_close) | walk1 | (dsimp only; walk1) | (leave1; walk_say "STEP leave1"; try dsimp only) | fail "no step"))
  · rw [show p' = unmovedF firsts bs e p' from (unmovedF_same (.inl (of_decide_eq_true (by assumption)))).symm]
    refine' ret _ _ _ ?za1 ?za2 ?za3 ?za4
    case za1 => k_asm
    case za2 => exact news_sub (by assumption) (by lcg_sub)
    case za3 => refine' keep_rest M off ?ga1 ?ga2; (case ga1 => assumption); (case ga2 => assumption)
    case za4 => refine' fresh_sub ?ga2 M off ?ga1 ?ga3; (case ga1 => assumption); (case ga2 => assumption); (case ga3 => lcg_sub)
  · have hpos : 0 < firsts.length := pos_of' (by assumption)
    (repeat' ((fail_if_success (with_reducible show wpAny _ _ (exec (Stmt.For _ _ _ _ _) _) _ _ _)); (fail_if_success (with_reducible show wpAny _ _ (pyIter _) _ _ _)); (fail_if_success (with_reducible show wpAny _ _ (eval (Expr.ListComp _ _ _ _) _) _ _ _)); (fail_if_success (with_reducible show wpAny _ _ (exec (Stmt.Assign _ (Expr.ListComp _ _ _ _) _) _) _ _ _)); (fail_if_success (with_reducible show LCg.CompSrc _ _ _ _ _ _ _ _ _ _ _ _ _ _)); (fail_if_success (with_reducible show wpAny _ _ (exec (Stmt.While _ _ _ _) _) _ _ _)); first | ((fail_if_success (fail_if_success k_unfold)); (show wpAny _ _ _ _ _ _); (try dsimp only)) | (k_unfold; (try dsimp only)) | ((first | (with_reducible show wpAny _ _ (exec _ _) _ _ _) | (with_reducible show wpAny _ _ (isTrue _ _) _ _ _) | (with_reducible show wpAny _ _ (eval (Expr.Call _ _ _ _) _) _ _ _) | (with_reducible show wpAny _ _ (eval (Expr.Compare _ _ _ _) _) _ _ _) | (with_reducible show wpAny _ _ (eval (Expr.Subscript _ _ _) _) _ _ _)); k_fold) | (k_end; wrow_close) | walk1 | (dsimp only; walk1) | (leave1; walk_say "STEP leave1"; try dsimp only) | fail "no step"))
    · rw [show p' = unmovedF firsts bs e p' from (unmovedF_same (.inr (.inl (by assumption)))).symm]
      refine' ret _ _ _ ?z1b ?z2b ?z3b ?z4b
      case z1b => k_asm
      case z2b => exact news_sub (by assumption) (by lcg_sub)
      case z3b => refine' keep_rest M off ?g1b ?g2b; (case g1b => assumption); (case g2b => assumption)
      case z4b => refine' fresh_sub ?g2b M off ?g1b ?g3b; (case g1b => assumption); (case g2b => assumption); (case g3b => lcg_sub)
    · rw [show p' = unmovedF firsts bs e p' from (unmovedF_same (.inr (.inr (by assumption)))).symm]
      refine' ret _ _ _ ?z1c ?z2c ?z3c ?z4c
      case z1c => k_asm
      case z2c => exact news_sub (by assumption) (by lcg_sub)
      case z3c => refine' keep_rest M off ?g1c ?g2c; (case g1c => assumption); (case g2c => assumption)
      case z4c => refine' fresh_sub ?g2c M off ?g1c ?g3c; (case g1c => assumption); (case g2c => assumption); (case g3c => lcg_sub)
    · have hnn : ¬ (firsts = [] ∨ p' < firsts.getD 0 0 ∨ e ≤ p') := un_not (by assumption) (by assumption) (by assumption)
      (try ((with_reducible show wpAny _ _ _ _ _ _); k_fold))
      (rename Fr _ _ _ _ => lF'); k_dflt (refine' For_invVF lF' ?k1 ?k2 ?_; (case k1 => exact rfl); (case k2 => exact rfl); k_whole)
      (repeat' ((fail_if_success (with_reducible show wpAny _ _ (exec (Stmt.For _ _ _ _ _) _) _ _ _)); (fail_if_success (with_reducible show wpAny _ _ (pyIter _) _ _ _)); (fail_if_success (with_reducible show wpAny _ _ (eval (Expr.ListComp _ _ _ _) _) _ _ _)); (fail_if_success (with_reducible show wpAny _ _ (exec (Stmt.Assign _ (Expr.ListComp _ _ _ _) _) _) _ _ _)); (fail_if_success (with_reducible show LCg.CompSrc _ _ _ _ _ _ _ _ _ _ _ _ _ _)); (fail_if_success (with_reducible show wpAny _ _ (exec (Stmt.While _ _ _ _) _) _ _ _)); first | ((fail_if_success (fail_if_success k_unfold)); (show wpAny _ _ _ _ _ _); (try dsimp only)) | (k_unfold; (try dsimp only)) | ((first | (with_reducible show wpAny _ _ (exec _ _) _ _ _) | (with_reducible show wpAny _ _ (isTrue _ _) _ _ _) | (with_reducible show wpAny _ _ (eval (Expr.Call _ _ _ _) _) _ _ _) | (with_reducible show wpAny _ _ (eval (Expr.Compare _ _ _ _) _) _ _ _) | (with_reducible show wpAny _ _ (eval (Expr.Subscript _ _ _) _) _ _ _)); k_fold) | (k_end; wrow_close) | walk1 | (dsimp only; walk1) | (leave1; walk_say "STEP leave1"; try dsimp only) | fail "no step"))
      refine' dict_loop (news := [(x, instObj 76 dx), (dx, reoDict w.params t1 t2 t3 te aF2 aB e), (aF2, listOf fv.toArray c), (aB, oB)]) (UnJ firsts bs e p' tp x) ?a1 hD lo ?a2 ?a3 ?a4 ?j0 ?turn ?done
      case a1 => exact rfl
      case a2 => exact .tail _ (.tail _ (.tail _ (.head _)))
      case a3 => assumption
      case a4 => exact news_sub (by assumption) (by lcg_sub)
      case j0 => exact ⟨rfl, by k_dflt exact rfl, by k_dflt exact rfl⟩
      case done =>
        rintro m₁ h tk hJ01 F N
        (try ((with_reducible show wpAny _ _ _ _ _ _); k_fold))
        obtain ⟨hf, m1, m2⟩ := hJ01
        have F1 := fr_kst0 [(_, _), (_, _)] (kcons m1 (kcons m2 (knil))) F
        clear F
        dsimp only [kstB] at F1
        (repeat' ((fail_if_success (with_reducible show wpAny _ _ (exec (Stmt.For _ _ _ _ _) _) _ _ _)); (fail_if_success (with_reducible show wpAny _ _ (pyIter _) _ _ _)); (fail_if_success (with_reducible show wpAny _ _ (eval (Expr.ListComp _ _ _ _) _) _ _ _)); (fail_if_success (with_reducible show wpAny _ _ (exec (Stmt.Assign _ (Expr.ListComp _ _ _ _) _) _) _ _ _)); (fail_if_success (with_reducible show LCg.CompSrc _ _ _ _ _ _ _ _ _ _ _ _ _ _)); (fail_if_success (with_reducible show wpAny _ _ (exec (Stmt.While _ _ _ _) _) _ _ _)); first | ((fail_if_success (fail_if_success k_unfold)); (show wpAny _ _ _ _ _ _); (try dsimp only)) | (k_unfold; (try dsimp only)) | ((first | (with_reducible show wpAny _ _ (exec _ _) _ _ _) | (with_reducible show wpAny _ _ (isTrue _ _) _ _ _) | (with_reducible show wpAny _ _ (eval (Expr.Call _ _ _ _) _) _ _ _) | (with_reducible show wpAny _ _ (eval (Expr.Compare _ _ _ _) _) _ _ _) | (with_reducible show wpAny _ _ (eval (Expr.Subscript _ _ _) _) _ _ _)); k_fold) | (k_end; wrow_close) | walk1 | (dsimp only; walk1) | (leave1; walk_say "STEP leave1"; try dsimp only) | fail "no step"))
        rw [show p' = unmovedF firsts bs e p' from (un_done hP.length hf).symm]
        refine' ret _ _ _ ?z1d ?z2d ?z3d ?z4d
        case z1d => k_asm
        case z2d => exact news_sub (by assumption) (by lcg_sub)
        case z3d => refine' keep_rest M off ?g1d ?g2d; (case g1d => assumption); (case g2d => assumption)
        case z4d => refine' fresh_sub ?g2d M off ?g1d ?g3d; (case g1d => assumption); (case g2d => assumption); (case g3d => lcg_sub)

      case turn =>
        rintro i k v t m₁ h tk own hk0 hJ02 F N
        (try ((with_reducible show wpAny _ _ _ _ _ _); k_fold))
        obtain ⟨hf, m1, m2⟩ := hJ02
        obtain ⟨b, tb, rfl, hq⟩ := hP.get hk0
        have hv : valueAt kvs k = some (.int b tb) := valueAt_of_get (dict_nodup hD) hk0
        obtain ⟨hk1, hk2⟩ := hB _ (List.mem_of_getElem? hq)
        have F1 := fr_kst [(_, _), (_, _)] (kcons m1 (kcons m2 (knil))) F
        have N1 : News g _ h ((x, instObj 76 dx) :: (dx, reoDict w.params t1 t2 t3 te aF2 aB e) :: (aF2, listOf fv.toArray c) :: (aB, oB) :: own) := news_sub N (fun p hp => by
          simp only [List.cons_append, List.nil_append, List.mem_cons, List.mem_append, List.not_mem_nil, or_false] at hp ⊢
          rcases hp with h | h | h | h | h <;> simp [h])
        clear F N
        dsimp only [kstB] at F1
        dsimp only at hk1 hk2
        (repeat' ((fail_if_success (with_reducible show wpAny _ _ (exec (Stmt.For _ _ _ _ _) _) _ _ _)); (fail_if_success (with_reducible show wpAny _ _ (pyIter _) _ _ _)); (fail_if_success (with_reducible show wpAny _ _ (eval (Expr.ListComp _ _ _ _) _) _ _ _)); (fail_if_success (with_reducible show wpAny _ _ (exec (Stmt.Assign _ (Expr.ListComp _ _ _ _) _) _) _ _ _)); (fail_if_success (with_reducible show LCg.CompSrc _ _ _ _ _ _ _ _ _ _ _ _ _ _)); (fail_if_success (with_reducible show wpAny _ _ (exec (Stmt.While _ _ _ _) _) _ _ _)); first | ((fail_if_success (fail_if_success k_unfold)); (show wpAny _ _ _ _ _ _); (try dsimp only)) | (k_unfold; (try dsimp only)) | ((first | (with_reducible show wpAny _ _ (exec _ _) _ _ _) | (with_reducible show wpAny _ _ (isTrue _ _) _ _ _) | (with_reducible show wpAny _ _ (eval (Expr.Call _ _ _ _) _) _ _ _) | (with_reducible show wpAny _ _ (eval (Expr.Compare _ _ _ _) _) _ _ _) | (with_reducible show wpAny _ _ (eval (Expr.Subscript _ _ _) _) _ _ _)); k_fold) | (k_end; wrow_close) | walk1 | (dsimp only; walk1) | (leave1; walk_say "STEP leave1"; try dsimp only) | fail "no step"))
        · rw [← un_hit hnn hf hq (uh_t1 (by assumption) (by assumption) (by assumption))]
          refine' ret _ _ _ ?z1h ?z2h ?z3h ?z4h
          case z1h => k_asm
          case z2h => exact news_sub (by assumption) (by lcg_sub)
          case z3h => refine' keep_rest M off ?g1h ?g2h; (case g1h => assumption); (case g2h => assumption)
          case z4h => refine' fresh_sub ?g2h M off ?g1h ?g3h; (case g1h => assumption); (case g2h => assumption); (case g3h => lcg_sub)
        · refine' un_next ?y1i ?y2i ?y3i hf hq (uh_f1 (by assumption) (by assumption)) ?y4i ?y5i
          case y1i => assumption
          case y2i => assumption
          case y3i =>
            intro q hq
            simp only [List.mem_cons, List.mem_append, List.not_mem_nil, or_false] at hq ⊢
            rcases hq with h | h | h | h | h <;> simp [h]
          case y4i => k_dflt exact rfl
          case y5i => k_dflt exact rfl
        · refine' un_next ?y1j ?y2j ?y3j hf hq (uh_f0 (by assumption)) ?y4j ?y5j
          case y1j => assumption
          case y2j => assumption
          case y3j =>
            intro q hq
            simp only [List.mem_cons, List.mem_append, List.not_mem_nil, or_false] at hq ⊢
            rcases hq with h | h | h | h | h <;> simp [h]
          case y4j => k_dflt exact rfl
          case y5j => k_dflt exact rfl
        · rw [← un_hit hnn hf hq (uh_t2 (by assumption) (by assumption) (by assumption))]
          refine' ret _ _ _ ?z1k ?z2k ?z3k ?z4k
          case z1k => k_asm
          case z2k => exact news_sub (by assumption) (by lcg_sub)
          case z3k => refine' keep_rest M off ?g1k ?g2k; (case g1k => assumption); (case g2k => assumption)
          case z4k => refine' fresh_sub ?g2k M off ?g1k ?g3k; (case g1k => assumption); (case g2k => assumption); (case g3k => lcg_sub)
        · refine' un_next ?y1l ?y2l ?y3l hf hq (uh_f2 (by assumption) (by assumption)) ?y4l ?y5l
          case y1l => assumption
          case y2l => assumption
          case y3l =>
            intro q hq
            simp only [List.mem_cons, List.mem_append, List.not_mem_nil, or_false] at hq ⊢
            rcases hq with h | h | h | h | h <;> simp [h]
          case y4l => k_dflt exact rfl
          case y5l => k_dflt exact rfl
        · refine' un_next ?y1m ?y2m ?y3m hf hq (uh_f0 (by assumption)) ?y4m ?y5m
          case y1m => assumption
          case y2m => assumption
          case y3m =>
            intro q hq
            simp only [List.mem_cons, List.mem_append, List.not_mem_nil, or_false] at hq ⊢
            rcases hq with h | h | h | h | h <;> simp [h]
          case y4m => k_dflt exact rfl
          case y5m => k_dflt exact rfl
end
set_option maxHeartbeats 16000000 in
theorem cmp_spec {w : World} {p : Program} {loose : List Str} {mean : ExcName → Option Value} {mg mb : Str → Option Value}
    {dp un : Nat} {gd : Option (List Code)} {cn : Str} {cs : Scope} {a : Addr} {ccd : Value} {cl : List (Str × Addr)} {outer : List Env} {A₀ : Around} {base h₀ : Heap} {L : Addr} {m : Str → Option Value} {s : Shared} {Q E : Value → Shared → Prop}
    {rest : Led} {aX aY : Addr} {xv yv : List Value} {xs ys : List Int} {kx ky : Nat}
    (B : Below A₀ base outer h₀) (F : Fr h₀ L s.heap m) (X : (hd.heap_39 w.params).In h₀) (T : Top p loose mean mg mb h₀) (hk : cs.kind = .function)
    (M : News h₀ L s.heap rest) (off : ∀ q ∈ ([] : Led), ∀ p ∈ rest, q.1 ≠ p.1) (N : News h₀ L s.heap [])
    (hX : (aX, listOf xv.toArray kx) ∈ rest) (hXI : IntsAre xv xs) (hY : (aY, listOf yv.toArray ky) ∈ rest) (hYI : IntsAre yv ys) (hx9 : xs.length ≤ 50) (hy9 : ys.length ≤ 50)
    (hd : dp + 20 < recursionLimit) (hu : un + 400 < cLine)
    (ret : ∀ t h' tk', Fr h₀ L h' m → News h₀ L h' ([]) → News h₀ L h' rest → (∀ p ∈ ([] : Led), ∀ q ∈ rest, q.1 ≠ p.1) → Q (.int (cmpF xs ys) t) { s with heap := h', toks := tk' })
    : wpAny (model PySem.Challenge.rw_pq1297_01.row.prog w) (ktrTop dp un gd cn cs L a ccd cl outer) (call (.ref 132) [.ref aX, .ref aY]) Q E s := by
  w_top off
  k_with_none
  k_with "call type:range" => (k_here; first | ((with_reducible show wpAny _ _ (call _ [Value.int _ _]) _ _ _); k_dflt (refine range1_rows (by k_asm) (by k_asm) ?_; intro h'9 tk'9 t1'9 u1'9 v1'9 R'9 F'9 N'9 _); (try k_sweep)) | ((with_reducible show wpAny _ _ (call _ [Value.int _ _, Value.int _ _]) _ _ _); k_dflt (refine range2_rows (by k_asm) (by k_asm) ?_; intro h'9 tk'9 t1'9 u1'9 v1'9 R'9 F'9 N'9 _); (try k_sweep)))
  k_with "call type:list" => (k_here; (with_reducible show wpAny _ _ (call (Value.type _) [Value.ref _]) _ _ _); k_dflt (refine' kll_range rfl ?k1 ?k2 ?k3 ?k4 (rangeSize_nat _ _) ?k6 ?_; (case k1 => k_asm); (case k2 => k_asm); (case k3 => with_reducible assumption); (case k4 => exact small_one (by omega) (by omega) (by omega) (by omega)); (case k6 => omega); k_whole); intro D'9 vs'9 c'9 h'9 tk'9 F'9 N'9 l19 hI'9; (try k_lt l19); (try k_sweep))
  refine wpAny_call ?_
  (k_dflt (refine' call_sub ?k1 ?k2 ?k3 ?k4 ?k5 ?kA ?kF ?kK ?k6 ?k7 ?k8 ?k9 ?kB ?_ ?c2 ?c3 ?c4 ?c5; (case kA => exact rfl); (case kF => exact rfl); (case kK => assumption); (case k1 => k_asm); (case k2 => k_asm); (case k3 => k_asm); (case k4 => assumption); (case k5 => k_asm); (case k6 => k_is); (case k7 => k_is); (case k8 => ktr_room); (case k9 => exact BindsTo.of_eq rfl); (case c5 => decide); (case kB => exact locs rfl); (case c2 => exact rfl); (case c3 => exact rfl); (case c4 => exact rfl); k_whole))
  intro g L' h1 FG F1 N1 B1 X1 T1 hg lt
  have hg2 : ∀ p ∈ rest, g.get? p.1 = some p.2 := fun p hp => hg p.1 p.2 (M p hp).1 (List.forall_mem_nil _)
  have hgX : g.IsList aX xv.toArray := ⟨_, hg2 _ hX, rfl, kx, rfl⟩
  have hgY : g.IsList aY yv.toArray := ⟨_, hg2 _ hY, rfl, ky, rfl⟩
  (repeat' ((fail_if_success (with_reducible show wpAny _ _ (exec (Stmt.For _ _ _ _ _) _) _ _ _)); (fail_if_success (with_reducible show wpAny _ _ (pyIter _) _ _ _)); (fail_if_success (with_reducible show wpAny _ _ (eval (Expr.ListComp _ _ _ _) _) _ _ _)); (fail_if_success (with_reducible show wpAny _ _ (exec (Stmt.Assign _ (Expr.ListComp _ _ _ _) _) _) _ _ _)); (fail_if_success (with_reducible show LCg.CompSrc _ _ _ _ _ _ _ _ _ _ _ _ _ _)); (fail_if_success (with_reducible show wpAny _ _ (exec (Stmt.While _ _ _ _) _) _ _ _)); first | ((fail_if_success (fail_if_success k_unfold)); (show wpAny _ _ _ _ _ _); (try dsimp only)) | (k_unfold; (try dsimp only)) | ((first | (with_reducible show wpAny _ _ (exec _ _) _ _ _) | (with_reducible show wpAny _ _ (isTrue _ _) _ _ _) | (with_reducible show wpAny _ _ (eval (Expr.Call _ _ _ _) _) _ _ _) | (with_reducible show wpAny _ _ (eval (Expr.Compare _ _ _ _) _) _ _ _) | (with_reducible show wpAny _ _ (eval (Expr.Subscript _ _ _) _) _ _ _)); k_fold) | (k_end; wrow_close) | walk1 | (dsimp only; walk1) | (leave1; walk_say "STEP leave1"; try dsimp only) | fail "no step"))
  (try ((with_reducible show wpAny _ _ _ _ _ _); k_fold))
  (rename Fr _ _ _ _ => lF'); k_dflt (refine' For_invVF lF' ?k1 ?k2 ?_; (case k1 => exact rfl); (case k2 => exact rfl); k_whole)
  (repeat' ((fail_if_success (with_reducible show wpAny _ _ (exec (Stmt.For _ _ _ _ _) _) _ _ _)); (fail_if_success (with_reducible show wpAny _ _ (pyIter _) _ _ _)); (fail_if_success (with_reducible show wpAny _ _ (eval (Expr.ListComp _ _ _ _) _) _ _ _)); (fail_if_success (with_reducible show wpAny _ _ (exec (Stmt.Assign _ (Expr.ListComp _ _ _ _) _) _) _ _ _)); (fail_if_success (with_reducible show LCg.CompSrc _ _ _ _ _ _ _ _ _ _ _ _ _ _)); (fail_if_success (with_reducible show wpAny _ _ (exec (Stmt.While _ _ _ _) _) _ _ _)); first | ((fail_if_success (fail_if_success k_unfold)); (show wpAny _ _ _ _ _ _); (try dsimp only)) | (k_unfold; (try dsimp only)) | ((first | (with_reducible show wpAny _ _ (exec _ _) _ _ _) | (with_reducible show wpAny _ _ (isTrue _ _) _ _ _) | (with_reducible show wpAny _ _ (eval (Expr.Call _ _ _ _) _) _ _ _) | (with_reducible show wpAny _ _ (eval (Expr.Compare _ _ _ _) _) _ _ _) | (with_reducible show wpAny _ _ (eval (Expr.Subscript _ _ _) _) _ _ _)); k_fold) | (k_end; wrow_close) | walk1 | (dsimp only; walk1) | (leave1; walk_say "STEP leave1"; try dsimp only) | fail "no step"))
  refine' range_loop (CmpJ xs ys aX aY) ?a1 ?a2 ?a3 (rangeSize_nat _ _) ?a5 ?a6 ?j0 ?turn ?done
  case a1 => exact rfl
  case a2 => assumption
  case a3 => exact small_one (by omega) (by omega) (by omega) (by omega)
  case a5 => assumption
  case j0 => exact ⟨rfl, rfl, by k_dflt exact rfl, by k_dflt exact rfl⟩
  case a6 => exact News.nil
  case turn =>
    rintro i t m₁ nx h tk own hi hoff hJ01 F N
    (try ((with_reducible show wpAny _ _ _ _ _ _); k_fold))
    obtain ⟨rfl, he, m1, m2⟩ := hJ01
    have F1 := fr_kst [(_, _), (_, _)] (kcons m1 (kcons m2 (knil))) F
    clear F
    dsimp only [kstB] at F1
    have hi1 : i < xs.length := by omega
    have hi2 : i < ys.length := by omega
    (repeat' ((fail_if_success (with_reducible show wpAny _ _ (exec (Stmt.For _ _ _ _ _) _) _ _ _)); (fail_if_success (with_reducible show wpAny _ _ (pyIter _) _ _ _)); (fail_if_success (with_reducible show wpAny _ _ (eval (Expr.ListComp _ _ _ _) _) _ _ _)); (fail_if_success (with_reducible show wpAny _ _ (exec (Stmt.Assign _ (Expr.ListComp _ _ _ _) _) _) _ _ _)); (fail_if_success (with_reducible show LCg.CompSrc _ _ _ _ _ _ _ _ _ _ _ _ _ _)); (fail_if_success (with_reducible show wpAny _ _ (exec (Stmt.While _ _ _ _) _) _ _ _)); first | ((fail_if_success (fail_if_success k_unfold)); (show wpAny _ _ _ _ _ _); (try dsimp only)) | (k_unfold; (try dsimp only)) | ((first | (with_reducible show wpAny _ _ (exec _ _) _ _ _) | (with_reducible show wpAny _ _ (isTrue _ _) _ _ _) | (with_reducible show wpAny _ _ (eval (Expr.Call _ _ _ _) _) _ _ _) | (with_reducible show wpAny _ _ (eval (Expr.Compare _ _ _ _) _) _ _ _) | (with_reducible show wpAny _ _ (eval (Expr.Subscript _ _ _) _) _ _ _)); k_fold) | (k_end; wrow_close) | walk1 | (dsimp only; walk1) | (leave1; walk_say "STEP leave1"; try dsimp only) | fail "no step"))
    · rw [← cmp_lt he hi1 hi2 (by assumption) (by assumption)]
      refine' ret _ _ _ ?z1a ?z2a ?z3a ?z4a
      case z1a => k_asm
      case z2a => exact News.nil
      case z3a => refine' keep_rest M off ?g1a ?g2a; (case g1a => assumption); (case g2a => assumption)
      case z4a => exact List.forall_mem_nil _
    · rw [← cmp_gt he hi1 hi2 (by assumption) (by assumption)]
      refine' ret _ _ _ ?z1b ?z2b ?z3b ?z4b
      case z1b => k_asm
      case z2b => exact News.nil
      case z3b => refine' keep_rest M off ?g1b ?g2b; (case g1b => assumption); (case g2b => assumption)
      case z4b => exact List.forall_mem_nil _
    · refine' cmp_next ?y1 ?y2 ?y3 he hi1 hi2 ?y4 ?y5 ?y6
      case y1 => assumption
      case y2 => assumption
      case y3 => exact fun p hp => hp
      case y4 => assumption
      case y5 => k_dflt exact rfl
      case y6 => k_dflt exact rfl
  case done =>
    rintro m₁ nx h tk hJ02 F N
    (try ((with_reducible show wpAny _ _ _ _ _ _); k_fold))
    obtain ⟨rfl, he, m1, m2⟩ := hJ02
    have F1 := fr_kst0 [(_, _), (_, _)] (kcons m1 (kcons m2 (knil))) F
    clear F
    dsimp only [kstB] at F1
    have hmin := cmp_min (by split <;> omega) he
    (repeat' ((fail_if_success (with_reducible show wpAny _ _ (exec (Stmt.For _ _ _ _ _) _) _ _ _)); (fail_if_success (with_reducible show wpAny _ _ (pyIter _) _ _ _)); (fail_if_success (with_reducible show wpAny _ _ (eval (Expr.ListComp _ _ _ _) _) _ _ _)); (fail_if_success (with_reducible show wpAny _ _ (exec (Stmt.Assign _ (Expr.ListComp _ _ _ _) _) _) _ _ _)); (fail_if_success (with_reducible show LCg.CompSrc _ _ _ _ _ _ _ _ _ _ _ _ _ _)); (fail_if_success (with_reducible show wpAny _ _ (exec (Stmt.While _ _ _ _) _) _ _ _)); first | ((fail_if_success (fail_if_success k_unfold)); (show wpAny _ _ _ _ _ _); (try dsimp only)) | (k_unfold; (try dsimp only)) | ((first | (with_reducible show wpAny _ _ (exec _ _) _ _ _) | (with_reducible show wpAny _ _ (isTrue _ _) _ _ _) | (with_reducible show wpAny _ _ (eval (Expr.Call _ _ _ _) _) _ _ _) | (with_reducible show wpAny _ _ (eval (Expr.Compare _ _ _ _) _) _ _ _) | (with_reducible show wpAny _ _ (eval (Expr.Subscript _ _ _) _) _ _ _)); k_fold) | (k_end; wrow_close) | walk1 | (dsimp only; walk1) | (leave1; walk_say "STEP leave1"; try dsimp only) | fail "no step"))
    · rw [if_pos (by omega)] at hmin
      rw [← hmin]
      refine' ret _ _ _ ?z1c ?z2c ?z3c ?z4c
      case z1c => k_asm
      case z2c => exact News.nil
      case z3c => refine' keep_rest M off ?g1c ?g2c; (case g1c => assumption); (case g2c => assumption)
      case z4c => exact List.forall_mem_nil _
    · rw [if_neg (by omega), if_pos (by omega)] at hmin
      rw [← hmin]
      refine' ret _ _ _ ?z1d ?z2d ?z3d ?z4d
      case z1d => k_asm
      case z2d => exact News.nil
      case z3d => refine' keep_rest M off ?g1d ?g2d; (case g1d => assumption); (case g2d => assumption)
      case z4d => exact List.forall_mem_nil _
    · rw [if_neg (by omega), if_neg (by omega)] at hmin
      rw [← hmin]
      refine' ret _ _ _ ?z1f ?z2f ?z3f ?z4f
      case z1f => k_asm
      case z2f => exact News.nil
      case z3f => refine' keep_rest M off ?g1f ?g2f; (case g1f => assumption); (case g2f => assumption)
      case z4f => exact List.forall_mem_nil _
open PySem.Calls
/-- what of a ledger is not seen -/
noncomputable def offOf (vis news : Led) : Led := news.filter fun p => vis.all fun q => decide (q.1 ≠ p.1)
theorem offOf_off {vis news : Led} : ∀ q ∈ vis, ∀ p ∈ offOf vis news, q.1 ≠ p.1 := by
  intro q hq p hp
  have := (List.mem_filter.mp hp).2
  exact of_decide_eq_true (List.all_eq_true.mp this q hq)
theorem offOf_sub {vis news : Led} : ∀ p ∈ offOf vis news, p ∈ news := fun p hp => (List.mem_filter.mp hp).1
theorem offOf_back {h₀ h h' : Heap} {L : Addr} {vis news : Led} (N : News h₀ L h news) (hV : ∀ p ∈ vis, p ∈ news) (N1 : News h₀ L h' vis) (N2 : News h₀ L h' (offOf vis news)) : News h₀ L h' news := by
  intro p hp
  by_cases e : ∀ q ∈ vis, q.1 ≠ p.1
  · exact N2 p (List.mem_filter.mpr ⟨hp, List.all_eq_true.mpr fun q hq => decide_eq_true (e q hq)⟩)
  · have : ∃ q ∈ vis, q.1 = p.1 := by
      apply Classical.byContradiction
      intro hn
      exact e fun q hq e' => hn ⟨q, hq, e'⟩
    obtain ⟨q, hq, eq⟩ := this
    have h1 := (N q (hV q hq)).1
    have h2 := (N p hp).1
    rw [eq, h2] at h1
    have : p = q := Prod.ext eq.symm (Option.some.inj h1)
    exact this ▸ N1 q hq
noncomputable abbrev reoLed (P : Params) (x dx aF2 aB : Addr) (t1 t2 t3 te : Tok) (e : Int) (fv : List Value) (c : Nat) (oB : Obj) : Led :=
  [(x, instObj 76 dx), (dx, reoDict P t1 t2 t3 te aF2 aB e), (aF2, listOf fv.toArray c), (aB, oB)]
/-- all that the reorder object is -/
def ReoIs (prog : Program) (w : World) (fv : List Value) (firsts : List Int) (oB : Obj) (bs : List (Int × Int)) (aB : Addr) : Prop :=
  IntsAre fv firsts ∧ (∃ kvs, oB.IsDictOf (intKind prog w) kvs ∧ PairsAre kvs bs) ∧ (∀ l < firsts.length, (bs.lookup (l : Int)).isSome = true) ∧ (∀ q ∈ bs, 0 ≤ q.1 ∧ q.1 < (firsts.length : Int)) ∧ (aB == sysModules) = false ∧ firsts.length ≤ 5
section
variable {w : World} {p : Program} {loose : List Str} {mean : ExcName → Option Value} {mg mb : Str → Option Value}
    {dp un : Nat} {gd : Option (List Code)} {cn : Str} {cs : Scope} {a : Addr} {ccd : Value} {cl : List (Str × Addr)} {outer : List Env} {A₀ : Around} {base h₀ : Heap} {L : Addr} {m : Str → Option Value} {s : Shared} {Q E : Value → Shared → Prop}
    {news : Led} {x dx aF2 aB : Addr} {fv : List Value} {firsts : List Int} {e p' : Int} {te tp t1 t2 t3 : Tok} {c : Nat} {oB : Obj} {bs : List (Int × Int)}
theorem moved_use
    (B : Below A₀ base outer h₀) (F : Fr h₀ L s.heap m) (X : (hd.heap_39 w.params).In h₀) (N : News h₀ L s.heap news) (T : Top p loose mean mg mb h₀) (hk : cs.kind = .function)
    (hR : ReoIs PySem.Challenge.rw_pq1297_01.row.prog w fv firsts oB bs aB) (hV : ∀ p ∈ reoLed w.params x dx aF2 aB t1 t2 t3 te e fv c oB, p ∈ news)
    (hd : dp + 20 < recursionLimit) (hu : un + 400 < cLine)
    (ret : ∀ t h' tk', Fr h₀ L h' m → News h₀ L h' news → Q (.int (movedF firsts bs e p') t) { s with heap := h', toks := tk' })
    : wpAny (model PySem.Challenge.rw_pq1297_01.row.prog w) (ktrTop dp un gd cn cs L a ccd cl outer) (call (.ref 66) [.ref x, .int p' tp]) Q E s := by
  obtain ⟨r1, ⟨kvs, r2, r3⟩, r4, r5, r6, r7⟩ := hR
  exact moved_spec B F X T hk (news_sub N offOf_sub) offOf_off (news_sub N hV) r1 r2 r3 r4 r7 hd hu fun t h' tk' F' N1 N2 _ => ret t h' tk' F' (offOf_back N hV N1 N2)
theorem unmoved_use
    (B : Below A₀ base outer h₀) (F : Fr h₀ L s.heap m) (X : (hd.heap_39 w.params).In h₀) (N : News h₀ L s.heap news) (T : Top p loose mean mg mb h₀) (hk : cs.kind = .function)
    (hR : ReoIs PySem.Challenge.rw_pq1297_01.row.prog w fv firsts oB bs aB) (hV : ∀ p ∈ reoLed w.params x dx aF2 aB t1 t2 t3 te e fv c oB, p ∈ news)
    (hd : dp + 20 < recursionLimit) (hu : un + 400 < cLine)
    (ret : ∀ t h' tk', Fr h₀ L h' m → News h₀ L h' news → Q (.int (unmovedF firsts bs e p') t) { s with heap := h', toks := tk' })
    : wpAny (model PySem.Challenge.rw_pq1297_01.row.prog w) (ktrTop dp un gd cn cs L a ccd cl outer) (call (.ref 73) [.ref x, .int p' tp]) Q E s := by
  obtain ⟨r1, ⟨kvs, r2, r3⟩, r4, r5, r6, r7⟩ := hR
  exact unmoved_spec B F X T hk (news_sub N offOf_sub) offOf_off (news_sub N hV) r1 r2 r3 r5 r6 r7 hd hu fun t h' tk' F' N1 N2 _ => ret t h' tk' F' (offOf_back N hV N1 N2)
end
noncomputable abbrev optLed (P : Params) (o dO : Addr) (q1 q2 q3 q4 q5 q6 q7 q8 qs : Tok) (x dx aF2 aB : Addr) (t1 t2 t3 te : Tok) (e : Int) (fv : List Value) (c : Nat) (oB : Obj) : Led :=
  (o, instObj 33 dO) :: (dO, optDict P q1 q2 q3 q4 q5 q6 q7 q8 qs x) :: reoLed P x dx aF2 aB t1 t2 t3 te e fv c oB
theorem fresh_all {h₀ h : Heap} {L x : Addr} {V news : Led} (N : News h₀ L h news) (hV : ∀ p ∈ V, p ∈ news) (h1 : ∀ q ∈ V, q.1 ≠ x) (h2 : ∀ q ∈ offOf V news, q.1 ≠ x) : ∀ q ∈ news, q.1 ≠ x := by
  intro q hq e9
  by_cases e2 : q ∈ offOf V news
  · exact h2 q e2 e9
  · refine h1 q ?_ e9
    apply Classical.byContradiction
    intro hn
    refine e2 (List.mem_filter.mpr ⟨hq, List.all_eq_true.mpr fun z hz => decide_eq_true fun ez => hn ?_⟩)
    have h1 := (N z (hV z hz)).1
    rw [ez, (N q hq).1] at h1
    have : q = z := Prod.ext ez.symm (Option.some.inj h1)
    exact this ▸ hz
theorem sub_off {h₀ h : Heap} {L : Addr} {V news sub : Led} (N : News h₀ L h news) (hV : ∀ p ∈ V, p ∈ news) (hS : ∀ p ∈ sub, h₀.get? p.1 = some p.2) : ∀ q ∈ V, ∀ p ∈ sub, q.1 ≠ p.1 := by
  intro q hq p hp e
  have h1 := (N q (hV q hq)).2.2
  rw [e, hS p hp] at h1; cases h1
theorem back_all {h₀ h h' : Heap} {L : Addr} {V news own : Led} (N : News h₀ L h news) (hV : ∀ p ∈ V, p ∈ news) (N1 : News h₀ L h' (own ++ V)) (N2 : News h₀ L h' (offOf V news)) : News h₀ L h' (own ++ news) :=
  news_app (news_sub N1 fun _ h => List.mem_append_left _ h) (offOf_back N hV (news_sub N1 fun _ h => List.mem_append_right _ h) N2)
section
local macro_rules | `(tactic| walk_at "zz") => `(tactic| skip)
set_option maxHeartbeats 16000000 in
theorem first_spec {w : World} {p : Program} {loose : List Str} {mean : ExcName → Option Value} {mg mb : Str → Option Value}
    {dp un : Nat} {gd : Option (List Code)} {cn : Str} {cs : Scope} {a : Addr} {ccd : Value} {cl : List (Str × Addr)} {outer : List Env} {A₀ : Around} {base h₀ : Heap} {L : Addr} {m : Str → Option Value} {s : Shared} {Q E : Value → Shared → Prop}
    {rest : Led} {sub : Led} {o dO x dx aF2 aB aW : Addr} {q1 q2 q3 q4 q5 q6 q7 q8 qs t1 t2 t3 te : Tok} {fv refs : List Value} {firsts ws : List Int} {e : Int} {c kw : Nat} {oB : Obj} {bs : List (Int × Int)}
    (B : Below A₀ base outer h₀) (F : Fr h₀ L s.heap m) (X : (hd.heap_39 w.params).In h₀) (T : Top p loose mean mg mb h₀) (hk : cs.kind = .function)
    (M : News h₀ L s.heap rest) (off : ∀ q ∈ ((optLed w.params o dO q1 q2 q3 q4 q5 q6 q7 q8 qs x dx aF2 aB t1 t2 t3 te e fv c oB) : Led), ∀ p ∈ rest, q.1 ≠ p.1) (N : News h₀ L s.heap (optLed w.params o dO q1 q2 q3 q4 q5 q6 q7 q8 qs x dx aF2 aB t1 t2 t3 te e fv c oB))
    (hR : ReoIs PySem.Challenge.rw_pq1297_01.row.prog w fv firsts oB bs aB) (hS : ∀ p ∈ sub, s.heap.get? p.1 = some p.2) (hSo : ∀ q ∈ (optLed w.params o dO q1 q2 q3 q4 q5 q6 q7 q8 qs x dx aF2 aB t1 t2 t3 te e fv c oB), ∀ p ∈ sub, q.1 ≠ p.1) (hW : (aW, listOf refs.toArray kw) ∈ sub) (hWs : Tups sub refs ws) (h6 : ws.length ≤ 6)
    (hd : dp + 50 < recursionLimit) (hu : un + 1500 < cLine)
    (ret : ∀ aR rv n' h' tk', IntsAre rv (firstF firsts bs e ws) → (∀ q ∈ (optLed w.params o dO q1 q2 q3 q4 q5 q6 q7 q8 qs x dx aF2 aB t1 t2 t3 te e fv c oB), q.1 ≠ aR) → Fr h₀ L h' m → News h₀ L h' ((aR, listOf rv.toArray n') :: (optLed w.params o dO q1 q2 q3 q4 q5 q6 q7 q8 qs x dx aF2 aB t1 t2 t3 te e fv c oB)) → News h₀ L h' rest → (∀ p ∈ ((aR, listOf rv.toArray n') :: (optLed w.params o dO q1 q2 q3 q4 q5 q6 q7 q8 qs x dx aF2 aB t1 t2 t3 te e fv c oB) : Led), ∀ q ∈ rest, q.1 ≠ p.1) → Q (.ref aR) { s with heap := h', toks := tk' })
    : wpAny (model PySem.Challenge.rw_pq1297_01.row.prog w) (ktrTop dp un gd cn cs L a ccd cl outer) (call (.ref 85) [.ref aW, .ref o]) Q E s := by
  w_top off
  k_with_none
  k_with "call type:range" => (k_here; first | ((with_reducible show wpAny _ _ (call _ [Value.int _ _]) _ _ _); k_dflt (refine range1_rows (by k_asm) (by k_asm) ?_; intro h'9 tk'9 t1'9 u1'9 v1'9 R'9 F'9 N'9 _); (try k_sweep)) | ((with_reducible show wpAny _ _ (call _ [Value.int _ _, Value.int _ _]) _ _ _); k_dflt (refine range2_rows (by k_asm) (by k_asm) ?_; intro h'9 tk'9 t1'9 u1'9 v1'9 R'9 F'9 N'9 _); (try k_sweep)))
  k_with "call type:list" => (k_here; (with_reducible show wpAny _ _ (call (Value.type _) [Value.ref _]) _ _ _); k_dflt (refine' kll_range rfl ?k1 ?k2 ?k3 ?k4 (rangeSize_nat _ _) ?k6 ?_; (case k1 => k_asm); (case k2 => k_asm); (case k3 => with_reducible assumption); (case k4 => exact small_one (by omega) (by omega) (by omega) (by omega)); (case k6 => omega); k_whole); intro D'9 vs'9 c'9 h'9 tk'9 F'9 N'9 l19 hI'9; (try k_lt l19); (try k_sweep))
  k_with "subscriptTail" => (k_here; (with_reducible show wpAny _ _ (subscriptTail _ _ (Value.ref _) (Value.int 0 _)) _ _ _); k_dflt (refine' tup_ground ?F ?t ?_ ?s; (case F => k_asm); (case t => assumption); (case s => with_unfolding_all rfl); k_whole))
  k_with "call ref" => (k_here; (with_reducible show wpAny _ _ (call (Value.ref 66) _) _ _ _); k_dflt (refine' moved_use ?k1 ?k2 ?k3 ?k4 ?k5 ?k6 ?k7 ?kp1 ?k12 ?k13 ?_; (case k1 => k_asm); (case k2 => k_asm); (case k3 => k_asm); (case k4 => k_asm); (case k5 => k_asm); (case k6 => first | rfl | assumption); (case k7 => assumption); (case kp1 => lcg_sub); (case k12 => ktr_room); (case k13 => ktr_units); k_whole; intro t'9 h'9 tk'9 F'9 N'9; (try dsimp only at F'9 N'9); (try k_sweep)))
  have off0 := off
  refine wpAny_call ?_
  ((k_dflt (refine' call_subC ?k1 ?k2 ?k3 ?k4 ?k5 ?kA ?kF ?kK ?k6 ?k7 ?k8 ?k9 ?kB ?kD ?_ ?c2 ?c3 ?c4; (case kA => exact rfl); (case kF => exact rfl); (case kK => assumption); (case k1 => k_asm); (case k2 => k_asm); (case k3 => k_asm); (case k4 => assumption); (case k5 => k_asm); (case k6 => k_is); (case k7 => k_is); (case k8 => ktr_room); (case k9 => first | exact BindsTo.of_eq rfl | exact binds_K (by k_in) rfl (by k_is) rfl rfl rfl); (case kB => exact rfl); (case kD => decide +kernel); (case c2 => exact rfl); (case c3 => exact rfl); (case c4 => exact rfl); k_whole; intro g9z L9z h9z tk9z cells9z FG9z F9z N9z Y9z B9z X9z T9z hg9z lt9z); (try ((with_reducible show wpAny _ _ _ _ _ _); k_fold)); k_cells Y9z; (try simp only [List.cons_append, List.nil_append] at N9z); (try k_lt lt9z); (try dsimp only)))
  rename (∀ (b : Addr) (o : Obj), s.heap.get? b = some o → _) => hg
  have hg2 := fun (p : Addr × Obj) (hp : p ∈ sub) => hg p.1 p.2 (hS p hp) (fun q hq => hSo q hq p hp)
  have hgW := hg2 _ hW
  (repeat' ((fail_if_success (with_reducible show wpAny _ _ (exec (Stmt.For _ _ _ _ _) _) _ _ _)); (fail_if_success (with_reducible show wpAny _ _ (pyIter _) _ _ _)); (fail_if_success (with_reducible show wpAny _ _ (eval (Expr.ListComp _ _ _ _) _) _ _ _)); (fail_if_success (with_reducible show wpAny _ _ (exec (Stmt.Assign _ (Expr.ListComp _ _ _ _) _) _) _ _ _)); (fail_if_success (with_reducible show LCg.CompSrc _ _ _ _ _ _ _ _ _ _ _ _ _ _)); (fail_if_success (with_reducible show LCt.CompSrcT _ _ _ _ _ _ _ _ _ _ _ _ _ _ _)); (fail_if_success (with_reducible show LCg.CompEnd _ _ _ _ _ _ _ _ _ _ _ _ _ _)); (fail_if_success (with_reducible show wpAny _ _ (exec (Stmt.While _ _ _ _) _) _ _ _)); first | ((fail_if_success (fail_if_success k_unfold)); (show wpAny _ _ _ _ _ _); (try dsimp only)) | (k_unfold; (try dsimp only)) | ((first | (with_reducible show wpAny _ _ (exec _ _) _ _ _) | (with_reducible show wpAny _ _ (isTrue _ _) _ _ _) | (with_reducible show wpAny _ _ (eval (Expr.Call _ _ _ _) _) _ _ _) | (with_reducible show wpAny _ _ (eval (Expr.Compare _ _ _ _) _) _ _ _) | (with_reducible show wpAny _ _ (eval (Expr.Subscript _ _ _) _) _ _ _)); k_fold) | (k_end; wrow_close) | walk1 | (dsimp only; walk1) | (leave1; walk_say "STEP leave1"; try dsimp only) | fail "no step"))
  (try ((with_reducible show wpAny _ _ _ _ _ _); k_fold))
  k_dflt (refine LCt.Assign_ListComp_T (F₀ := by k_asm) (by rfl) (by with_unfolding_all rfl) (by with_unfolding_all rfl) (by decide) (by rfl) (by decide) (by rfl) (by rfl) (by rfl) ?_)
  (repeat' ((fail_if_success (with_reducible show wpAny _ _ (exec (Stmt.For _ _ _ _ _) _) _ _ _)); (fail_if_success (with_reducible show wpAny _ _ (pyIter _) _ _ _)); (fail_if_success (with_reducible show wpAny _ _ (eval (Expr.ListComp _ _ _ _) _) _ _ _)); (fail_if_success (with_reducible show wpAny _ _ (exec (Stmt.Assign _ (Expr.ListComp _ _ _ _) _) _) _ _ _)); (fail_if_success (with_reducible show LCg.CompSrc _ _ _ _ _ _ _ _ _ _ _ _ _ _)); (fail_if_success (with_reducible show LCt.CompSrcT _ _ _ _ _ _ _ _ _ _ _ _ _ _ _)); (fail_if_success (with_reducible show LCg.CompEnd _ _ _ _ _ _ _ _ _ _ _ _ _ _)); (fail_if_success (with_reducible show wpAny _ _ (exec (Stmt.While _ _ _ _) _) _ _ _)); first | ((fail_if_success (fail_if_success k_unfold)); (show wpAny _ _ _ _ _ _); (try dsimp only)) | (k_unfold; (try dsimp only)) | ((first | (with_reducible show wpAny _ _ (exec _ _) _ _ _) | (with_reducible show wpAny _ _ (isTrue _ _) _ _ _) | (with_reducible show wpAny _ _ (eval (Expr.Call _ _ _ _) _) _ _ _) | (with_reducible show wpAny _ _ (eval (Expr.Compare _ _ _ _) _) _ _ _) | (with_reducible show wpAny _ _ (eval (Expr.Subscript _ _ _) _) _ _ _)); k_fold) | (k_end; wrow_close) | walk1 | (dsimp only; walk1) | (leave1; walk_say "STEP leave1"; try dsimp only) | fail "no step"))
  k_dflt (refine' LCt.CompSrcT.base rfl ?a1 ?a2 ?a3 ?a5 ?a6)
  case a1 => assumption
  case a2 => assumption
  case a3 => exact ⟨_, hgW, rfl, kw, rfl⟩
  case a5 => rw [List.size_toArray, hWs.length, sizeLine_eq]; omega
  case a6 =>
    intro g2
    refine' comp_restT (FirJ ws _) _ ?step ?fin _ 0 [] _ (Nat.zero_add _) ⟨rfl, .nil⟩
    case step =>
      rintro i ys news hi hJ01 v I oI C oC D m₂ h tk E' hv hC hx F N off ne
      (try ((with_reducible show wpAny _ _ _ _ _ _); k_fold))
      obtain ⟨rfl, hI⟩ := hJ01
      obtain ⟨a', x', t', r', n', rfl, hx', hm'⟩ := hWs.at hv
      have hgt := hg2 _ hm'
      dsimp only at hgt
      have off1 := off
      simp only [LCg.Off3, and_true] at off1
      dsimp only
      (repeat' ((fail_if_success (with_reducible show wpAny _ _ (exec (Stmt.For _ _ _ _ _) _) _ _ _)); (fail_if_success (with_reducible show wpAny _ _ (pyIter _) _ _ _)); (fail_if_success (with_reducible show wpAny _ _ (eval (Expr.ListComp _ _ _ _) _) _ _ _)); (fail_if_success (with_reducible show wpAny _ _ (exec (Stmt.Assign _ (Expr.ListComp _ _ _ _) _) _) _ _ _)); (fail_if_success (with_reducible show LCg.CompSrc _ _ _ _ _ _ _ _ _ _ _ _ _ _)); (fail_if_success (with_reducible show LCt.CompSrcT _ _ _ _ _ _ _ _ _ _ _ _ _ _ _)); (fail_if_success (with_reducible show LCg.CompEnd _ _ _ _ _ _ _ _ _ _ _ _ _ _)); (fail_if_success (with_reducible show wpAny _ _ (exec (Stmt.While _ _ _ _) _) _ _ _)); first | ((fail_if_success (fail_if_success k_unfold)); (show wpAny _ _ _ _ _ _); (try dsimp only)) | (k_unfold; (try dsimp only)) | ((first | (with_reducible show wpAny _ _ (exec _ _) _ _ _) | (with_reducible show wpAny _ _ (isTrue _ _) _ _ _) | (with_reducible show wpAny _ _ (eval (Expr.Call _ _ _ _) _) _ _ _) | (with_reducible show wpAny _ _ (eval (Expr.Compare _ _ _ _) _) _ _ _) | (with_reducible show wpAny _ _ (eval (Expr.Subscript _ _ _) _) _ _ _)); k_fold) | (k_end; wrow_close) | walk1 | (dsimp only; walk1) | (leave1; walk_say "STEP leave1"; try dsimp only) | fail "no step"))
      · exact LCg.CompEnd.intro F N _ (fun p hp => hp) off (.inl ⟨_, hgW, rfl, kw, rfl⟩) (FirJ.yes hI hx' (by assumption))
      · exact LCg.CompEnd.intro F N _ (fun p hp => hp) off (.inl ⟨_, hgW, rfl, kw, rfl⟩) (FirJ.no hI hx' (by omega))
    case fin =>
      rintro ys news hJ02
      (try ((with_reducible show wpAny _ _ _ _ _ _); k_fold))
      obtain ⟨rfl, hI⟩ := hJ02
      intro D h tk F N o1
      have hlen : ((ws.take refs.toArray.size).filter fun x => decide (x ≠ 0)).length ≤ 6 := Nat.le_trans (List.length_filter_le _ _) (by rw [List.length_take]; omega)
      simp only [LCg.Off1, and_true] at o1
      dsimp only
      (repeat' ((fail_if_success (with_reducible show wpAny _ _ (exec (Stmt.For _ _ _ _ _) _) _ _ _)); (fail_if_success (with_reducible show wpAny _ _ (pyIter _) _ _ _)); (fail_if_success (with_reducible show wpAny _ _ (eval (Expr.ListComp _ _ _ _) _) _ _ _)); (fail_if_success (with_reducible show wpAny _ _ (exec (Stmt.Assign _ (Expr.ListComp _ _ _ _) _) _) _ _ _)); (fail_if_success (with_reducible show LCg.CompSrc _ _ _ _ _ _ _ _ _ _ _ _ _ _)); (fail_if_success (with_reducible show LCt.CompSrcT _ _ _ _ _ _ _ _ _ _ _ _ _ _ _)); (fail_if_success (with_reducible show LCg.CompEnd _ _ _ _ _ _ _ _ _ _ _ _ _ _)); (fail_if_success (with_reducible show wpAny _ _ (exec (Stmt.While _ _ _ _) _) _ _ _)); first | ((fail_if_success (fail_if_success k_unfold)); (show wpAny _ _ _ _ _ _); (try dsimp only)) | (k_unfold; (try dsimp only)) | ((first | (with_reducible show wpAny _ _ (exec _ _) _ _ _) | (with_reducible show wpAny _ _ (isTrue _ _) _ _ _) | (with_reducible show wpAny _ _ (eval (Expr.Call _ _ _ _) _) _ _ _) | (with_reducible show wpAny _ _ (eval (Expr.Compare _ _ _ _) _) _ _ _) | (with_reducible show wpAny _ _ (eval (Expr.Subscript _ _ _) _) _ _ _)); k_fold) | (k_end; wrow_close) | walk1 | (dsimp only; walk1) | (leave1; walk_say "STEP leave1"; try dsimp only) | fail "no step"))
      (try ((with_reducible show wpAny _ _ _ _ _ _); k_fold))
      k_dflt (refine LCg.ListComp_U (F₀ := by k_asm) (by with_unfolding_all rfl) (by decide) (by rfl) (by decide) (by rfl) ?_)
      (repeat' ((fail_if_success (with_reducible show wpAny _ _ (exec (Stmt.For _ _ _ _ _) _) _ _ _)); (fail_if_success (with_reducible show wpAny _ _ (pyIter _) _ _ _)); (fail_if_success (with_reducible show wpAny _ _ (eval (Expr.ListComp _ _ _ _) _) _ _ _)); (fail_if_success (with_reducible show wpAny _ _ (exec (Stmt.Assign _ (Expr.ListComp _ _ _ _) _) _) _ _ _)); (fail_if_success (with_reducible show LCg.CompSrc _ _ _ _ _ _ _ _ _ _ _ _ _ _)); (fail_if_success (with_reducible show LCt.CompSrcT _ _ _ _ _ _ _ _ _ _ _ _ _ _ _)); (fail_if_success (with_reducible show LCg.CompEnd _ _ _ _ _ _ _ _ _ _ _ _ _ _)); (fail_if_success (with_reducible show wpAny _ _ (exec (Stmt.While _ _ _ _) _) _ _ _)); first | ((fail_if_success (fail_if_success k_unfold)); (show wpAny _ _ _ _ _ _); (try dsimp only)) | (k_unfold; (try dsimp only)) | ((first | (with_reducible show wpAny _ _ (exec _ _) _ _ _) | (with_reducible show wpAny _ _ (isTrue _ _) _ _ _) | (with_reducible show wpAny _ _ (eval (Expr.Call _ _ _ _) _) _ _ _) | (with_reducible show wpAny _ _ (eval (Expr.Compare _ _ _ _) _) _ _ _) | (with_reducible show wpAny _ _ (eval (Expr.Subscript _ _ _) _) _ _ _)); k_fold) | (k_end; wrow_close) | walk1 | (dsimp only; walk1) | (leave1; walk_say "STEP leave1"; try dsimp only) | fail "no step"))
      k_dflt (refine' LCg.CompSrc.ledger rfl ?b1 ?b2 ?b3 ?b4 ?b5)
      case b1 => assumption
      case b2 => assumption
      case b3 => exact .head _
      case b4 => rw [List.size_toArray, hI.length, sizeLine_eq]; omega
      case b5 =>
        intro g3
        refine' comp_rest (MapJ (movedF firsts bs e) _ _) _ ?step2 ?fin2 _ 0 [] _ (Nat.zero_add _) ⟨rfl, .nil⟩
        case step2 =>
          rintro i ys2 news hi hJ03 v I oI C oC D2 m₂ h tk E' hv hC hx F N off ne
          (try ((with_reducible show wpAny _ _ _ _ _ _); k_fold))
          obtain ⟨rfl, hJ⟩ := hJ03
          obtain ⟨x', t', rfl, hx'⟩ := ia_at hI hv
          have off1 := off
          simp only [LCg.Off3, and_true] at off1
          dsimp only
          (repeat' ((fail_if_success (with_reducible show wpAny _ _ (exec (Stmt.For _ _ _ _ _) _) _ _ _)); (fail_if_success (with_reducible show wpAny _ _ (pyIter _) _ _ _)); (fail_if_success (with_reducible show wpAny _ _ (eval (Expr.ListComp _ _ _ _) _) _ _ _)); (fail_if_success (with_reducible show wpAny _ _ (exec (Stmt.Assign _ (Expr.ListComp _ _ _ _) _) _) _ _ _)); (fail_if_success (with_reducible show LCg.CompSrc _ _ _ _ _ _ _ _ _ _ _ _ _ _)); (fail_if_success (with_reducible show LCt.CompSrcT _ _ _ _ _ _ _ _ _ _ _ _ _ _ _)); (fail_if_success (with_reducible show LCg.CompEnd _ _ _ _ _ _ _ _ _ _ _ _ _ _)); (fail_if_success (with_reducible show wpAny _ _ (exec (Stmt.While _ _ _ _) _) _ _ _)); first | ((fail_if_success (fail_if_success k_unfold)); (show wpAny _ _ _ _ _ _); (try dsimp only)) | (k_unfold; (try dsimp only)) | ((first | (with_reducible show wpAny _ _ (exec _ _) _ _ _) | (with_reducible show wpAny _ _ (isTrue _ _) _ _ _) | (with_reducible show wpAny _ _ (eval (Expr.Call _ _ _ _) _) _ _ _) | (with_reducible show wpAny _ _ (eval (Expr.Compare _ _ _ _) _) _ _ _) | (with_reducible show wpAny _ _ (eval (Expr.Subscript _ _ _) _) _ _ _)); k_fold) | (k_end; wrow_close) | walk1 | (dsimp only; walk1) | (leave1; walk_say "STEP leave1"; try dsimp only) | fail "no step"))
          (try k_unfold)
          dsimp only
          refine' LCg.CompEnd.intro (h' := _) ?y1 ?y2 _ ?y3 off ?y4 (MapJ.snoc hJ hx')
          case y1 => assumption
          case y2 => assumption
          case y3 => exact fun p hp => hp
          case y4 => exact .inr ⟨_, .head _, rfl, _, rfl⟩
        case fin2 =>
          rintro ys2 news hJ04
          (try ((with_reducible show wpAny _ _ _ _ _ _); k_fold))
          obtain ⟨rfl, hJ⟩ := hJ04
          intro D2 h tk F N o2
          simp only [LCg.Off1, and_true] at o2
          dsimp only
          (repeat' ((fail_if_success (with_reducible show wpAny _ _ (exec (Stmt.For _ _ _ _ _) _) _ _ _)); (fail_if_success (with_reducible show wpAny _ _ (pyIter _) _ _ _)); (fail_if_success (with_reducible show wpAny _ _ (eval (Expr.ListComp _ _ _ _) _) _ _ _)); (fail_if_success (with_reducible show wpAny _ _ (exec (Stmt.Assign _ (Expr.ListComp _ _ _ _) _) _) _ _ _)); (fail_if_success (with_reducible show LCg.CompSrc _ _ _ _ _ _ _ _ _ _ _ _ _ _)); (fail_if_success (with_reducible show LCt.CompSrcT _ _ _ _ _ _ _ _ _ _ _ _ _ _ _)); (fail_if_success (with_reducible show LCg.CompEnd _ _ _ _ _ _ _ _ _ _ _ _ _ _)); (fail_if_success (with_reducible show wpAny _ _ (exec (Stmt.While _ _ _ _) _) _ _ _)); first | ((fail_if_success (fail_if_success k_unfold)); (show wpAny _ _ _ _ _ _); (try dsimp only)) | (k_unfold; (try dsimp only)) | ((first | (with_reducible show wpAny _ _ (exec _ _) _ _ _) | (with_reducible show wpAny _ _ (isTrue _ _) _ _ _) | (with_reducible show wpAny _ _ (eval (Expr.Call _ _ _ _) _) _ _ _) | (with_reducible show wpAny _ _ (eval (Expr.Compare _ _ _ _) _) _ _ _) | (with_reducible show wpAny _ _ (eval (Expr.Subscript _ _ _) _) _ _ _)); k_fold) | (k_end; wrow_close) | walk1 | (dsimp only; walk1) | (leave1; walk_say "STEP leave1"; try dsimp only) | fail "no step"))
          refine' ret _ ys2 ys2.length _ _ (firstF_of hWs.length hI hJ) ?z0 ?z1 ?z2 ?z3 ?z4
          case z1 => k_asm
          case z0 => simpa only [List.forall_mem_cons, List.not_mem_nil, false_imp_iff, implies_true, and_true] using o2.2.2
          case z2 => exact news_sub (by assumption) (by lcg_sub)
          case z3 => refine' keep_rest M off0 ?g1 ?g2; (case g1 => assumption); (case g2 => assumption)
          case z4 => refine' fresh_sub ?g2 M off0 ?g1 ?g3; (case g1 => assumption); (case g2 => assumption); (case g3 => lcg_sub)


section
variable {w : World} {p : Program} {loose : List Str} {mean : ExcName → Option Value} {mg mb : Str → Option Value}
    {dp un : Nat} {gd : Option (List Code)} {cn : Str} {cs : Scope} {a : Addr} {ccd : Value} {cl : List (Str × Addr)} {outer : List Env} {A₀ : Around} {base h₀ : Heap} {L : Addr} {m : Str → Option Value} {s : Shared} {Q E : Value → Shared → Prop}
    {news : Led} {sub : Led} {o dO x dx aF2 aB aW : Addr} {q1 q2 q3 q4 q5 q6 q7 q8 qs t1 t2 t3 te : Tok} {fv refs : List Value} {firsts ws : List Int} {e : Int} {c kw : Nat} {oB : Obj} {bs : List (Int × Int)}
/-- collkey_first, the weights in the ground -/
theorem first_use
    (B : Below A₀ base outer h₀) (F : Fr h₀ L s.heap m) (X : (hd.heap_39 w.params).In h₀) (N : News h₀ L s.heap news) (T : Top p loose mean mg mb h₀) (hk : cs.kind = .function)
    (hR : ReoIs PySem.Challenge.rw_pq1297_01.row.prog w fv firsts oB bs aB) (hV : ∀ p ∈ optLed w.params o dO q1 q2 q3 q4 q5 q6 q7 q8 qs x dx aF2 aB t1 t2 t3 te e fv c oB, p ∈ news)
    (hS : ∀ p ∈ sub, h₀.get? p.1 = some p.2) (hW : (aW, listOf refs.toArray kw) ∈ sub) (hWs : Tups sub refs ws) (h6 : ws.length ≤ 6)
    (hd : dp + 50 < recursionLimit) (hu : un + 1500 < cLine)
    (ret : ∀ aR rv n' h' tk', IntsAre rv (firstF firsts bs e ws) → Fr h₀ L h' m → News h₀ L h' ((aR, listOf rv.toArray n') :: news) → (∀ q ∈ news, @Ne Nat q.1 aR) → Q (.ref aR) { s with heap := h', toks := tk' })
    : wpAny (model PySem.Challenge.rw_pq1297_01.row.prog w) (ktrTop dp un gd cn cs L a ccd cl outer) (call (.ref 85) [.ref aW, .ref o]) Q E s := by
  refine first_spec B F X T hk (news_sub N offOf_sub) offOf_off (news_sub N hV) hR (fun p hp => F.keep _ _ (hS p hp)) ?_ hW hWs h6 hd hu fun aR rv n' h' tk' hI hV6 F' N1 N2 hne => ret aR rv n' h' tk' hI F' ?_ ?_
  · intro q hq p hp e
    have h1 := (N q (hV q hq)).2.2
    rw [e, hS p hp] at h1; cases h1
  · intro p hp
    rcases List.mem_cons.mp hp with rfl | hp
    · exact N1 _ (.head _)
    · exact offOf_back N hV (news_sub N1 fun _ h => .tail _ h) N2 p hp
  · intro q hq e9
    by_cases e2 : q ∈ offOf (optLed w.params o dO q1 q2 q3 q4 q5 q6 q7 q8 qs x dx aF2 aB t1 t2 t3 te e fv c oB) news
    · exact hne _ (.head _) q e2 e9
    · refine hV6 q ?_ e9
      apply Classical.byContradiction
      intro hn
      refine e2 (List.mem_filter.mpr ⟨hq, List.all_eq_true.mpr fun z hz => decide_eq_true fun ez => hn ?_⟩)
      have h1 := (N z (hV z hz)).1
      rw [ez, (N q hq).1] at h1
      have : q = z := Prod.ext ez.symm (Option.some.inj h1)
      exact this ▸ hz
end
end
set_option maxHeartbeats 16000000 in
theorem level_spec {w : World} {p : Program} {loose : List Str} {mean : ExcName → Option Value} {mg mb : Str → Option Value}
    {dp un : Nat} {gd : Option (List Code)} {cn : Str} {cs : Scope} {a : Addr} {ccd : Value} {cl : List (Str × Addr)} {outer : List Env} {A₀ : Around} {base h₀ : Heap} {L : Addr} {m : Str → Option Value} {s : Shared} {Q E : Value → Shared → Prop}
    {rest : Led} {sub : Led} {o dO x dx aF2 aB aW : Addr} {q1 q2 q3 q4 q5 q6 q7 q8 qs t1 t2 t3 te : Tok} {fv refs : List Value} {firsts ws : List Int} {e : Int} {c kw : Nat} {oB : Obj} {bs : List (Int × Int)} {nn : Int} {tn : Tok}
    (B : Below A₀ base outer h₀) (F : Fr h₀ L s.heap m) (X : (hd.heap_39 w.params).In h₀) (T : Top p loose mean mg mb h₀) (hk : cs.kind = .function)
    (M : News h₀ L s.heap rest) (off : ∀ q ∈ ((optLed w.params o dO q1 q2 q3 q4 q5 q6 q7 q8 qs x dx aF2 aB t1 t2 t3 te e fv c oB) : Led), ∀ p ∈ rest, q.1 ≠ p.1) (N : News h₀ L s.heap (optLed w.params o dO q1 q2 q3 q4 q5 q6 q7 q8 qs x dx aF2 aB t1 t2 t3 te e fv c oB))
    (hR : ReoIs PySem.Challenge.rw_pq1297_01.row.prog w fv firsts oB bs aB) (hS : ∀ p ∈ sub, s.heap.get? p.1 = some p.2) (hSo : ∀ q ∈ (optLed w.params o dO q1 q2 q3 q4 q5 q6 q7 q8 qs x dx aF2 aB t1 t2 t3 te e fv c oB), ∀ p ∈ sub, q.1 ≠ p.1) (hW : (aW, listOf refs.toArray kw) ∈ sub) (hWs : Tups sub refs ws) (h6 : ws.length ≤ 6) (hnn : nn = 0)
    (hd : dp + 110 < recursionLimit) (hu : un + 5000 < cLine)
    (ret : ∀ aR rv n' h' tk', IntsAre rv (firstF firsts bs e ws) → (∀ q ∈ (optLed w.params o dO q1 q2 q3 q4 q5 q6 q7 q8 qs x dx aF2 aB t1 t2 t3 te e fv c oB), q.1 ≠ aR) → Fr h₀ L h' m → News h₀ L h' ((aR, listOf rv.toArray n') :: (optLed w.params o dO q1 q2 q3 q4 q5 q6 q7 q8 qs x dx aF2 aB t1 t2 t3 te e fv c oB)) → News h₀ L h' rest → (∀ p ∈ ((aR, listOf rv.toArray n') :: (optLed w.params o dO q1 q2 q3 q4 q5 q6 q7 q8 qs x dx aF2 aB t1 t2 t3 te e fv c oB) : Led), ∀ q ∈ rest, q.1 ≠ p.1) → Q (.ref aR) { s with heap := h', toks := tk' })
    : wpAny (model PySem.Challenge.rw_pq1297_01.row.prog w) (ktrTop dp un gd cn cs L a ccd cl outer) (call (.ref 119) [.ref aW, .int nn tn, .ref o]) Q E s := by
  w_top off
  k_with_none
  k_with "call type:range" => (k_here; first | ((with_reducible show wpAny _ _ (call _ [Value.int _ _]) _ _ _); k_dflt (refine range1_rows (by k_asm) (by k_asm) ?_; intro h'9 tk'9 t1'9 u1'9 v1'9 R'9 F'9 N'9 _); (try k_sweep)) | ((with_reducible show wpAny _ _ (call _ [Value.int _ _, Value.int _ _]) _ _ _); k_dflt (refine range2_rows (by k_asm) (by k_asm) ?_; intro h'9 tk'9 t1'9 u1'9 v1'9 R'9 F'9 N'9 _); (try k_sweep)))
  k_with "call type:list" => (k_here; (with_reducible show wpAny _ _ (call (Value.type _) [Value.ref _]) _ _ _); k_dflt (refine' kll_range rfl ?k1 ?k2 ?k3 ?k4 (rangeSize_nat _ _) ?k6 ?_; (case k1 => k_asm); (case k2 => k_asm); (case k3 => with_reducible assumption); (case k4 => exact small_one (by omega) (by omega) (by omega) (by omega)); (case k6 => omega); k_whole); intro D'9 vs'9 c'9 h'9 tk'9 F'9 N'9 l19 hI'9; (try k_lt l19); (try k_sweep))
  k_with "call ref" => (k_here; (with_reducible show wpAny _ _ (call (Value.ref 85) _) _ _ _); k_dflt (refine' first_use ?k1 ?k2 ?k3 ?k4 ?k5 ?k6 ?k7 ?kp1 ?kq1 ?kq2 ?kq3 ?kq4 ?k12 ?k13 ?_; (case k1 => k_asm); (case k2 => k_asm); (case k3 => k_asm); (case k4 => k_asm); (case k5 => k_asm); (case k6 => first | rfl | assumption); (case k7 => assumption); (case kq1 => assumption); (case kq2 => assumption); (case kq3 => assumption); (case kq4 => assumption); (case kp1 => lcg_sub); (case k12 => ktr_room); (case k13 => ktr_units); k_whole; intro aR'9 rv'9 n'9 h'9 tk'9 hI'9 F'9 N'9 oR'9; (try simp only [List.forall_mem_cons, List.forall_mem_append, List.not_mem_nil, false_imp_iff, implies_true, and_true] at oR'9); (try dsimp only at F'9 N'9); (try k_sweep)))
  subst hnn
  have off0 := off
  refine wpAny_call ?_
  (k_dflt (refine' call_sub ?k1 ?k2 ?k3 ?k4 ?k5 ?kA ?kF ?kK ?k6 ?k7 ?k8 ?k9 ?kB ?_ ?c2 ?c3 ?c4 ?c5; (case kA => exact rfl); (case kF => exact rfl); (case kK => assumption); (case k1 => k_asm); (case k2 => k_asm); (case k3 => k_asm); (case k4 => assumption); (case k5 => k_asm); (case k6 => k_is); (case k7 => k_is); (case k8 => ktr_room); (case k9 => first | exact BindsTo.of_eq rfl | exact binds_K (by k_in) rfl (by k_is) rfl rfl rfl); (case c5 => decide); (case kB => exact locs rfl); (case c2 => exact rfl); (case c3 => exact rfl); (case c4 => exact rfl); k_whole))
  intro g L' h1 FG F1 N1 B1 X1 T1 hg lt
  have hg2 := fun (p : Addr × Obj) (hp : p ∈ sub) => hg p.1 p.2 (hS p hp) (fun q hq => hSo q hq p hp)
  k_lt lt
  (repeat' ((fail_if_success (with_reducible show wpAny _ _ (exec (Stmt.For _ _ _ _ _) _) _ _ _)); (fail_if_success (with_reducible show wpAny _ _ (pyIter _) _ _ _)); (fail_if_success (with_reducible show wpAny _ _ (eval (Expr.ListComp _ _ _ _) _) _ _ _)); (fail_if_success (with_reducible show wpAny _ _ (exec (Stmt.Assign _ (Expr.ListComp _ _ _ _) _) _) _ _ _)); (fail_if_success (with_reducible show LCg.CompSrc _ _ _ _ _ _ _ _ _ _ _ _ _ _)); (fail_if_success (with_reducible show LCt.CompSrcT _ _ _ _ _ _ _ _ _ _ _ _ _ _ _)); (fail_if_success (with_reducible show LCg.CompEnd _ _ _ _ _ _ _ _ _ _ _ _ _ _)); (fail_if_success (with_reducible show wpAny _ _ (exec (Stmt.While _ _ _ _) _) _ _ _)); first | ((fail_if_success (fail_if_success k_unfold)); (show wpAny _ _ _ _ _ _); (try dsimp only)) | (k_unfold; (try dsimp only)) | ((first | (with_reducible show wpAny _ _ (exec _ _) _ _ _) | (with_reducible show wpAny _ _ (isTrue _ _) _ _ _) | (with_reducible show wpAny _ _ (eval (Expr.Call _ _ _ _) _) _ _ _) | (with_reducible show wpAny _ _ (eval (Expr.Compare _ _ _ _) _) _ _ _) | (with_reducible show wpAny _ _ (eval (Expr.Subscript _ _ _) _) _ _ _)); k_fold) | (k_end; wrow_close) | walk1 | (dsimp only; walk1) | (leave1; walk_say "STEP leave1"; try dsimp only) | fail "no step"))
  all_goals try (exfalso; (rename [(1 : Int)].getD _ 0 ≠ 1 => a1); exact absurd (by rfl) a1)
  refine' ret _ _ _ _ _ ?z5 ?z7 ?z1 ?z2 ?z3 ?z4
  case z1 => k_asm
  case z2 => exact news_sub (by assumption) (by lcg_sub)
  case z5 => assumption
  case z7 => exact List.forall_mem_cons.mpr ⟨by k_ne, List.forall_mem_cons.mpr ⟨by k_ne, List.forall_mem_cons.mpr ⟨by k_ne, List.forall_mem_cons.mpr ⟨by k_ne, List.forall_mem_cons.mpr ⟨by k_ne, List.forall_mem_cons.mpr ⟨by k_ne, List.forall_mem_nil _⟩⟩⟩⟩⟩⟩
  case z3 => refine' keep_rest M off0 ?g1 ?g2; (case g1 => assumption); (case g2 => assumption)
  case z4 => refine' fresh_sub ?g2 M off0 ?g1 ?g3; (case g1 => assumption); (case g2 => assumption); (case g3 => lcg_sub)

set_option maxHeartbeats 16000000 in
theorem levelN_spec {w : World} {p : Program} {loose : List Str} {mean : ExcName → Option Value} {mg mb : Str → Option Value}
    {dp un : Nat} {gd : Option (List Code)} {cn : Str} {cs : Scope} {a : Addr} {ccd : Value} {cl : List (Str × Addr)} {outer : List Env} {A₀ : Around} {base h₀ : Heap} {L : Addr} {m : Str → Option Value} {s : Shared} {Q E : Value → Shared → Prop}
    {rest : Led} {sub : Led} {o dO x dx aF2 aB aW : Addr} {q1 q2 q3 q4 q5 q6 q7 q8 qs t1 t2 t3 te : Tok} {fv refs : List Value} {firsts ws : List Int} {e : Int} {c kw : Nat} {oB : Obj} {bs : List (Int × Int)} {nn : Int} {tn : Tok}
    (B : Below A₀ base outer h₀) (F : Fr h₀ L s.heap m) (X : (hd.heap_39 w.params).In h₀) (T : Top p loose mean mg mb h₀) (hk : cs.kind = .function)
    (M : News h₀ L s.heap rest) (off : ∀ q ∈ ((optLed w.params o dO q1 q2 q3 q4 q5 q6 q7 q8 qs x dx aF2 aB t1 t2 t3 te e fv c oB) : Led), ∀ p ∈ rest, q.1 ≠ p.1) (N : News h₀ L s.heap (optLed w.params o dO q1 q2 q3 q4 q5 q6 q7 q8 qs x dx aF2 aB t1 t2 t3 te e fv c oB))
    (hR : ReoIs PySem.Challenge.rw_pq1297_01.row.prog w fv firsts oB bs aB) (hS : ∀ p ∈ sub, s.heap.get? p.1 = some p.2) (hSo : ∀ q ∈ (optLed w.params o dO q1 q2 q3 q4 q5 q6 q7 q8 qs x dx aF2 aB t1 t2 t3 te e fv c oB), ∀ p ∈ sub, q.1 ≠ p.1) (hW : (aW, listOf refs.toArray kw) ∈ sub) (hWs : Tups sub refs ws) (h6 : ws.length ≤ 6) (hnn : 1 ≤ nn)
    (hd : dp + 110 < recursionLimit) (hu : un + 5000 < cLine)
    (ret : ∀ h' tk', Fr h₀ L h' m → News h₀ L h' ((optLed w.params o dO q1 q2 q3 q4 q5 q6 q7 q8 qs x dx aF2 aB t1 t2 t3 te e fv c oB)) → News h₀ L h' rest → (∀ p ∈ ((optLed w.params o dO q1 q2 q3 q4 q5 q6 q7 q8 qs x dx aF2 aB t1 t2 t3 te e fv c oB) : Led), ∀ q ∈ rest, q.1 ≠ p.1) → Q .none { s with heap := h', toks := tk' })
    : wpAny (model PySem.Challenge.rw_pq1297_01.row.prog w) (ktrTop dp un gd cn cs L a ccd cl outer) (call (.ref 119) [.ref aW, .int nn tn, .ref o]) Q E s := by
  w_top off
  k_with_none
  k_with "call type:range" => (k_here; first | ((with_reducible show wpAny _ _ (call _ [Value.int _ _]) _ _ _); k_dflt (refine range1_rows (by k_asm) (by k_asm) ?_; intro h'9 tk'9 t1'9 u1'9 v1'9 R'9 F'9 N'9 _); (try k_sweep)) | ((with_reducible show wpAny _ _ (call _ [Value.int _ _, Value.int _ _]) _ _ _); k_dflt (refine range2_rows (by k_asm) (by k_asm) ?_; intro h'9 tk'9 t1'9 u1'9 v1'9 R'9 F'9 N'9 _); (try k_sweep)))
  k_with "call type:list" => (k_here; (with_reducible show wpAny _ _ (call (Value.type _) [Value.ref _]) _ _ _); k_dflt (refine' kll_range rfl ?k1 ?k2 ?k3 ?k4 (rangeSize_nat _ _) ?k6 ?_; (case k1 => k_asm); (case k2 => k_asm); (case k3 => with_reducible assumption); (case k4 => exact small_one (by omega) (by omega) (by omega) (by omega)); (case k6 => omega); k_whole); intro D'9 vs'9 c'9 h'9 tk'9 F'9 N'9 l19 hI'9; (try k_lt l19); (try k_sweep))
  k_with "call ref" => (k_here; (with_reducible show wpAny _ _ (call (Value.ref 85) _) _ _ _); k_dflt (refine' first_use ?k1 ?k2 ?k3 ?k4 ?k5 ?k6 ?k7 ?kp1 ?kq1 ?kq2 ?kq3 ?kq4 ?k12 ?k13 ?_; (case k1 => k_asm); (case k2 => k_asm); (case k3 => k_asm); (case k4 => k_asm); (case k5 => k_asm); (case k6 => first | rfl | assumption); (case k7 => assumption); (case kq1 => assumption); (case kq2 => assumption); (case kq3 => assumption); (case kq4 => assumption); (case kp1 => lcg_sub); (case k12 => ktr_room); (case k13 => ktr_units); k_whole; intro aR'9 rv'9 n'9 h'9 tk'9 hI'9 F'9 N'9 oR'9; (try simp only [List.forall_mem_cons, List.forall_mem_append, List.not_mem_nil, false_imp_iff, implies_true, and_true] at oR'9); (try dsimp only at F'9 N'9); (try k_sweep)))
  have off0 := off
  refine wpAny_call ?_
  (k_dflt (refine' call_sub ?k1 ?k2 ?k3 ?k4 ?k5 ?kA ?kF ?kK ?k6 ?k7 ?k8 ?k9 ?kB ?_ ?c2 ?c3 ?c4 ?c5; (case kA => exact rfl); (case kF => exact rfl); (case kK => assumption); (case k1 => k_asm); (case k2 => k_asm); (case k3 => k_asm); (case k4 => assumption); (case k5 => k_asm); (case k6 => k_is); (case k7 => k_is); (case k8 => ktr_room); (case k9 => first | exact BindsTo.of_eq rfl | exact binds_K (by k_in) rfl (by k_is) rfl rfl rfl); (case c5 => decide); (case kB => exact locs rfl); (case c2 => exact rfl); (case c3 => exact rfl); (case c4 => exact rfl); k_whole))
  intro g L' h1 FG F1 N1 B1 X1 T1 hg lt
  have hg2 := fun (p : Addr × Obj) (hp : p ∈ sub) => hg p.1 p.2 (hS p hp) (fun q hq => hSo q hq p hp)
  k_lt lt
  (repeat' ((fail_if_success (with_reducible show wpAny _ _ (exec (Stmt.For _ _ _ _ _) _) _ _ _)); (fail_if_success (with_reducible show wpAny _ _ (pyIter _) _ _ _)); (fail_if_success (with_reducible show wpAny _ _ (eval (Expr.ListComp _ _ _ _) _) _ _ _)); (fail_if_success (with_reducible show wpAny _ _ (exec (Stmt.Assign _ (Expr.ListComp _ _ _ _) _) _) _ _ _)); (fail_if_success (with_reducible show LCg.CompSrc _ _ _ _ _ _ _ _ _ _ _ _ _ _)); (fail_if_success (with_reducible show LCt.CompSrcT _ _ _ _ _ _ _ _ _ _ _ _ _ _ _)); (fail_if_success (with_reducible show LCg.CompEnd _ _ _ _ _ _ _ _ _ _ _ _ _ _)); (fail_if_success (with_reducible show wpAny _ _ (exec (Stmt.While _ _ _ _) _) _ _ _)); first | ((fail_if_success (fail_if_success k_unfold)); (show wpAny _ _ _ _ _ _); (try dsimp only)) | (k_unfold; (try dsimp only)) | ((first | (with_reducible show wpAny _ _ (exec _ _) _ _ _) | (with_reducible show wpAny _ _ (isTrue _ _) _ _ _) | (with_reducible show wpAny _ _ (eval (Expr.Call _ _ _ _) _) _ _ _) | (with_reducible show wpAny _ _ (eval (Expr.Compare _ _ _ _) _) _ _ _) | (with_reducible show wpAny _ _ (eval (Expr.Subscript _ _ _) _) _ _ _)); k_fold) | (k_end; wrow_close) | walk1 | (dsimp only; walk1) | (leave1; walk_say "STEP leave1"; try dsimp only) | fail "no step"))
  refine' ret _ _ ?z1 ?z2 ?z3 ?z4
  case z1 => k_asm
  case z2 => exact news_sub (by assumption) (by lcg_sub)
  case z3 => refine' keep_rest M off0 ?g1 ?g2; (case g1 => assumption); (case g2 => assumption)
  case z4 => refine' fresh_sub ?g2 M off0 ?g1 ?g3; (case g1 => assumption); (case g2 => assumption); (case g3 => lcg_sub)


section
variable {w : World} {p : Program} {loose : List Str} {mean : ExcName → Option Value} {mg mb : Str → Option Value}
    {dp un : Nat} {gd : Option (List Code)} {cn : Str} {cs : Scope} {a : Addr} {ccd : Value} {cl : List (Str × Addr)} {outer : List Env} {A₀ : Around} {base h₀ : Heap} {L : Addr} {m : Str → Option Value} {s : Shared} {Q E : Value → Shared → Prop}
    {news : Led} {sub : Led} {o dO x dx aF2 aB aW : Addr} {q1 q2 q3 q4 q5 q6 q7 q8 qs t1 t2 t3 te : Tok} {fv refs : List Value} {firsts ws : List Int} {e : Int} {c kw : Nat} {oB : Obj} {bs : List (Int × Int)}
/-- collkey_level, the weights in the ground -/
theorem level_use
    (B : Below A₀ base outer h₀) (F : Fr h₀ L s.heap m) (X : (hd.heap_39 w.params).In h₀) (N : News h₀ L s.heap news) (T : Top p loose mean mg mb h₀) (hk : cs.kind = .function)
    (hR : ReoIs PySem.Challenge.rw_pq1297_01.row.prog w fv firsts oB bs aB) (hV : ∀ p ∈ optLed w.params o dO q1 q2 q3 q4 q5 q6 q7 q8 qs x dx aF2 aB t1 t2 t3 te e fv c oB, p ∈ news)
    (hS : ∀ p ∈ sub, h₀.get? p.1 = some p.2) (hW : (aW, listOf refs.toArray kw) ∈ sub) (hWs : Tups sub refs ws) (h6 : ws.length ≤ 6) {nn : Int} {tn : Tok} (hnn : nn = 0)
    (hd : dp + 110 < recursionLimit) (hu : un + 5000 < cLine)
    (ret : ∀ aR rv n' h' tk', IntsAre rv (firstF firsts bs e ws) → Fr h₀ L h' m → News h₀ L h' ((aR, listOf rv.toArray n') :: news) → (∀ q ∈ news, @Ne Nat q.1 aR) → Q (.ref aR) { s with heap := h', toks := tk' })
    : wpAny (model PySem.Challenge.rw_pq1297_01.row.prog w) (ktrTop dp un gd cn cs L a ccd cl outer) (call (.ref 119) [.ref aW, .int nn tn, .ref o]) Q E s := by
  refine level_spec B F X T hk (news_sub N offOf_sub) offOf_off (news_sub N hV) hR (fun p hp => F.keep _ _ (hS p hp)) ?_ hW hWs h6 hnn hd hu fun aR rv n' h' tk' hI hV6 F' N1 N2 hne => ret aR rv n' h' tk' hI F' ?_ ?_
  · intro q hq p hp e
    have h1 := (N q (hV q hq)).2.2
    rw [e, hS p hp] at h1; cases h1
  · intro p hp
    rcases List.mem_cons.mp hp with rfl | hp
    · exact N1 _ (.head _)
    · exact offOf_back N hV (news_sub N1 fun _ h => .tail _ h) N2 p hp
  · intro q hq e9
    by_cases e2 : q ∈ offOf (optLed w.params o dO q1 q2 q3 q4 q5 q6 q7 q8 qs x dx aF2 aB t1 t2 t3 te e fv c oB) news
    · exact hne _ (.head _) q e2 e9
    · refine hV6 q ?_ e9
      apply Classical.byContradiction
      intro hn
      refine e2 (List.mem_filter.mpr ⟨hq, List.all_eq_true.mpr fun z hz => decide_eq_true fun ez => hn ?_⟩)
      have h1 := (N z (hV z hz)).1
      rw [ez, (N q hq).1] at h1
      have : q = z := Prod.ext ez.symm (Option.some.inj h1)
      exact this ▸ hz

/-- collkey_level behind the last -/
theorem levelN_use
    (B : Below A₀ base outer h₀) (F : Fr h₀ L s.heap m) (X : (hd.heap_39 w.params).In h₀) (N : News h₀ L s.heap news) (T : Top p loose mean mg mb h₀) (hk : cs.kind = .function)
    (hR : ReoIs PySem.Challenge.rw_pq1297_01.row.prog w fv firsts oB bs aB) (hV : ∀ p ∈ optLed w.params o dO q1 q2 q3 q4 q5 q6 q7 q8 qs x dx aF2 aB t1 t2 t3 te e fv c oB, p ∈ news)
    (hS : ∀ p ∈ sub, h₀.get? p.1 = some p.2) (hW : (aW, listOf refs.toArray kw) ∈ sub) (hWs : Tups sub refs ws) (h6 : ws.length ≤ 6) {nn : Int} {tn : Tok} (hnn : 1 ≤ nn)
    (hd : dp + 110 < recursionLimit) (hu : un + 5000 < cLine)
    (ret : ∀ h' tk', Fr h₀ L h' m → News h₀ L h' news → Q .none { s with heap := h', toks := tk' })
    : wpAny (model PySem.Challenge.rw_pq1297_01.row.prog w) (ktrTop dp un gd cn cs L a ccd cl outer) (call (.ref 119) [.ref aW, .int nn tn, .ref o]) Q E s :=
  levelN_spec B F X T hk (news_sub N offOf_sub) offOf_off (news_sub N hV) hR (fun p hp => F.keep _ _ (hS p hp)) (sub_off N hV hS) hW hWs h6 hnn hd hu fun h' tk' F' N1 N2 _ => ret h' tk' F' (offOf_back N hV N1 N2)
end
section
local macro_rules | `(tactic| walk_at "zz") => `(tactic| skip)
set_option maxHeartbeats 16000000 in
theorem levels_spec {w : World} {p : Program} {loose : List Str} {mean : ExcName → Option Value} {mg mb : Str → Option Value}
    {dp un : Nat} {gd : Option (List Code)} {cn : Str} {cs : Scope} {a : Addr} {ccd : Value} {cl : List (Str × Addr)} {outer : List Env} {A₀ : Around} {base h₀ : Heap} {L : Addr} {m : Str → Option Value} {s : Shared} {Q E : Value → Shared → Prop}
    {rest : Led} {sub : Led} {o dO x dx aF2 aB aW : Addr} {q1 q2 q3 q4 q5 q6 q7 q8 qs t1 t2 t3 te : Tok} {fv refs : List Value} {firsts ws : List Int} {e : Int} {c kw : Nat} {oB : Obj} {bs : List (Int × Int)}
    (B : Below A₀ base outer h₀) (F : Fr h₀ L s.heap m) (X : (hd.heap_39 w.params).In h₀) (T : Top p loose mean mg mb h₀) (hk : cs.kind = .function)
    (M : News h₀ L s.heap rest) (off : ∀ q ∈ ((optLed w.params o dO q1 q2 q3 q4 q5 q6 q7 q8 qs x dx aF2 aB t1 t2 t3 te e fv c oB) : Led), ∀ p ∈ rest, q.1 ≠ p.1) (N : News h₀ L s.heap (optLed w.params o dO q1 q2 q3 q4 q5 q6 q7 q8 qs x dx aF2 aB t1 t2 t3 te e fv c oB))
    (hR : ReoIs PySem.Challenge.rw_pq1297_01.row.prog w fv firsts oB bs aB) (hS : ∀ p ∈ sub, s.heap.get? p.1 = some p.2) (hSo : ∀ q ∈ (optLed w.params o dO q1 q2 q3 q4 q5 q6 q7 q8 qs x dx aF2 aB t1 t2 t3 te e fv c oB), ∀ p ∈ sub, q.1 ≠ p.1) (hW : (aW, listOf refs.toArray kw) ∈ sub) (hWs : Tups sub refs ws) (h6 : ws.length ≤ 6)
    (hd : dp + 80 < recursionLimit) (hu : un + 3000 < cLine)
    (ret : ∀ aL aR rv n' k' h' tk', IntsAre rv (firstF firsts bs e ws) → @Ne Nat aL aR → (∀ q ∈ (optLed w.params o dO q1 q2 q3 q4 q5 q6 q7 q8 qs x dx aF2 aB t1 t2 t3 te e fv c oB), q.1 ≠ aR) → (∀ q ∈ (optLed w.params o dO q1 q2 q3 q4 q5 q6 q7 q8 qs x dx aF2 aB t1 t2 t3 te e fv c oB), q.1 ≠ aL) → Fr h₀ L h' m → News h₀ L h' ((aL, listOf [Value.ref aR].toArray k') :: (aR, listOf rv.toArray n') :: (optLed w.params o dO q1 q2 q3 q4 q5 q6 q7 q8 qs x dx aF2 aB t1 t2 t3 te e fv c oB)) → News h₀ L h' rest → (∀ p ∈ ((aL, listOf [Value.ref aR].toArray k') :: (aR, listOf rv.toArray n') :: (optLed w.params o dO q1 q2 q3 q4 q5 q6 q7 q8 qs x dx aF2 aB t1 t2 t3 te e fv c oB) : Led), ∀ q ∈ rest, q.1 ≠ p.1) → Q (.ref aL) { s with heap := h', toks := tk' })
    : wpAny (model PySem.Challenge.rw_pq1297_01.row.prog w) (ktrTop dp un gd cn cs L a ccd cl outer) (call (.ref 112) [.ref aW, .ref o]) Q E s := by
  w_top off
  k_with_none
  k_with "call type:range" => (k_here; first | ((with_reducible show wpAny _ _ (call _ [Value.int _ _]) _ _ _); k_dflt (refine range1_rows (by k_asm) (by k_asm) ?_; intro h'9 tk'9 t1'9 u1'9 v1'9 R'9 F'9 N'9 _); (try k_sweep)) | ((with_reducible show wpAny _ _ (call _ [Value.int _ _, Value.int _ _]) _ _ _); k_dflt (refine range2_rows (by k_asm) (by k_asm) ?_; intro h'9 tk'9 t1'9 u1'9 v1'9 R'9 F'9 N'9 _); (try k_sweep)))
  k_with "call type:list" => (k_here; (with_reducible show wpAny _ _ (call (Value.type _) [Value.ref _]) _ _ _); k_dflt (refine' kll_range rfl ?k1 ?k2 ?k3 ?k4 (rangeSize_nat _ _) ?k6 ?_; (case k1 => k_asm); (case k2 => k_asm); (case k3 => with_reducible assumption); (case k4 => exact small_one (by omega) (by omega) (by omega) (by omega)); (case k6 => omega); k_whole); intro D'9 vs'9 c'9 h'9 tk'9 F'9 N'9 l19 hI'9; (try k_lt l19); (try k_sweep))
  k_with "call ref" => (k_here; (with_reducible show wpAny _ _ (call (Value.ref 85) _) _ _ _); k_dflt (refine' first_use ?k1 ?k2 ?k3 ?k4 ?k5 ?k6 ?k7 ?kp1 ?kq1 ?kq2 ?kq3 ?kq4 ?k12 ?k13 ?_; (case k1 => k_asm); (case k2 => k_asm); (case k3 => k_asm); (case k4 => k_asm); (case k5 => k_asm); (case k6 => first | rfl | assumption); (case k7 => assumption); (case kq1 => assumption); (case kq2 => assumption); (case kq3 => assumption); (case kq4 => assumption); (case kp1 => lcg_sub); (case k12 => ktr_room); (case k13 => ktr_units); k_whole; intro aR'9 rv'9 n'9 h'9 tk'9 hI'9 F'9 N'9 oR'9; (try simp only [List.forall_mem_cons, List.forall_mem_append, List.not_mem_nil, false_imp_iff, implies_true, and_true] at oR'9); (try dsimp only at F'9 N'9); (try k_sweep)))
  have off0 := off
  refine wpAny_call ?_
  (k_dflt (refine' call_sub ?k1 ?k2 ?k3 ?k4 ?k5 ?kA ?kF ?kK ?k6 ?k7 ?k8 ?k9 ?kB ?_ ?c2 ?c3 ?c4 ?c5; (case kA => exact rfl); (case kF => exact rfl); (case kK => assumption); (case k1 => k_asm); (case k2 => k_asm); (case k3 => k_asm); (case k4 => assumption); (case k5 => k_asm); (case k6 => k_is); (case k7 => k_is); (case k8 => ktr_room); (case k9 => first | exact BindsTo.of_eq rfl | exact binds_K (by k_in) rfl (by k_is) rfl rfl rfl); (case c5 => decide); (case kB => exact locs rfl); (case c2 => exact rfl); (case c3 => exact rfl); (case c4 => exact rfl); k_whole))
  intro g L' h1 FG F1 N1 B1 X1 T1 hg lt
  have hg2 := fun (p : Addr × Obj) (hp : p ∈ sub) => hg p.1 p.2 (hS p hp) (fun q hq => hSo q hq p hp)
  k_lt lt
  (repeat' ((fail_if_success (with_reducible show wpAny _ _ (exec (Stmt.For _ _ _ _ _) _) _ _ _)); (fail_if_success (with_reducible show wpAny _ _ (pyIter _) _ _ _)); (fail_if_success (with_reducible show wpAny _ _ (eval (Expr.ListComp _ _ _ _) _) _ _ _)); (fail_if_success (with_reducible show wpAny _ _ (exec (Stmt.Assign _ (Expr.ListComp _ _ _ _) _) _) _ _ _)); (fail_if_success (with_reducible show LCg.CompSrc _ _ _ _ _ _ _ _ _ _ _ _ _ _)); (fail_if_success (with_reducible show LCt.CompSrcT _ _ _ _ _ _ _ _ _ _ _ _ _ _ _)); (fail_if_success (with_reducible show LCg.CompEnd _ _ _ _ _ _ _ _ _ _ _ _ _ _)); (fail_if_success (with_reducible show wpAny _ _ (exec (Stmt.While _ _ _ _) _) _ _ _)); first | ((fail_if_success (fail_if_success k_unfold)); (show wpAny _ _ _ _ _ _); (try dsimp only)) | (k_unfold; (try dsimp only)) | ((first | (with_reducible show wpAny _ _ (exec _ _) _ _ _) | (with_reducible show wpAny _ _ (isTrue _ _) _ _ _) | (with_reducible show wpAny _ _ (eval (Expr.Call _ _ _ _) _) _ _ _) | (with_reducible show wpAny _ _ (eval (Expr.Compare _ _ _ _) _) _ _ _) | (with_reducible show wpAny _ _ (eval (Expr.Subscript _ _ _) _) _ _ _)); k_fold) | (k_end; wrow_close) | walk1 | (dsimp only; walk1) | (leave1; walk_say "STEP leave1"; try dsimp only) | fail "no step"))
  refine' ret _ _ _ _ _ _ _ ?z5 ?z6 ?z7 ?z8 ?z1 ?z2 ?z3 ?z4
  case z1 => k_asm
  case z2 => exact news_sub (by assumption) (by lcg_sub)
  case z5 => assumption
  case z6 => k_ne
  case z7 => exact List.forall_mem_cons.mpr ⟨by k_ne, List.forall_mem_cons.mpr ⟨by k_ne, List.forall_mem_cons.mpr ⟨by k_ne, List.forall_mem_cons.mpr ⟨by k_ne, List.forall_mem_cons.mpr ⟨by k_ne, List.forall_mem_cons.mpr ⟨by k_ne, List.forall_mem_nil _⟩⟩⟩⟩⟩⟩
  case z8 => exact List.forall_mem_cons.mpr ⟨by k_ne, List.forall_mem_cons.mpr ⟨by k_ne, List.forall_mem_cons.mpr ⟨by k_ne, List.forall_mem_cons.mpr ⟨by k_ne, List.forall_mem_cons.mpr ⟨by k_ne, List.forall_mem_cons.mpr ⟨by k_ne, List.forall_mem_nil _⟩⟩⟩⟩⟩⟩
  case z3 => refine' keep_rest M off0 ?g1 ?g2; (case g1 => assumption); (case g2 => assumption)
  case z4 => refine' fresh_sub ?g2 M off0 ?g1 ?g3; (case g1 => assumption); (case g2 => assumption); (case g3 => lcg_sub)


section
variable {w : World} {p : Program} {loose : List Str} {mean : ExcName → Option Value} {mg mb : Str → Option Value}
    {dp un : Nat} {gd : Option (List Code)} {cn : Str} {cs : Scope} {a : Addr} {ccd : Value} {cl : List (Str × Addr)} {outer : List Env} {A₀ : Around} {base h₀ : Heap} {L : Addr} {m : Str → Option Value} {s : Shared} {Q E : Value → Shared → Prop}
    {news : Led} {sub : Led} {o dO x dx aF2 aB aW : Addr} {q1 q2 q3 q4 q5 q6 q7 q8 qs t1 t2 t3 te : Tok} {fv refs : List Value} {firsts ws : List Int} {e : Int} {c kw : Nat} {oB : Obj} {bs : List (Int × Int)}
/-- collkey_levels, the weights in the ground -/
theorem levels_use
    (B : Below A₀ base outer h₀) (F : Fr h₀ L s.heap m) (X : (hd.heap_39 w.params).In h₀) (N : News h₀ L s.heap news) (T : Top p loose mean mg mb h₀) (hk : cs.kind = .function)
    (hR : ReoIs PySem.Challenge.rw_pq1297_01.row.prog w fv firsts oB bs aB) (hV : ∀ p ∈ optLed w.params o dO q1 q2 q3 q4 q5 q6 q7 q8 qs x dx aF2 aB t1 t2 t3 te e fv c oB, p ∈ news)
    (hS : ∀ p ∈ sub, h₀.get? p.1 = some p.2) (hW : (aW, listOf refs.toArray kw) ∈ sub) (hWs : Tups sub refs ws) (h6 : ws.length ≤ 6)
    (hd : dp + 80 < recursionLimit) (hu : un + 3000 < cLine)
    (ret : ∀ aL aR rv n' k' h' tk', IntsAre rv (firstF firsts bs e ws) → Fr h₀ L h' m → News h₀ L h' ((aL, listOf [Value.ref aR].toArray k') :: (aR, listOf rv.toArray n') :: news) → @Ne Nat aL aR → (∀ q ∈ news, @Ne Nat q.1 aR) → (∀ q ∈ news, @Ne Nat q.1 aL) → Q (.ref aL) { s with heap := h', toks := tk' })
    : wpAny (model PySem.Challenge.rw_pq1297_01.row.prog w) (ktrTop dp un gd cn cs L a ccd cl outer) (call (.ref 112) [.ref aW, .ref o]) Q E s :=
  levels_spec B F X T hk (news_sub N offOf_sub) offOf_off (news_sub N hV) hR (fun p hp => F.keep _ _ (hS p hp)) (sub_off N hV hS) hW hWs h6 hd hu fun aL aR rv n' k' h' tk' hI hne h1 h2 F' N1 N2 hf =>
    ret aL aR rv n' k' h' tk' hI F' (back_all (own := [(aL, listOf [Value.ref aR].toArray k'), (aR, listOf rv.toArray n')]) N hV N1 N2) hne (fresh_all N hV h1 (hf _ (.tail _ (.head _)))) (fresh_all N hV h2 (hf _ (.head _)))
end
end
set_option maxHeartbeats 16000000 in
theorem wkey_spec {w : World} {p : Program} {loose : List Str} {mean : ExcName → Option Value} {mg mb : Str → Option Value}
    {dp un : Nat} {gd : Option (List Code)} {cn : Str} {cs : Scope} {a : Addr} {ccd : Value} {cl : List (Str × Addr)} {outer : List Env} {A₀ : Around} {base h₀ : Heap} {L : Addr} {m : Str → Option Value} {s : Shared} {Q E : Value → Shared → Prop}
    {rest : Led} {sub : Led} {o dO x dx aF2 aB aW : Addr} {q1 q2 q3 q4 q5 q6 q7 q8 qs t1 t2 t3 te : Tok} {fv refs : List Value} {firsts ws : List Int} {e : Int} {c kw : Nat} {oB : Obj} {bs : List (Int × Int)}
    (B : Below A₀ base outer h₀) (F : Fr h₀ L s.heap m) (X : (hd.heap_39 w.params).In h₀) (T : Top p loose mean mg mb h₀) (hk : cs.kind = .function)
    (M : News h₀ L s.heap rest) (off : ∀ q ∈ ((optLed w.params o dO q1 q2 q3 q4 q5 q6 q7 q8 qs x dx aF2 aB t1 t2 t3 te e fv c oB) : Led), ∀ p ∈ rest, q.1 ≠ p.1) (N : News h₀ L s.heap (optLed w.params o dO q1 q2 q3 q4 q5 q6 q7 q8 qs x dx aF2 aB t1 t2 t3 te e fv c oB))
    (hR : ReoIs PySem.Challenge.rw_pq1297_01.row.prog w fv firsts oB bs aB) (hS : ∀ p ∈ sub, s.heap.get? p.1 = some p.2) (hSo : ∀ q ∈ (optLed w.params o dO q1 q2 q3 q4 q5 q6 q7 q8 qs x dx aF2 aB t1 t2 t3 te e fv c oB), ∀ p ∈ sub, q.1 ≠ p.1) (hW : (aW, listOf refs.toArray kw) ∈ sub) (hWs : Tups sub refs ws) (h6 : ws.length ≤ 6)
    (hd : dp + 110 < recursionLimit) (hu : un + 5000 < cLine)
    (ret : ∀ aR rv n' h' tk', IntsAre rv (firstF firsts bs e ws) → (∀ q ∈ (optLed w.params o dO q1 q2 q3 q4 q5 q6 q7 q8 qs x dx aF2 aB t1 t2 t3 te e fv c oB), q.1 ≠ aR) → Fr h₀ L h' m → News h₀ L h' ((aR, listOf rv.toArray n') :: (optLed w.params o dO q1 q2 q3 q4 q5 q6 q7 q8 qs x dx aF2 aB t1 t2 t3 te e fv c oB)) → News h₀ L h' rest → (∀ p ∈ ((aR, listOf rv.toArray n') :: (optLed w.params o dO q1 q2 q3 q4 q5 q6 q7 q8 qs x dx aF2 aB t1 t2 t3 te e fv c oB) : Led), ∀ q ∈ rest, q.1 ≠ p.1) → Q (.ref aR) { s with heap := h', toks := tk' })
    : wpAny (model PySem.Challenge.rw_pq1297_01.row.prog w) (ktrTop dp un gd cn cs L a ccd cl outer) (call (.ref 125) [.ref aW, .ref o, .none]) Q E s := by
  w_top off
  k_with_none
  k_with "call type:range" => (k_here; first | ((with_reducible show wpAny _ _ (call _ [Value.int _ _]) _ _ _); k_dflt (refine range1_rows (by k_asm) (by k_asm) ?_; intro h'9 tk'9 t1'9 u1'9 v1'9 R'9 F'9 N'9 _); (try k_sweep)) | ((with_reducible show wpAny _ _ (call _ [Value.int _ _, Value.int _ _]) _ _ _); k_dflt (refine range2_rows (by k_asm) (by k_asm) ?_; intro h'9 tk'9 t1'9 u1'9 v1'9 R'9 F'9 N'9 _); (try k_sweep)))
  k_with "call type:list" => (k_here; (with_reducible show wpAny _ _ (call (Value.type _) [Value.ref _]) _ _ _); k_dflt (refine' kll_range rfl ?k1 ?k2 ?k3 ?k4 (rangeSize_nat _ _) ?k6 ?_; (case k1 => k_asm); (case k2 => k_asm); (case k3 => with_reducible assumption); (case k4 => exact small_one (by omega) (by omega) (by omega) (by omega)); (case k6 => omega); k_whole); intro D'9 vs'9 c'9 h'9 tk'9 F'9 N'9 l19 hI'9; (try k_lt l19); (try k_sweep))
  k_with "call ref" => (k_here; (with_reducible show wpAny _ _ (call (Value.ref 112) _) _ _ _); k_dflt (refine' levels_use ?k1 ?k2 ?k3 ?k4 ?k5 ?k6 ?k7 ?kp1 ?kq1 ?kq2 ?kq3 ?kq4 ?k12 ?k13 ?_; (case k1 => k_asm); (case k2 => k_asm); (case k3 => k_asm); (case k4 => k_asm); (case k5 => k_asm); (case k6 => first | rfl | assumption); (case k7 => assumption); (case kq1 => assumption); (case kq2 => assumption); (case kq3 => assumption); (case kq4 => assumption); (case kp1 => lcg_sub); (case k12 => ktr_room); (case k13 => ktr_units); k_whole; intro aL'9 aR'9 rv'9 n'9 k'9 h'9 tk'9 hI'9 F'9 N'9 ne'9 oR'9 oL'9; (try simp only [List.forall_mem_cons, List.forall_mem_append, List.not_mem_nil, false_imp_iff, implies_true, and_true] at oR'9 oL'9); (try dsimp only at F'9 N'9); (try k_sweep)))
  k_with "call builtin:list.extend" => (k_here; (with_reducible show wpAny _ _ (call (Value.builtin _) [Value.ref _, Value.ref _]) _ _ _); k_dflt (refine' ext0 ?F ?N ?b ?z ?U ?_; (case F => k_asm); (case N => k_asm); (case b => k_mem); (case U => k_upd); (case z => first | assumption | exact firstF_len' (by assumption) (by assumption))); intro h'9 F'9 N'9; (try dsimp only at N'9); (try k_sweep))
  have off0 := off
  refine wpAny_call ?_
  (k_dflt (refine' call_sub ?k1 ?k2 ?k3 ?k4 ?k5 ?kA ?kF ?kK ?k6 ?k7 ?k8 ?k9 ?kB ?_ ?c2 ?c3 ?c4 ?c5; (case kA => exact rfl); (case kF => exact rfl); (case kK => assumption); (case k1 => k_asm); (case k2 => k_asm); (case k3 => k_asm); (case k4 => assumption); (case k5 => k_asm); (case k6 => k_is); (case k7 => k_is); (case k8 => ktr_room); (case k9 => first | exact BindsTo.of_eq rfl | exact binds_K (by k_in) rfl (by k_is) rfl rfl rfl); (case c5 => decide); (case kB => exact locs rfl); (case c2 => exact rfl); (case c3 => exact rfl); (case c4 => exact rfl); k_whole))
  intro g L' h1 FG F1 N1 B1 X1 T1 hg lt
  have hg2 := fun (p : Addr × Obj) (hp : p ∈ sub) => hg p.1 p.2 (hS p hp) (fun q hq => hSo q hq p hp)
  k_lt lt
  (repeat' ((fail_if_success (with_reducible show wpAny _ _ (exec (Stmt.For _ _ _ _ _) _) _ _ _)); (fail_if_success (with_reducible show wpAny _ _ (pyIter _) _ _ _)); (fail_if_success (with_reducible show wpAny _ _ (eval (Expr.ListComp _ _ _ _) _) _ _ _)); (fail_if_success (with_reducible show wpAny _ _ (exec (Stmt.Assign _ (Expr.ListComp _ _ _ _) _) _) _ _ _)); (fail_if_success (with_reducible show LCg.CompSrc _ _ _ _ _ _ _ _ _ _ _ _ _ _)); (fail_if_success (with_reducible show LCt.CompSrcT _ _ _ _ _ _ _ _ _ _ _ _ _ _ _)); (fail_if_success (with_reducible show LCg.CompEnd _ _ _ _ _ _ _ _ _ _ _ _ _ _)); (fail_if_success (with_reducible show wpAny _ _ (exec (Stmt.While _ _ _ _) _) _ _ _)); first | ((fail_if_success (fail_if_success k_unfold)); (show wpAny _ _ _ _ _ _); (try dsimp only)) | (k_unfold; (try dsimp only)) | ((first | (with_reducible show wpAny _ _ (exec _ _) _ _ _) | (with_reducible show wpAny _ _ (isTrue _ _) _ _ _) | (with_reducible show wpAny _ _ (eval (Expr.Call _ _ _ _) _) _ _ _) | (with_reducible show wpAny _ _ (eval (Expr.Compare _ _ _ _) _) _ _ _) | (with_reducible show wpAny _ _ (eval (Expr.Subscript _ _ _) _) _ _ _)); k_fold) | (k_end; wrow_close) | walk1 | (dsimp only; walk1) | (leave1; walk_say "STEP leave1"; try dsimp only) | fail "no step"))
  k_steps
  refine' ret _ _ _ _ _ ?z5 ?z7 ?z1 ?z2 ?z3 ?z4
  case z1 => k_asm
  case z2 => exact news_sub (by assumption) (by lcg_sub)
  case z5 => assumption
  case z7 => exact List.forall_mem_cons.mpr ⟨by k_ne, List.forall_mem_cons.mpr ⟨by k_ne, List.forall_mem_cons.mpr ⟨by k_ne, List.forall_mem_cons.mpr ⟨by k_ne, List.forall_mem_cons.mpr ⟨by k_ne, List.forall_mem_cons.mpr ⟨by k_ne, List.forall_mem_nil _⟩⟩⟩⟩⟩⟩
  case z3 => refine' keep_rest M off0 ?g1 ?g2; (case g1 => assumption); (case g2 => assumption)
  case z4 => refine' fresh_sub ?g2 M off0 ?g1 ?g3; (case g1 => assumption); (case g2 => assumption); (case g3 => lcg_sub)



section
local macro_rules | `(tactic| walk_at "zz") => `(tactic| skip)
set_option maxHeartbeats 8000000 in
theorem lots_spec {w : World} {p : Program} {loose : List Str} {mean : ExcName → Option Value} {mg mb : Str → Option Value}
    {dp un : Nat} {gd : Option (List Code)} {cn : Str} {cs : Scope} {a : Addr} {ccd : Value} {cl : List (Str × Addr)} {outer : List Env} {A₀ : Around} {base h₀ : Heap} {L : Addr} {m : Str → Option Value} {s : Shared} {Q E : Value → Shared → Prop}
    {aT aC : Addr} {oT : Obj} {vs : List Value} {n : Nat} {rest : Led}
    (B : Below A₀ base outer h₀) (F : Fr h₀ L s.heap m) (X : (hd.heap_39 w.params).In h₀) (T : Top p loose mean mg mb h₀) (hk : cs.kind = .function)
    (M : News h₀ L s.heap rest) (off : ∀ q ∈ [(aT, oT), (aC, listOf vs.toArray n)], ∀ p ∈ rest, q.1 ≠ p.1)
    (N : News h₀ L s.heap [(aT, oT), (aC, listOf vs.toArray n)]) (hT : TapeIs PySem.Challenge.rw_pq1297_01.row.prog w oT aC vs) (hne : @Ne Nat aT aC)
    (hd : dp + 10 < recursionLimit) (hu : un + 300 < cLine)
    (ret : ∀ aR aL refs k subs lots a₀ v tv oT' vs' n' h' tk', 2 ≤ a₀ → a₀ ≤ 6 → LotsOk a₀ lots v → lots.length ≤ 5 → Lots subs refs lots → TapeIs PySem.Challenge.rw_pq1297_01.row.prog w oT' aC vs' → Fr h₀ L h' m →
      News h₀ L h' ((aR, tupOf [.ref aL, .int v tv]) :: (aT, oT') :: (aC, listOf vs'.toArray n') :: (aL, listOf refs.toArray k) :: subs) → News h₀ L h' rest →
      (∀ p ∈ (aR, tupOf [.ref aL, .int v tv]) :: (aT, oT') :: (aC, listOf vs'.toArray n') :: (aL, listOf refs.toArray k) :: subs, ∀ q ∈ rest, q.1 ≠ p.1) →
      @Ne Nat aR aT → @Ne Nat aR aC → @Ne Nat aL aT → @Ne Nat aL aC → (∀ p ∈ subs, p.1 ≠ aT) → (∀ p ∈ subs, p.1 ≠ aC) → Q (.ref aR) { s with heap := h', toks := tk' })
    : wpAny (model PySem.Challenge.rw_pq1297_01.row.prog w) (ktrTop dp un gd cn cs L a ccd cl outer) (call (.ref 158) [.ref aT]) Q E s := by
  w_top off
  k_with_none
  k_with "call type:range" => (k_here; first | ((with_reducible show wpAny _ _ (call _ [Value.int _ _]) _ _ _); k_dflt (refine range1_rows (by k_asm) (by k_asm) ?_; intro h'9 tk'9 t1'9 u1'9 v1'9 R'9 F'9 N'9 _); (try k_sweep)) | ((with_reducible show wpAny _ _ (call _ [Value.int _ _, Value.int _ _]) _ _ _); k_dflt (refine range2_rows (by k_asm) (by k_asm) ?_; intro h'9 tk'9 t1'9 u1'9 v1'9 R'9 F'9 N'9 _); (try k_sweep)))
  k_with "call ref" => (k_here; k_dflt (refine' next_pull ?k1 ?k2 ?k3 ?k4 ?k5 ?k6 ?k7 ?kp1 ?kp2 ?k8 ?k9 ?k10 ?k11 ?k12 ?k13 ?_; (case k1 => k_asm); (case k2 => k_asm); (case k3 => k_asm); (case k4 => k_asm); (case k5 => k_asm); (case k6 => first | rfl | assumption); (case k7 => k_asm); (case kp1 => (repeat (first | with_reducible exact Pull.head | with_reducible apply Pull.tail))); (case kp2 => (repeat (first | with_reducible exact Pull.head | with_reducible apply Pull.tail))); (case k8 => k_ne); (case k9 => k_all); (case k10 => k_all); (case k11 => first | decide | assumption | omega); (case k12 => ktr_room); (case k13 => ktr_units); k_whole; intro x'9 t'9 oT'9 vs'9 n'9 h'9 tk'9 hx09 hx19 hT'9 F'9 N'9; (try dsimp only at F'9 N'9); (try k_sweep)))
  refine wpAny_call ?_
  (k_dflt (refine' call_sub ?k1 ?k2 ?k3 ?k4 ?k5 ?kA ?kF ?kK ?k6 ?k7 ?k8 ?k9 ?kB ?_ ?c2 ?c3 ?c4 ?c5; (case kA => exact rfl); (case kF => exact rfl); (case kK => assumption); (case k1 => k_asm); (case k2 => k_asm); (case k3 => k_asm); (case k4 => assumption); (case k5 => k_asm); (case k6 => k_is); (case k7 => k_is); (case k8 => ktr_room); (case k9 => exact BindsTo.of_eq rfl); (case c5 => decide); (case kB => exact locs rfl); (case c2 => exact rfl); (case c3 => exact rfl); (case c4 => exact rfl); k_whole; intro g9z L9z h9z FG9z F9z N9z B9z X9z T9z hg9z lt9z; (try dsimp only)))
  (repeat' ((fail_if_success (with_reducible show wpAny _ _ (exec (Stmt.For _ _ _ _ _) _) _ _ _)); (fail_if_success (with_reducible show wpAny _ _ (pyIter _) _ _ _)); first | ((fail_if_success (fail_if_success k_unfold)); (show wpAny _ _ _ _ _ _); (try dsimp only)) | (k_unfold; (try dsimp only)) | ((first | (with_reducible show wpAny _ _ (exec _ _) _ _ _) | (with_reducible show wpAny _ _ (isTrue _ _) _ _ _) | (with_reducible show wpAny _ _ (eval (Expr.Call _ _ _ _) _) _ _ _) | (with_reducible show wpAny _ _ (eval (Expr.Compare _ _ _ _) _) _ _ _) | (with_reducible show wpAny _ _ (eval (Expr.Subscript _ _ _) _) _ _ _)); k_fold) | (k_end; wrow_close) | walk1 | (dsimp only; walk1) | (leave1; walk_say "STEP leave1"; try dsimp only) | fail "no step"))
  (try ((with_reducible show wpAny _ _ _ _ _ _); k_fold))
  (rename Fr _ _ _ _ => lF'); k_dflt (refine' For_invVF lF' ?k1 ?k2 ?_; (case k1 => exact rfl); (case k2 => exact rfl); k_whole)
  (repeat' ((fail_if_success (with_reducible show wpAny _ _ (exec (Stmt.For _ _ _ _ _) _) _ _ _)); (fail_if_success (with_reducible show wpAny _ _ (pyIter _) _ _ _)); first | ((fail_if_success (fail_if_success k_unfold)); (show wpAny _ _ _ _ _ _); (try dsimp only)) | (k_unfold; (try dsimp only)) | ((first | (with_reducible show wpAny _ _ (exec _ _) _ _ _) | (with_reducible show wpAny _ _ (isTrue _ _) _ _ _) | (with_reducible show wpAny _ _ (eval (Expr.Call _ _ _ _) _) _ _ _) | (with_reducible show wpAny _ _ (eval (Expr.Compare _ _ _ _) _) _ _ _) | (with_reducible show wpAny _ _ (eval (Expr.Subscript _ _ _) _) _ _ _)); k_fold) | (k_end; wrow_close) | walk1 | (dsimp only; walk1) | (leave1; walk_say "STEP leave1"; try dsimp only) | fail "no step"))
  refine' range_loop (LotsJ PySem.Challenge.rw_pq1297_01.row.prog w aT aC _ _) ?a1 ?a2 ?a3 ?a4 ?a5 ?a6 ?j0 ?turn ?done
  case a1 => exact rfl
  case a2 => assumption
  case a4 => exact rangeSize_nat _ _
  case a3 => exact small_one (by omega) (by omega) (by omega) (by omega)
  case a5 => assumption
  case' j0 => refine' ⟨_, _, _, [], 0, [], [], _, _, rfl, ?j1, .nil, .nil, rfl, ?j2, ?j3, ?j4, ?j5, ?j6, ?j7⟩
  case j1 => assumption
  case j2 => k_dflt exact rfl
  case j3 => k_dflt exact rfl
  case j4 => k_dflt exact rfl
  case j5 => exact List.forall_mem_nil _
  case j6 => exact List.forall_mem_nil _
  case j7 => exact List.forall_mem_nil _
  case a6 => exact news_sub (by assumption) (by lcg_sub)
  case turn =>
    rintro i t m₁ nx h tk own hi hoff hJ01 F N
    (try ((with_reducible show wpAny _ _ _ _ _ _); k_fold))
    obtain ⟨oT, vs, n, refs, k, subs, lots, v, tv, rfl, hT, hL, hO, hlen, m1, m2, m3, o1, o2, o3⟩ := hJ01
    have q1 := off_app o1 hoff (.head _)
    have q2 := off_app o2 hoff (.tail _ (.head _))
    have q3 := off_app o3 hoff (.tail _ (.tail _ (.head _)))
    have hbd := hO.bounds
    have F1 := fr_kst [(_, _), (_, _), (_, _)] (kcons m1 (kcons m2 (kcons m3 (knil)))) F
    have N1 := news_sub N (b := (aT, oT) :: (aC, listOf vs.toArray n) :: (_, listOf refs.toArray k) :: (subs ++ own)) (fun p hp => hp)
    clear F N
    dsimp only [kstB] at F1
    generalize hR : subs ++ own = R at N1 q1 q2 q3
    have hrl : refs.length ≤ 5 := by rw [hL.length]; omega
    (repeat' ((fail_if_success (with_reducible show wpAny _ _ (exec (Stmt.For _ _ _ _ _) _) _ _ _)); (fail_if_success (with_reducible show wpAny _ _ (pyIter _) _ _ _)); first | ((fail_if_success (fail_if_success k_unfold)); (show wpAny _ _ _ _ _ _); (try dsimp only)) | (k_unfold; (try dsimp only)) | ((first | (with_reducible show wpAny _ _ (exec _ _) _ _ _) | (with_reducible show wpAny _ _ (isTrue _ _) _ _ _) | (with_reducible show wpAny _ _ (eval (Expr.Call _ _ _ _) _) _ _ _) | (with_reducible show wpAny _ _ (eval (Expr.Compare _ _ _ _) _) _ _ _) | (with_reducible show wpAny _ _ (eval (Expr.Subscript _ _ _) _) _ _ _)); k_fold) | (k_end; wrow_close) | walk1 | (dsimp only; walk1) | (leave1; walk_say "STEP leave1"; try dsimp only) | fail "no step"))
    subst hR
    refine' lots_end ?e1 ?e2 ?e3 ?e4 hL hO ?e5 ?e6 ?e7 hlen ?e8 ?e9 ?e10 o1 o2 o3 ?e11 ?e12
    case e1 => assumption
    case e2 => assumption
    case e3 => assumption
    case e4 => assumption
    case e11 => assumption
    case e12 => exact hoff
    case e8 => k_dflt exact rfl
    case e9 => k_dflt exact rfl
    case e10 => k_dflt exact rfl
    case e5 => omega
    case e6 => omega
    case e7 => omega
  case done =>
    rintro m₁ nx h tk hJ02 F N
    (try ((with_reducible show wpAny _ _ _ _ _ _); k_fold))
    obtain ⟨oT, vs, n, refs, k, subs, lots, v, tv, rfl, hT, hL, hO, hlen, m1, m2, m3, o1, o2, o3⟩ := hJ02
    have F1 := fr_kst0 [(_, _), (_, _), (_, _)] (kcons m1 (kcons m2 (kcons m3 (knil)))) F
    clear F
    dsimp only [kstB] at F1
    (repeat' ((fail_if_success (with_reducible show wpAny _ _ (exec (Stmt.For _ _ _ _ _) _) _ _ _)); (fail_if_success (with_reducible show wpAny _ _ (pyIter _) _ _ _)); first | ((fail_if_success (fail_if_success k_unfold)); (show wpAny _ _ _ _ _ _); (try dsimp only)) | (k_unfold; (try dsimp only)) | ((first | (with_reducible show wpAny _ _ (exec _ _) _ _ _) | (with_reducible show wpAny _ _ (isTrue _ _) _ _ _) | (with_reducible show wpAny _ _ (eval (Expr.Call _ _ _ _) _) _ _ _) | (with_reducible show wpAny _ _ (eval (Expr.Compare _ _ _ _) _) _ _ _) | (with_reducible show wpAny _ _ (eval (Expr.Subscript _ _ _) _) _ _ _)); k_fold) | (k_end; wrow_close) | walk1 | (dsimp only; walk1) | (leave1; walk_say "STEP leave1"; try dsimp only) | fail "no step"))
    refine' ret _ _ refs _ subs lots _ v _ _ _ _ _ _ ?e1 ?e2 hO ?e3 hL hT ?e4 ?e5 ?e6 ?e7 ?e8 ?e9 ?e10 ?e11 o1 o2
    case e4 => k_asm
    case e5 => assumption
    case e1 => omega
    case e2 => omega
    case e3 => omega
    case e6 => refine' keep_rest M off ?g1 ?g2; (case g1 => assumption); (case g2 => assumption)
    case e7 => refine' fresh_rest ?g2 M off ?g1; (case g1 => assumption); (case g2 => assumption)
    case e8 => k_ne
    case e9 => k_ne
    case e10 => k_ne
    case e11 => k_ne
end
set_option maxHeartbeats 16000000 in
theorem order_spec {w : World} {p : Program} {loose : List Str} {mean : ExcName → Option Value} {mg mb : Str → Option Value}
    {dp un : Nat} {gd : Option (List Code)} {cn : Str} {cs : Scope} {a : Addr} {ccd : Value} {cl : List (Str × Addr)} {outer : List Env} {A₀ : Around} {base h₀ : Heap} {L : Addr} {m : Str → Option Value} {s : Shared} {Q E : Value → Shared → Prop}
    {rest : Led} {aT aC : Addr} {oT : Obj} {vs : List Value} {n : Nat} {many : Int} {tm : Tok}
    (B : Below A₀ base outer h₀) (F : Fr h₀ L s.heap m) (X : (hd.heap_39 w.params).In h₀) (T : Top p loose mean mg mb h₀) (hk : cs.kind = .function)
    (M : News h₀ L s.heap rest) (off : ∀ q ∈ ([(aT, oT), (aC, listOf vs.toArray n)] : Led), ∀ p ∈ rest, q.1 ≠ p.1) (N : News h₀ L s.heap [(aT, oT), (aC, listOf vs.toArray n)])
    (hT : TapeIs PySem.Challenge.rw_pq1297_01.row.prog w oT aC vs) (hne : @Ne Nat aT aC) (hm0 : 0 ≤ many) (hm1 : many ≤ 5)
    (hd : dp + 20 < recursionLimit) (hu : un + 400 < cLine)
    (ret : ∀ aO os no order oT' vs' n' h' tk', IntsAre os order → order.length ≤ 6 → TapeIs PySem.Challenge.rw_pq1297_01.row.prog w oT' aC vs' → @Ne Nat aO aT → @Ne Nat aO aC → Fr h₀ L h' m → News h₀ L h' ((aO, listOf os.toArray no) :: (aT, oT') :: (aC, listOf vs'.toArray n') :: []) → News h₀ L h' rest → (∀ p ∈ ((aO, listOf os.toArray no) :: (aT, oT') :: (aC, listOf vs'.toArray n') :: [] : Led), ∀ q ∈ rest, q.1 ≠ p.1) → Q (.ref aO) { s with heap := h', toks := tk' })
    : wpAny (model PySem.Challenge.rw_pq1297_01.row.prog w) (ktrTop dp un gd cn cs L a ccd cl outer) (call (.ref 163) [.ref aT, .int many tm]) Q E s := by
  w_top off
  k_with_none
  k_with "call type:range" => (k_here; first | ((with_reducible show wpAny _ _ (call _ [Value.int _ _]) _ _ _); k_dflt (refine range1_rows (by k_asm) (by k_asm) ?_; intro h'9 tk'9 t1'9 u1'9 v1'9 R'9 F'9 N'9 _); (try k_sweep)) | ((with_reducible show wpAny _ _ (call _ [Value.int _ _, Value.int _ _]) _ _ _); k_dflt (refine range2_rows (by k_asm) (by k_asm) ?_; intro h'9 tk'9 t1'9 u1'9 v1'9 R'9 F'9 N'9 _); (try k_sweep)))
  k_with "call ref" => (k_here; k_dflt (refine' next_pull ?k1 ?k2 ?k3 ?k4 ?k5 ?k6 ?k7 ?kp1 ?kp2 ?k8 ?k9 ?k10 ?k11 ?k12 ?k13 ?_; (case k1 => k_asm); (case k2 => k_asm); (case k3 => k_asm); (case k4 => k_asm); (case k5 => k_asm); (case k6 => first | rfl | assumption); (case k7 => k_asm); (case kp1 => (repeat (first | with_reducible exact Pull.head | with_reducible apply Pull.tail))); (case kp2 => (repeat (first | with_reducible exact Pull.head | with_reducible apply Pull.tail))); (case k8 => k_ne); (case k9 => k_all); (case k10 => k_all); (case k11 => first | decide | assumption | omega); (case k12 => ktr_room); (case k13 => ktr_units); k_whole; intro x'9 t'9 oT'9 vs'9 n'9 h'9 tk'9 hx09 hx19 hT'9 F'9 N'9; (try dsimp only at F'9 N'9); (try k_sweep)))
  k_with "subscriptTail" => (k_here; (with_reducible show wpAny _ _ (subscriptTail _ _ (Value.ref _) (Value.int _ _)) _ _ _); (with_unfolding_all refine' item_anyK ?k1 ?k2 ?k3 ?k4 ?k5 ?_ ?k6; (case k1 => is_list); (case k2 => with_reducible assumption); (case k3 => omega); (case k4 => (simp only [List.length_append, List.length_cons, List.length_nil, rangeKs_length] at *; omega)); (case k5 => (simp only [List.length_append, List.length_cons, List.length_nil, rangeKs_length] at *; omega)); (case k6 => with_unfolding_all rfl); k_whole); intro _)
  refine wpAny_call ?_
  ((k_dflt (refine' call_subC ?k1 ?k2 ?k3 ?k4 ?k5 ?kA ?kF ?kK ?k6 ?k7 ?k8 ?k9 ?kB ?kD ?_ ?c2 ?c3 ?c4; (case kA => exact rfl); (case kF => exact rfl); (case kK => assumption); (case k1 => k_asm); (case k2 => k_asm); (case k3 => k_asm); (case k4 => assumption); (case k5 => k_asm); (case k6 => k_is); (case k7 => k_is); (case k8 => ktr_room); (case k9 => exact BindsTo.of_eq rfl); (case kB => exact rfl); (case kD => decide +kernel); (case c2 => exact rfl); (case c3 => exact rfl); (case c4 => exact rfl); k_whole; intro g9z L9z h9z tk9z cells9z FG9z F9z N9z Y9z B9z X9z T9z hg9z lt9z); (try ((with_reducible show wpAny _ _ _ _ _ _); k_fold)); k_cells Y9z; (try simp only [List.cons_append, List.nil_append] at N9z); (try k_lt lt9z); (try dsimp only)))
  (try ((with_reducible show wpAny _ _ _ _ _ _); k_fold))
  (repeat' ((fail_if_success (with_reducible show wpAny _ _ (exec (Stmt.For _ _ _ _ _) _) _ _ _)); (fail_if_success (with_reducible show wpAny _ _ (pyIter _) _ _ _)); (fail_if_success (with_reducible show wpAny _ _ (eval (Expr.ListComp _ _ _ _) _) _ _ _)); (fail_if_success (with_reducible show wpAny _ _ (exec (Stmt.Assign _ (Expr.ListComp _ _ _ _) _) _) _ _ _)); (fail_if_success (with_reducible show LCg.CompSrc _ _ _ _ _ _ _ _ _ _ _ _ _ _)); (fail_if_success (with_reducible show LCt.CompSrcT _ _ _ _ _ _ _ _ _ _ _ _ _ _ _)); (fail_if_success (with_reducible show LCg.CompEnd _ _ _ _ _ _ _ _ _ _ _ _ _ _)); (fail_if_success (with_reducible show wpAny _ _ (exec (Stmt.While _ _ _ _) _) _ _ _)); first | ((fail_if_success (fail_if_success k_unfold)); (show wpAny _ _ _ _ _ _); (try dsimp only)) | (k_unfold; (try dsimp only)) | ((first | (with_reducible show wpAny _ _ (exec _ _) _ _ _) | (with_reducible show wpAny _ _ (isTrue _ _) _ _ _) | (with_reducible show wpAny _ _ (eval (Expr.Call _ _ _ _) _) _ _ _) | (with_reducible show wpAny _ _ (eval (Expr.Compare _ _ _ _) _) _ _ _) | (with_reducible show wpAny _ _ (eval (Expr.Subscript _ _ _) _) _ _ _)); k_fold) | (k_end; wrow_close) | walk1 | (dsimp only; walk1) | (leave1; walk_say "STEP leave1"; try dsimp only) | fail "no step"))
  (try ((with_reducible show wpAny _ _ _ _ _ _); k_fold))
  k_dflt (refine LCg.ListComp_U (F₀ := by k_asm) (by with_unfolding_all rfl) (by decide) (by rfl) (by decide) (by rfl) ?_)
  (repeat' ((fail_if_success (with_reducible show wpAny _ _ (exec (Stmt.For _ _ _ _ _) _) _ _ _)); (fail_if_success (with_reducible show wpAny _ _ (pyIter _) _ _ _)); (fail_if_success (with_reducible show wpAny _ _ (eval (Expr.ListComp _ _ _ _) _) _ _ _)); (fail_if_success (with_reducible show wpAny _ _ (exec (Stmt.Assign _ (Expr.ListComp _ _ _ _) _) _) _ _ _)); (fail_if_success (with_reducible show LCg.CompSrc _ _ _ _ _ _ _ _ _ _ _ _ _ _)); (fail_if_success (with_reducible show LCt.CompSrcT _ _ _ _ _ _ _ _ _ _ _ _ _ _ _)); (fail_if_success (with_reducible show LCg.CompEnd _ _ _ _ _ _ _ _ _ _ _ _ _ _)); (fail_if_success (with_reducible show wpAny _ _ (exec (Stmt.While _ _ _ _) _) _ _ _)); first | ((fail_if_success (fail_if_success k_unfold)); (show wpAny _ _ _ _ _ _); (try dsimp only)) | (k_unfold; (try dsimp only)) | ((first | (with_reducible show wpAny _ _ (exec _ _) _ _ _) | (with_reducible show wpAny _ _ (isTrue _ _) _ _ _) | (with_reducible show wpAny _ _ (eval (Expr.Call _ _ _ _) _) _ _ _) | (with_reducible show wpAny _ _ (eval (Expr.Compare _ _ _ _) _) _ _ _) | (with_reducible show wpAny _ _ (eval (Expr.Subscript _ _ _) _) _ _ _)); k_fold) | (k_end; wrow_close) | walk1 | (dsimp only; walk1) | (leave1; walk_say "STEP leave1"; try dsimp only) | fail "no step"))
  k_dflt (refine' LCg.CompSrc.range rfl ?a1 ?a2 ?a3 ?a4 (rangeSize_nat _ _) ?a5 ?a6)
  case a1 => assumption
  case a2 => assumption
  case a3 => assumption
  case a4 => exact small_one (by omega) (by omega) (by omega) (by omega)
  case a5 => rw [sizeLine_eq]; omega
  case a6 =>
    intro g2
    refine' comp_rest (OrderJ PySem.Challenge.rw_pq1297_01.row.prog w aT aC _) _ ?step ?fin _ 0 [] _ (Nat.zero_add _) ⟨_, _, _, [], rfl, ?t0, .nil, rfl⟩
    case t0 => assumption
    case step =>
      rintro i ys news hi hJ01 v I oI C oC D m₂ h tk E' hv hC hx F N off ne
      (try ((with_reducible show wpAny _ _ _ _ _ _); k_fold))
      obtain ⟨oT, vs, n, ns, rfl, hT, hI, hl⟩ := hJ01
      have off1 := And.intro off.1 off.2.1
      dsimp only at off1
      (repeat' ((fail_if_success (with_reducible show wpAny _ _ (exec (Stmt.For _ _ _ _ _) _) _ _ _)); (fail_if_success (with_reducible show wpAny _ _ (pyIter _) _ _ _)); (fail_if_success (with_reducible show wpAny _ _ (eval (Expr.ListComp _ _ _ _) _) _ _ _)); (fail_if_success (with_reducible show wpAny _ _ (exec (Stmt.Assign _ (Expr.ListComp _ _ _ _) _) _) _ _ _)); (fail_if_success (with_reducible show LCg.CompSrc _ _ _ _ _ _ _ _ _ _ _ _ _ _)); (fail_if_success (with_reducible show LCt.CompSrcT _ _ _ _ _ _ _ _ _ _ _ _ _ _ _)); (fail_if_success (with_reducible show LCg.CompEnd _ _ _ _ _ _ _ _ _ _ _ _ _ _)); (fail_if_success (with_reducible show wpAny _ _ (exec (Stmt.While _ _ _ _) _) _ _ _)); first | ((fail_if_success (fail_if_success k_unfold)); (show wpAny _ _ _ _ _ _); (try dsimp only)) | (k_unfold; (try dsimp only)) | ((first | (with_reducible show wpAny _ _ (exec _ _) _ _ _) | (with_reducible show wpAny _ _ (isTrue _ _) _ _ _) | (with_reducible show wpAny _ _ (eval (Expr.Call _ _ _ _) _) _ _ _) | (with_reducible show wpAny _ _ (eval (Expr.Compare _ _ _ _) _) _ _ _) | (with_reducible show wpAny _ _ (eval (Expr.Subscript _ _ _) _) _ _ _)); k_fold) | (k_end; wrow_close) | walk1 | (dsimp only; walk1) | (leave1; walk_say "STEP leave1"; try dsimp only) | fail "no step"))
      refine' order_end ?s1 ?s2 off ?s3 hI hl
      case s1 => assumption
      case s2 => assumption
      case s3 => assumption
    case fin =>
      rintro ys news hJ02
      (try ((with_reducible show wpAny _ _ _ _ _ _); k_fold))
      obtain ⟨oT, vs, n, ns, rfl, hT, hI, hl⟩ := hJ02
      intro D h tk F N o1
      have hlen : ns.length ≤ 6 := by omega
      simp only [LCg.Off1, and_true] at o1
      (repeat' ((fail_if_success (with_reducible show wpAny _ _ (exec (Stmt.For _ _ _ _ _) _) _ _ _)); (fail_if_success (with_reducible show wpAny _ _ (pyIter _) _ _ _)); (fail_if_success (with_reducible show wpAny _ _ (eval (Expr.ListComp _ _ _ _) _) _ _ _)); (fail_if_success (with_reducible show wpAny _ _ (exec (Stmt.Assign _ (Expr.ListComp _ _ _ _) _) _) _ _ _)); (fail_if_success (with_reducible show LCg.CompSrc _ _ _ _ _ _ _ _ _ _ _ _ _ _)); (fail_if_success (with_reducible show LCt.CompSrcT _ _ _ _ _ _ _ _ _ _ _ _ _ _ _)); (fail_if_success (with_reducible show LCg.CompEnd _ _ _ _ _ _ _ _ _ _ _ _ _ _)); (fail_if_success (with_reducible show wpAny _ _ (exec (Stmt.While _ _ _ _) _) _ _ _)); first | ((fail_if_success (fail_if_success k_unfold)); (show wpAny _ _ _ _ _ _); (try dsimp only)) | (k_unfold; (try dsimp only)) | ((first | (with_reducible show wpAny _ _ (exec _ _) _ _ _) | (with_reducible show wpAny _ _ (isTrue _ _) _ _ _) | (with_reducible show wpAny _ _ (eval (Expr.Call _ _ _ _) _) _ _ _) | (with_reducible show wpAny _ _ (eval (Expr.Compare _ _ _ _) _) _ _ _) | (with_reducible show wpAny _ _ (eval (Expr.Subscript _ _ _) _) _ _ _)); k_fold) | (k_end; wrow_close) | walk1 | (dsimp only; walk1) | (leave1; walk_say "STEP leave1"; try dsimp only) | fail "no step"))
      refine' ret _ _ _ _ _ _ _ _ _ hI hlen hT ?f1 ?f2 ?f3 ?f4 ?f5 ?f6
      case f3 => k_asm
      case f4 => exact news_sub (by assumption) (by lcg_sub)
      case f1 => k_ne
      case f2 => k_ne
      case f5 => refine' keep_rest M off ?g1 ?g2; (case g1 => assumption); (case g2 => assumption)
      case f6 => refine' fresh_sub ?g2 M off ?g1 ?g3; (case g1 => assumption); (case g2 => assumption); (case g3 => lcg_sub)
section
local macro_rules | `(tactic| walk_at "zz") => `(tactic| skip)
set_option maxHeartbeats 16000000 in
theorem weights_spec {w : World} {p : Program} {loose : List Str} {mean : ExcName → Option Value} {mg mb : Str → Option Value}
    {dp un : Nat} {gd : Option (List Code)} {cn : Str} {cs : Scope} {a : Addr} {ccd : Value} {cl : List (Str × Addr)} {outer : List Env} {A₀ : Around} {base h₀ : Heap} {L : Addr} {m : Str → Option Value} {s : Shared} {Q E : Value → Shared → Prop}
    {rest : Led} {aT aC : Addr} {oT : Obj} {vs : List Value} {n : Nat} {high : Int} {th : Tok}
    (B : Below A₀ base outer h₀) (F : Fr h₀ L s.heap m) (X : (hd.heap_39 w.params).In h₀) (T : Top p loose mean mg mb h₀) (hk : cs.kind = .function)
    (M : News h₀ L s.heap rest) (off : ∀ q ∈ ([(aT, oT), (aC, listOf vs.toArray n)] : Led), ∀ p ∈ rest, q.1 ≠ p.1) (N : News h₀ L s.heap [(aT, oT), (aC, listOf vs.toArray n)])
    (hT : TapeIs PySem.Challenge.rw_pq1297_01.row.prog w oT aC vs) (hne : @Ne Nat aT aC) (hm0 : 2 ≤ high) (hm1 : high ≤ 60)
    (hd : dp + 20 < recursionLimit) (hu : un + 400 < cLine)
    (ret : ∀ aF refs k subs ws oT' vs' n' h' tk', Tups subs refs ws → (∀ x ∈ ws, 0 ≤ x ∧ x < high + 3) → ws.length ≤ 6 → TapeIs PySem.Challenge.rw_pq1297_01.row.prog w oT' aC vs' → @Ne Nat aF aT → @Ne Nat aF aC → (∀ p ∈ subs, p.1 ≠ aT) → (∀ p ∈ subs, p.1 ≠ aC) → Fr h₀ L h' m → News h₀ L h' ((aT, oT') :: (aC, listOf vs'.toArray n') :: (aF, listOf refs.toArray k) :: subs) → News h₀ L h' rest → (∀ p ∈ ((aT, oT') :: (aC, listOf vs'.toArray n') :: (aF, listOf refs.toArray k) :: subs : Led), ∀ q ∈ rest, q.1 ≠ p.1) → Q (.ref aF) { s with heap := h', toks := tk' })
    : wpAny (model PySem.Challenge.rw_pq1297_01.row.prog w) (ktrTop dp un gd cn cs L a ccd cl outer) (call (.ref 177) [.ref aT, .int high th]) Q E s := by
  w_top off
  k_with_none
  k_with "call type:range" => (k_here; first | ((with_reducible show wpAny _ _ (call _ [Value.int _ _]) _ _ _); k_dflt (refine range1_rows (by k_asm) (by k_asm) ?_; intro h'9 tk'9 t1'9 u1'9 v1'9 R'9 F'9 N'9 _); (try k_sweep)) | ((with_reducible show wpAny _ _ (call _ [Value.int _ _, Value.int _ _]) _ _ _); k_dflt (refine range2_rows (by k_asm) (by k_asm) ?_; intro h'9 tk'9 t1'9 u1'9 v1'9 R'9 F'9 N'9 _); (try k_sweep)))
  k_with "call type:list" => (k_here; (with_reducible show wpAny _ _ (call (Value.type _) [Value.ref _]) _ _ _); k_dflt (refine' kll_range rfl ?k1 ?k2 ?k3 ?k4 (rangeSize_nat _ _) ?k6 ?_; (case k1 => k_asm); (case k2 => k_asm); (case k3 => with_reducible assumption); (case k4 => exact small_one (by omega) (by omega) (by omega) (by omega)); (case k6 => omega); k_whole); intro D'9 vs'9 c'9 h'9 tk'9 F'9 N'9 l19 hI'9; (try k_lt l19); (try k_sweep))
  k_with "call ref" => (k_here; k_dflt (refine' next_pull ?k1 ?k2 ?k3 ?k4 ?k5 ?k6 ?k7 ?kp1 ?kp2 ?k8 ?k9 ?k10 ?k11 ?k12 ?k13 ?_; (case k1 => k_asm); (case k2 => k_asm); (case k3 => k_asm); (case k4 => k_asm); (case k5 => k_asm); (case k6 => first | rfl | assumption); (case k7 => k_asm); (case kp1 => (repeat (first | with_reducible exact Pull.head | with_reducible apply Pull.tail))); (case kp2 => (repeat (first | with_reducible exact Pull.head | with_reducible apply Pull.tail))); (case k8 => k_ne); (case k9 => k_all); (case k10 => k_all); (case k11 => first | decide | assumption | omega); (case k12 => ktr_room); (case k13 => ktr_units); k_whole; intro x'9 t'9 oT'9 vs'9 n'9 h'9 tk'9 hx09 hx19 hT'9 F'9 N'9; (try dsimp only at F'9 N'9); (try k_sweep)))
  refine wpAny_call ?_
  (k_dflt (refine' call_sub ?k1 ?k2 ?k3 ?k4 ?k5 ?kA ?kF ?kK ?k6 ?k7 ?k8 ?k9 ?kB ?_ ?c2 ?c3 ?c4 ?c5; (case kA => exact rfl); (case kF => exact rfl); (case kK => assumption); (case k1 => k_asm); (case k2 => k_asm); (case k3 => k_asm); (case k4 => assumption); (case k5 => k_asm); (case k6 => k_is); (case k7 => k_is); (case k8 => ktr_room); (case k9 => exact BindsTo.of_eq rfl); (case c5 => decide); (case kB => exact locs rfl); (case c2 => exact rfl); (case c3 => exact rfl); (case c4 => exact rfl); k_whole))
  intro g L' h1 FG F1 N1 B1 X1 T1 hg lt
  (repeat' ((fail_if_success (with_reducible show wpAny _ _ (exec (Stmt.For _ _ _ _ _) _) _ _ _)); (fail_if_success (with_reducible show wpAny _ _ (pyIter _) _ _ _)); (fail_if_success (with_reducible show wpAny _ _ (eval (Expr.ListComp _ _ _ _) _) _ _ _)); (fail_if_success (with_reducible show wpAny _ _ (exec (Stmt.Assign _ (Expr.ListComp _ _ _ _) _) _) _ _ _)); (fail_if_success (with_reducible show LCg.CompSrc _ _ _ _ _ _ _ _ _ _ _ _ _ _)); (fail_if_success (with_reducible show wpAny _ _ (exec (Stmt.While _ _ _ _) _) _ _ _)); first | ((fail_if_success (fail_if_success k_unfold)); (show wpAny _ _ _ _ _ _); (try dsimp only)) | (k_unfold; (try dsimp only)) | ((first | (with_reducible show wpAny _ _ (exec _ _) _ _ _) | (with_reducible show wpAny _ _ (isTrue _ _) _ _ _) | (with_reducible show wpAny _ _ (eval (Expr.Call _ _ _ _) _) _ _ _) | (with_reducible show wpAny _ _ (eval (Expr.Compare _ _ _ _) _) _ _ _) | (with_reducible show wpAny _ _ (eval (Expr.Subscript _ _ _) _) _ _ _)); k_fold) | (k_end; wrow_close) | walk1 | (dsimp only; walk1) | (leave1; walk_say "STEP leave1"; try dsimp only) | fail "no step"))
  (try ((with_reducible show wpAny _ _ _ _ _ _); k_fold))
  (rename Fr _ _ _ _ => lF'); k_dflt (refine' For_invVF lF' ?k1 ?k2 ?_; (case k1 => exact rfl); (case k2 => exact rfl); k_whole)
  (repeat' ((fail_if_success (with_reducible show wpAny _ _ (exec (Stmt.For _ _ _ _ _) _) _ _ _)); (fail_if_success (with_reducible show wpAny _ _ (pyIter _) _ _ _)); (fail_if_success (with_reducible show wpAny _ _ (eval (Expr.ListComp _ _ _ _) _) _ _ _)); (fail_if_success (with_reducible show wpAny _ _ (exec (Stmt.Assign _ (Expr.ListComp _ _ _ _) _) _) _ _ _)); (fail_if_success (with_reducible show LCg.CompSrc _ _ _ _ _ _ _ _ _ _ _ _ _ _)); (fail_if_success (with_reducible show wpAny _ _ (exec (Stmt.While _ _ _ _) _) _ _ _)); first | ((fail_if_success (fail_if_success k_unfold)); (show wpAny _ _ _ _ _ _); (try dsimp only)) | (k_unfold; (try dsimp only)) | ((first | (with_reducible show wpAny _ _ (exec _ _) _ _ _) | (with_reducible show wpAny _ _ (isTrue _ _) _ _ _) | (with_reducible show wpAny _ _ (eval (Expr.Call _ _ _ _) _) _ _ _) | (with_reducible show wpAny _ _ (eval (Expr.Compare _ _ _ _) _) _ _ _) | (with_reducible show wpAny _ _ (eval (Expr.Subscript _ _ _) _) _ _ _)); k_fold) | (k_end; wrow_close) | walk1 | (dsimp only; walk1) | (leave1; walk_say "STEP leave1"; try dsimp only) | fail "no step"))
  refine' range_loop (WeJ PySem.Challenge.rw_pq1297_01.row.prog w aT aC _ high th) ?a1 ?a2 ?a3 ?a4 ?a5 ?a6 ?j0 ?turn ?done
  case a1 => exact rfl
  case a2 => assumption
  case a4 => exact rangeSize_nat _ _
  case a3 => exact small_one (by omega) (by omega) (by omega) (by omega)
  case a5 => assumption
  case' j0 => refine' ⟨_, _, _, [], 0, [], [], rfl, ?j1, .nil, List.forall_mem_nil _, rfl, ?j2, ?j3, ?j4, List.forall_mem_nil _, List.forall_mem_nil _, List.forall_mem_nil _⟩
  case j1 => assumption
  case j2 => k_dflt exact rfl
  case j3 => k_dflt exact rfl
  case j4 => k_dflt exact rfl
  case a6 => exact news_sub (by assumption) (by lcg_sub)
  case turn =>
    rintro i t m₁ nx h tk own hi hoff hJ01 F N
    (try ((with_reducible show wpAny _ _ _ _ _ _); k_fold))
    obtain ⟨oT, vs, n, refs, k, subs, ws, rfl, hT, hL, hw, hlen, m1, m2, m3, o1, o2, o3⟩ := hJ01
    have q1 := off_app o1 hoff (.head _)
    have q2 := off_app o2 hoff (.tail _ (.head _))
    have q3 := off_app o3 hoff (.tail _ (.tail _ (.head _)))
    have F1 := fr_kst [(_, _), (_, _), (_, _)] (kcons m1 (kcons m2 (kcons m3 (knil)))) F
    have N1 := news_sub N (b := (aT, oT) :: (aC, listOf vs.toArray n) :: (_, listOf refs.toArray k) :: (subs ++ own)) (fun p hp => hp)
    clear F N
    dsimp only [kstB] at F1
    generalize hR : subs ++ own = R at N1 q1 q2 q3
    have hrl : refs.length ≤ 7 := by rw [hL.length]; omega
    (repeat' ((fail_if_success (with_reducible show wpAny _ _ (exec (Stmt.For _ _ _ _ _) _) _ _ _)); (fail_if_success (with_reducible show wpAny _ _ (pyIter _) _ _ _)); (fail_if_success (with_reducible show wpAny _ _ (eval (Expr.ListComp _ _ _ _) _) _ _ _)); (fail_if_success (with_reducible show wpAny _ _ (exec (Stmt.Assign _ (Expr.ListComp _ _ _ _) _) _) _ _ _)); (fail_if_success (with_reducible show LCg.CompSrc _ _ _ _ _ _ _ _ _ _ _ _ _ _)); (fail_if_success (with_reducible show wpAny _ _ (exec (Stmt.While _ _ _ _) _) _ _ _)); first | ((fail_if_success (fail_if_success k_unfold)); (show wpAny _ _ _ _ _ _); (try dsimp only)) | (k_unfold; (try dsimp only)) | ((first | (with_reducible show wpAny _ _ (exec _ _) _ _ _) | (with_reducible show wpAny _ _ (isTrue _ _) _ _ _) | (with_reducible show wpAny _ _ (eval (Expr.Call _ _ _ _) _) _ _ _) | (with_reducible show wpAny _ _ (eval (Expr.Compare _ _ _ _) _) _ _ _) | (with_reducible show wpAny _ _ (eval (Expr.Subscript _ _ _) _) _ _ _)); k_fold) | (k_end; wrow_close) | walk1 | (dsimp only; walk1) | (leave1; walk_say "STEP leave1"; try dsimp only) | fail "no step"))
    · subst hR
      refine' we_end ?e1a ?e2a (fun p hp => hp) ?e3a ?e4a hL hw ?e5a ?e6a hlen ?e7a ?e8a ?e9a o1 o2 o3 ?e10a ?e11a ?e12a ?e13a hoff
      case e1a => assumption
      case e2a => assumption
      case e3a => exact List.push_toArray ..
      case e4a => assumption
      case e5a => omega
      case e6a => omega
      case e7a => k_dflt exact rfl
      case e8a => k_dflt exact rfl
      case e9a => k_dflt exact rfl
      case e10a => k_ne
      case e11a => k_ne
      case e12a => k_ne
      case e13a => refine' ne_of_4 (l := subs) ?eaa; (case eaa => assumption)
    · subst hR
      refine' we_end ?e1b ?e2b (fun p hp => hp) ?e3b ?e4b hL hw ?e5b ?e6b hlen ?e7b ?e8b ?e9b o1 o2 o3 ?e10b ?e11b ?e12b ?e13b hoff
      case e1b => assumption
      case e2b => assumption
      case e3b => exact List.push_toArray ..
      case e4b => assumption
      case e5b => omega
      case e6b => omega
      case e7b => k_dflt exact rfl
      case e8b => k_dflt exact rfl
      case e9b => k_dflt exact rfl
      case e10b => k_ne
      case e11b => k_ne
      case e12b => k_ne
      case e13b => refine' ne_of_4 (l := subs) ?eab; (case eab => assumption)
    · subst hR
      refine' we_end ?e1c ?e2c (fun p hp => hp) ?e3c ?e4c hL hw ?e5c ?e6c hlen ?e7c ?e8c ?e9c o1 o2 o3 ?e10c ?e11c ?e12c ?e13c hoff
      case e1c => assumption
      case e2c => assumption
      case e3c => exact List.push_toArray ..
      case e4c => assumption
      case e5c => omega
      case e6c => omega
      case e7c => k_dflt exact rfl
      case e8c => k_dflt exact rfl
      case e9c => k_dflt exact rfl
      case e10c => k_ne
      case e11c => k_ne
      case e12c => k_ne
      case e13c => refine' ne_of_4 (l := subs) ?eac; (case eac => assumption)
  case done =>
    rintro m₁ nx h tk hJ02 F N
    (try ((with_reducible show wpAny _ _ _ _ _ _); k_fold))
    obtain ⟨oT, vs, n, refs, k, subs, ws, rfl, hT, hL, hw, hlen, m1, m2, m3, o1, o2, o3⟩ := hJ02
    have F1 := fr_kst0 [(_, _), (_, _), (_, _)] (kcons m1 (kcons m2 (kcons m3 (knil)))) F
    clear F
    dsimp only [kstB] at F1
    (repeat' ((fail_if_success (with_reducible show wpAny _ _ (exec (Stmt.For _ _ _ _ _) _) _ _ _)); (fail_if_success (with_reducible show wpAny _ _ (pyIter _) _ _ _)); (fail_if_success (with_reducible show wpAny _ _ (eval (Expr.ListComp _ _ _ _) _) _ _ _)); (fail_if_success (with_reducible show wpAny _ _ (exec (Stmt.Assign _ (Expr.ListComp _ _ _ _) _) _) _ _ _)); (fail_if_success (with_reducible show LCg.CompSrc _ _ _ _ _ _ _ _ _ _ _ _ _ _)); (fail_if_success (with_reducible show wpAny _ _ (exec (Stmt.While _ _ _ _) _) _ _ _)); first | ((fail_if_success (fail_if_success k_unfold)); (show wpAny _ _ _ _ _ _); (try dsimp only)) | (k_unfold; (try dsimp only)) | ((first | (with_reducible show wpAny _ _ (exec _ _) _ _ _) | (with_reducible show wpAny _ _ (isTrue _ _) _ _ _) | (with_reducible show wpAny _ _ (eval (Expr.Call _ _ _ _) _) _ _ _) | (with_reducible show wpAny _ _ (eval (Expr.Compare _ _ _ _) _) _ _ _) | (with_reducible show wpAny _ _ (eval (Expr.Subscript _ _ _) _) _ _ _)); k_fold) | (k_end; wrow_close) | walk1 | (dsimp only; walk1) | (leave1; walk_say "STEP leave1"; try dsimp only) | fail "no step"))
    have hlen6 : ws.length ≤ 6 := by omega
    refine' ret _ refs _ subs ws _ _ _ _ _ hL hw hlen6 hT ?z1 ?z2 o1 o2 ?z3 ?z4 ?z5 ?z6
    case z3 => k_asm
    case z4 => assumption
    case z1 => k_ne
    case z2 => k_ne
    case z5 => refine' keep_rest M off ?g1 ?g2; (case g1 => assumption); (case g2 => assumption)
    case z6 => refine' fresh_rest ?g2 M off ?g1; (case g1 => assumption); (case g2 => assumption)
end
set_option maxHeartbeats 16000000 in
theorem init_spec {w : World} {p : Program} {loose : List Str} {mean : ExcName → Option Value} {mg mb : Str → Option Value}
    {dp un : Nat} {gd : Option (List Code)} {cn : Str} {cs : Scope} {a : Addr} {ccd : Value} {cl : List (Str × Addr)} {outer : List Env} {A₀ : Around} {base h₀ : Heap} {L : Addr} {m : Str → Option Value} {s : Shared} {Q E : Value → Shared → Prop}
    {rest : Led} {aF aO : Addr} {fv os : List Value} {firsts order : List Int} {e : Int} {te : Tok} {k no : Nat}
    (B : Below A₀ base outer h₀) (F : Fr h₀ L s.heap m) (X : (hd.heap_39 w.params).In h₀) (T : Top p loose mean mg mb h₀) (hk : cs.kind = .function)
    (M : News h₀ L s.heap rest) (off : ∀ q ∈ ([] : Led), ∀ p ∈ rest, q.1 ≠ p.1) (N : News h₀ L s.heap [])
    (hF : (aF, listOf fv.toArray k) ∈ rest) (hFI : IntsAre fv firsts) (hO : (aO, listOf os.toArray no) ∈ rest) (hOI : IntsAre os order) (h5 : firsts.length ≤ 5) (h6 : order.length ≤ 6)
    (hd : dp + 20 < recursionLimit) (hu : un + 400 < cLine)
    (ret : ∀ x dx aF2 aB oB kvs c t1 t2 t3 h' tk', oB.IsDictOf (intKind PySem.Challenge.rw_pq1297_01.row.prog w) kvs → PairsAre kvs (initF firsts order e) → (initF firsts order e).length ≤ 11 → (aB == sysModules) = false → Fr h₀ L h' m → News h₀ L h' ([(x, instObj 76 dx), (dx, reoDict w.params t1 t2 t3 te aF2 aB e), (aF2, listOf fv.toArray c), (aB, oB)]) → News h₀ L h' rest → (∀ p ∈ ([(x, instObj 76 dx), (dx, reoDict w.params t1 t2 t3 te aF2 aB e), (aF2, listOf fv.toArray c), (aB, oB)] : Led), ∀ q ∈ rest, q.1 ≠ p.1) → Q (.ref x) { s with heap := h', toks := tk' })
    : wpAny (model PySem.Challenge.rw_pq1297_01.row.prog w) (ktrTop dp un gd cn cs L a ccd cl outer) (call (.ref 76) [.ref aF, .ref aO, .int e te]) Q E s := by
  w_top off
  k_with_none
  k_with "call type:range" => (k_here; first | ((with_reducible show wpAny _ _ (call _ [Value.int _ _]) _ _ _); k_dflt (refine range1_rows (by k_asm) (by k_asm) ?_; intro h'9 tk'9 t1'9 u1'9 v1'9 R'9 F'9 N'9 _); (try k_sweep)) | ((with_reducible show wpAny _ _ (call _ [Value.int _ _, Value.int _ _]) _ _ _); k_dflt (refine range2_rows (by k_asm) (by k_asm) ?_; intro h'9 tk'9 t1'9 u1'9 v1'9 R'9 F'9 N'9 _); (try k_sweep)))
  k_with "call type:list" => (k_here; (with_reducible show wpAny _ _ (call (Value.type _) [Value.ref _]) _ _ _); k_dflt (refine' kll_range rfl ?k1 ?k2 ?k3 ?k4 (rangeSize_nat _ _) ?k6 ?_; (case k1 => k_asm); (case k2 => k_asm); (case k3 => with_reducible assumption); (case k4 => exact small_one (by omega) (by omega) (by omega) (by omega)); (case k6 => omega); k_whole); intro D'9 vs'9 c'9 h'9 tk'9 F'9 N'9 l19 hI'9; (try k_lt l19); (try k_sweep))
  k_with "compareOp NotIn int ref" => (k_here; k_dflt (refine' kdg_notin (knd := PySem.intKind _ _) ?a ?b ?c ?d (intKind_is _ _ _ _) _ rfl ?_; (case a => k_asm); (case b => k_mem); (case c => k_asm); (case d => k_asm); k_whole))
  k_with "setItem ref int" => (k_here; k_dflt (refine' kda_set (knd := PySem.intKind _ _) ?F ?N ?U ?d (intKind_is _ _ _ _) ?z ?_; (case F => k_asm); (case N => k_asm); (case U => k_updF); (case d => k_asm); (case z => assumption)); intro h'9 o'9 F'9 N'9 hd'9; (try dsimp only at N'9); (try k_sweep))
  k_dflt (refine' call_cls (news := rest) ?k1 ?k2 ?k3 ?k4 ?k5 ?k6 ?_; (case k1 => k_asm); (case k2 => k_asm); (case k3 => assumption); (case k4 => k_is); (case k5 => k_is); (case k6 => k_is); k_whole)
  intro x dx h0 F0 N0 lt0 lt1
  have M0 : News h₀ L h0 rest := fun p hp => N0 p (.tail _ (.tail _ hp))
  have V0 : News h₀ L h0 [(x, instObj 76 dx), (dx, dictOf [] 0)] := news_sub N0 (fun p hp => by simp only [List.mem_cons, List.not_mem_nil, or_false] at hp ⊢; rcases hp with h | h <;> simp [h])
  have off0 : ∀ q ∈ [(x, instObj 76 dx), (dx, dictOf [] 0)], ∀ p ∈ rest, q.1 ≠ p.1 := by
    intro q hq p hp
    have := lt0 p hp
    simp only [List.mem_cons, List.not_mem_nil, or_false] at hq
    rcases hq with rfl | rfl
    · exact Nat.ne_of_gt (Nat.lt_trans this lt1)
    · exact Nat.ne_of_gt this
  clear N0
  (k_dflt (refine' call_sub ?k1 ?k2 ?k3 ?k4 ?k5 ?kA ?kF ?kK ?k6 ?k7 ?k8 ?k9 ?kB ?_ ?c2 ?c3 ?c4 ?c5; (case kA => exact rfl); (case kF => exact rfl); (case kK => assumption); (case k1 => k_asm); (case k2 => k_asm); (case k3 => k_asm); (case k4 => assumption); (case k5 => k_asm); (case k6 => k_is); (case k7 => k_is); (case k8 => ktr_room); (case k9 => exact BindsTo.of_eq rfl); (case c5 => decide); (case kB => exact locs rfl); (case c2 => exact rfl); (case c3 => exact rfl); (case c4 => exact rfl); k_whole))
  intro g L' h1 FG F1 N1 B1 X1 T1 hg lt
  have hg2 : ∀ p ∈ rest, g.get? p.1 = some p.2 := fun p hp => hg p.1 p.2 (M0 p hp).1 (fun q hq => off0 q hq p hp)
  have hgF : g.IsList aF fv.toArray := ⟨_, hg2 _ hF, rfl, k, rfl⟩
  have hgO : g.IsList aO os.toArray := ⟨_, hg2 _ hO, rfl, no, rfl⟩
  replace lt1 := ltN lt1
  repeat' ((fail_if_success (with_reducible show wpAny _ _ (exec (Stmt.Assign [Expr.Name _ _] (Expr.IfExp _ _ _ _) _) _) _ _ _)); (fail_if_success (with_reducible show wpAny _ _ (exec (Stmt.For _ _ _ _ _) _) _ _ _)); (fail_if_success (with_reducible show wpAny _ _ (pyIter _) _ _ _)); (fail_if_success (with_reducible show wpAny _ _ (eval (Expr.ListComp _ _ _ _) _) _ _ _)); (fail_if_success (with_reducible show wpAny _ _ (exec (Stmt.Assign _ (Expr.ListComp _ _ _ _) _) _) _ _ _)); (fail_if_success (with_reducible show LCg.CompSrc _ _ _ _ _ _ _ _ _ _ _ _ _ _)); first | ((fail_if_success (fail_if_success k_unfold)); (show wpAny _ _ _ _ _ _); (try dsimp only)) | (k_unfold; (try dsimp only)) | ((first | (with_reducible show wpAny _ _ (exec _ _) _ _ _) | (with_reducible show wpAny _ _ (isTrue _ _) _ _ _) | (with_reducible show wpAny _ _ (eval (Expr.Call _ _ _ _) _) _ _ _) | (with_reducible show wpAny _ _ (eval (Expr.Compare _ _ _ _) _) _ _ _) | (with_reducible show wpAny _ _ (eval (Expr.Subscript _ _ _) _) _ _ _)); k_fold) | (k_end; wrow_close) | walk1 | (dsimp only; walk1) | (leave1; walk_say "STEP leave1"; try dsimp only) | fail "no step")
  (try k_fold)
  k_dflt (refine' cut_int "at" (firsts.headD e) ?q1 ?q2 ?qh ?qk; (case' q1 => k_asm); (case' q2 => k_asm))
  case qh =>
    (repeat' ((fail_if_success (with_reducible show wpAny _ _ (exec (Stmt.For _ _ _ _ _) _) _ _ _)); (fail_if_success (with_reducible show wpAny _ _ (pyIter _) _ _ _)); (fail_if_success (with_reducible show wpAny _ _ (eval (Expr.ListComp _ _ _ _) _) _ _ _)); (fail_if_success (with_reducible show wpAny _ _ (exec (Stmt.Assign _ (Expr.ListComp _ _ _ _) _) _) _ _ _)); (fail_if_success (with_reducible show LCg.CompSrc _ _ _ _ _ _ _ _ _ _ _ _ _ _)); first | ((fail_if_success (fail_if_success k_unfold)); (show wpAny _ _ _ _ _ _); (try dsimp only)) | (k_unfold; (try dsimp only)) | ((first | (with_reducible show wpAny _ _ (exec _ _) _ _ _) | (with_reducible show wpAny _ _ (isTrue _ _) _ _ _) | (with_reducible show wpAny _ _ (eval (Expr.Call _ _ _ _) _) _ _ _) | (with_reducible show wpAny _ _ (eval (Expr.Compare _ _ _ _) _) _ _ _) | (with_reducible show wpAny _ _ (eval (Expr.Subscript _ _ _) _) _ _ _)); k_fold) | (k_end; wrow_close) | walk1 | (dsimp only; walk1) | (leave1; walk_say "STEP leave1"; try dsimp only) | fail "no step"))
    all_goals refine IntStored.intro (by assumption) (by assumption) ?_
    all_goals (rcases firsts with _ | ⟨f, r⟩ <;> first | exact rfl | (exfalso; simp at *; done))
  case qk =>
    intro hJ1 kJ1 tJ1 FJ1 NJ1
    try k_sweep
    dsimp only at FJ1 NJ1 ⊢
    (repeat' ((fail_if_success (with_reducible show wpAny _ _ (exec (Stmt.For _ _ _ _ _) _) _ _ _)); (fail_if_success (with_reducible show wpAny _ _ (pyIter _) _ _ _)); (fail_if_success (with_reducible show wpAny _ _ (eval (Expr.ListComp _ _ _ _) _) _ _ _)); (fail_if_success (with_reducible show wpAny _ _ (exec (Stmt.Assign _ (Expr.ListComp _ _ _ _) _) _) _ _ _)); (fail_if_success (with_reducible show LCg.CompSrc _ _ _ _ _ _ _ _ _ _ _ _ _ _)); first | ((fail_if_success (fail_if_success k_unfold)); (show wpAny _ _ _ _ _ _); (try dsimp only)) | (k_unfold; (try dsimp only)) | ((first | (with_reducible show wpAny _ _ (exec _ _) _ _ _) | (with_reducible show wpAny _ _ (isTrue _ _) _ _ _) | (with_reducible show wpAny _ _ (eval (Expr.Call _ _ _ _) _) _ _ _) | (with_reducible show wpAny _ _ (eval (Expr.Compare _ _ _ _) _) _ _ _) | (with_reducible show wpAny _ _ (eval (Expr.Subscript _ _ _) _) _ _ _)); k_fold) | (k_end; wrow_close) | walk1 | (dsimp only; walk1) | (leave1; walk_say "STEP leave1"; try dsimp only) | fail "no step"))
    (try ((with_reducible show wpAny _ _ _ _ _ _); k_fold))
    (rename Fr _ _ _ _ => lF'); k_dflt (refine' For_invVF lF' ?k1 ?k2 ?_; (case k1 => exact rfl); (case k2 => exact rfl); k_whole)
    (repeat' ((fail_if_success (with_reducible show wpAny _ _ (exec (Stmt.For _ _ _ _ _) _) _ _ _)); (fail_if_success (with_reducible show wpAny _ _ (pyIter _) _ _ _)); (fail_if_success (with_reducible show wpAny _ _ (eval (Expr.ListComp _ _ _ _) _) _ _ _)); (fail_if_success (with_reducible show wpAny _ _ (exec (Stmt.Assign _ (Expr.ListComp _ _ _ _) _) _) _ _ _)); (fail_if_success (with_reducible show LCg.CompSrc _ _ _ _ _ _ _ _ _ _ _ _ _ _)); first | ((fail_if_success (fail_if_success k_unfold)); (show wpAny _ _ _ _ _ _); (try dsimp only)) | (k_unfold; (try dsimp only)) | ((first | (with_reducible show wpAny _ _ (exec _ _) _ _ _) | (with_reducible show wpAny _ _ (isTrue _ _) _ _ _) | (with_reducible show wpAny _ _ (eval (Expr.Call _ _ _ _) _) _ _ _) | (with_reducible show wpAny _ _ (eval (Expr.Compare _ _ _ _) _) _ _ _) | (with_reducible show wpAny _ _ (eval (Expr.Subscript _ _ _) _) _ _ _)); k_fold) | (k_end; wrow_close) | walk1 | (dsimp only; walk1) | (leave1; walk_say "STEP leave1"; try dsimp only) | fail "no step"))
    refine' list_loop (InitJ PySem.Challenge.rw_pq1297_01.row.prog w firsts (order ++ rangeKs 0 ((firsts.length : Int) - 0).toNat) e te (_, listOf _ 0) x aF _ [(_, listOf fv.toArray _), (x, instObj 76 dx), (dx, dictOf _ _)]) ?a1P ?a2P ?a3P ?a4P ?a5P ?j0P ?turnP ?doneP
    case a1P => exact rfl
    case a2P => assumption
    case a4P => assumption
    case' j0P => refine' ⟨_, [], [], firsts.headD e, _, rfl, ?jdP, .nil, rfl, Nat.le_refl _, ?j1P, ?j2P, ?j3P, ?j4P⟩
    case jdP => assumption
    case a3P => exact .head _
    case a5P => exact news_sub (by assumption) (by lcg_sub)
    case j1P => k_dflt first | exact rfl | (rcases firsts with _ | ⟨f, r⟩ <;> first | exact rfl | (exfalso; simp at *; done))
    case j2P => k_dflt exact rfl
    case j3P => k_dflt exact rfl
    case j4P => k_dflt exact rfl
    case turnP =>
      rintro i nu t m₁ nx h tk own hi hoff hmem hJ01 F N
      (try ((with_reducible show wpAny _ _ _ _ _ _); k_fold))
      obtain ⟨oB, kvs, bs, at', ta, rfl, hD, hP, hst, l1, m1, m2, m3, m4⟩ := hJ01
      have q1 := hoff.ne (.head _)
      have q2 := hoff.ne (.tail _ (.head _))
      have F1 := fr_kst [(_, _), (_, _), (_, _), (_, _)] (kcons m1 (kcons m2 (kcons m3 (kcons m4 (knil))))) F
      have N1 := news_sub N (b := (_, listOf _ _) :: (_, oB) :: (_, listOf fv.toArray _) :: (x, instObj 76 dx) :: (dx, dictOf _ _) :: own) (fun p hp => hp)
      clear F N
      dsimp only [kstB] at F1
      have hi9 : i < 11 := by
        have := (List.getElem?_eq_some_iff.mp hi).1
        simp only [List.length_append, rangeKs_length] at this
        omega
      have hz : kvs.length ≤ sizeLine := by rw [hP.length, sizeLine_eq]; omega
      (repeat' ((fail_if_success (with_reducible show wpAny _ _ (exec (Stmt.For _ _ _ _ _) _) _ _ _)); (fail_if_success (with_reducible show wpAny _ _ (pyIter _) _ _ _)); (fail_if_success (with_reducible show wpAny _ _ (eval (Expr.ListComp _ _ _ _) _) _ _ _)); (fail_if_success (with_reducible show wpAny _ _ (exec (Stmt.Assign _ (Expr.ListComp _ _ _ _) _) _) _ _ _)); (fail_if_success (with_reducible show LCg.CompSrc _ _ _ _ _ _ _ _ _ _ _ _ _ _)); first | ((fail_if_success (fail_if_success k_unfold)); (show wpAny _ _ _ _ _ _); (try dsimp only)) | (k_unfold; (try dsimp only)) | ((first | (with_reducible show wpAny _ _ (exec _ _) _ _ _) | (with_reducible show wpAny _ _ (isTrue _ _) _ _ _) | (with_reducible show wpAny _ _ (eval (Expr.Call _ _ _ _) _) _ _ _) | (with_reducible show wpAny _ _ (eval (Expr.Compare _ _ _ _) _) _ _ _) | (with_reducible show wpAny _ _ (eval (Expr.Subscript _ _ _) _) _ _ _)); k_fold) | (k_end; wrow_close) | walk1 | (dsimp only; walk1) | (leave1; walk_say "STEP leave1"; try dsimp only) | fail "no step"))
      · refine' init_skip ?e1aP ?e2aP hoff hi hD hP hst l1 ?e3aP ?e4aP ?e5aP ?e6aP ?e7aP
        case e1aP => assumption
        case e2aP => assumption
        case e3aP => exact fun hc => hc.2.2 (hP.keys ▸ valueAt_some_mem (by assumption))
        case e4aP => k_dflt exact rfl
        case e5aP => k_dflt exact rfl
        case e6aP => k_dflt exact rfl
        case e7aP => k_dflt exact rfl
      · refine' init_take ?f1bP ?f2bP hoff hi ?f3bP hP hst l1 ?f4bP ?f5bP ?f6bP ?f7bP ?f8bP ?f9bP ?f10bP ?f11bP
        case f1bP => assumption
        case f2bP => assumption
        case f3bP => assumption
        case f4bP => assumption
        case f5bP => assumption
        case f6bP => assumption
        case f8bP => k_dflt exact rfl
        case f9bP => k_dflt exact rfl
        case f10bP => k_dflt exact rfl
        case f11bP => k_dflt exact rfl
        case f7bP => rw [if_pos (by omega)]
      · refine' init_take ?f1cP ?f2cP hoff hi ?f3cP hP hst l1 ?f4cP ?f5cP ?f6cP ?f7cP ?f8cP ?f9cP ?f10cP ?f11cP
        case f1cP => assumption
        case f2cP => assumption
        case f3cP => assumption
        case f4cP => assumption
        case f5cP => assumption
        case f6cP => assumption
        case f8cP => k_dflt exact rfl
        case f9cP => k_dflt exact rfl
        case f10cP => k_dflt exact rfl
        case f11cP => k_dflt exact rfl
        case f7cP => rw [if_neg (by omega)]
      · refine' init_skip ?e1dP ?e2dP hoff hi hD hP hst l1 ?e3dP ?e4dP ?e5dP ?e6dP ?e7dP
        case e1dP => assumption
        case e2dP => assumption
        case e3dP => omega
        case e4dP => k_dflt exact rfl
        case e5dP => k_dflt exact rfl
        case e6dP => k_dflt exact rfl
        case e7dP => k_dflt exact rfl
      · refine' init_skip ?e1fP ?e2fP hoff hi hD hP hst l1 ?e3fP ?e4fP ?e5fP ?e6fP ?e7fP
        case e1fP => assumption
        case e2fP => assumption
        case e3fP => omega
        case e4fP => k_dflt exact rfl
        case e5fP => k_dflt exact rfl
        case e6fP => k_dflt exact rfl
        case e7fP => k_dflt exact rfl
    case doneP =>
      rintro m₁ nx h tk hJ02 F N
      (try ((with_reducible show wpAny _ _ _ _ _ _); k_fold))
      obtain ⟨oB, kvs, bs, at', ta, rfl, hD, hP, hst, l1, m1, m2, m3, m4⟩ := hJ02
      have F1 := fr_kst0 [(_, _), (_, _), (_, _), (_, _)] (kcons m1 (kcons m2 (kcons m3 (kcons m4 (knil))))) F
      clear F
      dsimp only [kstB] at F1
      (repeat' ((fail_if_success (with_reducible show wpAny _ _ (exec (Stmt.For _ _ _ _ _) _) _ _ _)); (fail_if_success (with_reducible show wpAny _ _ (pyIter _) _ _ _)); (fail_if_success (with_reducible show wpAny _ _ (eval (Expr.ListComp _ _ _ _) _) _ _ _)); (fail_if_success (with_reducible show wpAny _ _ (exec (Stmt.Assign _ (Expr.ListComp _ _ _ _) _) _) _ _ _)); (fail_if_success (with_reducible show LCg.CompSrc _ _ _ _ _ _ _ _ _ _ _ _ _ _)); first | ((fail_if_success (fail_if_success k_unfold)); (show wpAny _ _ _ _ _ _); (try dsimp only)) | (k_unfold; (try dsimp only)) | ((first | (with_reducible show wpAny _ _ (exec _ _) _ _ _) | (with_reducible show wpAny _ _ (isTrue _ _) _ _ _) | (with_reducible show wpAny _ _ (eval (Expr.Call _ _ _ _) _) _ _ _) | (with_reducible show wpAny _ _ (eval (Expr.Compare _ _ _ _) _) _ _ _) | (with_reducible show wpAny _ _ (eval (Expr.Subscript _ _ _) _) _ _ _)); k_fold) | (k_end; wrow_close) | walk1 | (dsimp only; walk1) | (leave1; walk_say "STEP leave1"; try dsimp only) | fail "no step"))
      have hin : initF firsts order e = bs := by
        rw [List.take_length, show ((firsts.length : Int) - 0).toNat = firsts.length by omega] at hst
        rw [initF, hst]
      have hlen : (initF firsts order e).length ≤ 11 := by
        rw [hin]
        simp only [List.length_append, rangeKs_length] at l1
        omega
      refine' ret _ _ _ _ _ kvs _ _ _ _ _ _ hD (hin ▸ hP) hlen ?z1P ?z2P ?z3P ?z4P ?z5P
      case z2P => k_asm
      case z3P => exact news_sub (by assumption) (by lcg_sub)
      case z1P => assumption
      case z4P => refine' keep_rest M0 off0 ?g1P ?g2P; (case g1P => assumption); (case g2P => assumption)
      case z5P => refine' fresh_sub ?g2P M0 off0 ?g1P ?g3P; (case g1P => assumption); (case g2P => assumption); (case g3P => lcg_sub)
section
local macro_rules | `(tactic| walk_at "zz") => `(tactic| skip)
theorem cmp_use {w : World} {p : Program} {loose : List Str} {mean : ExcName → Option Value} {mg mb : Str → Option Value}
    {dp un : Nat} {gd : Option (List Code)} {cn : Str} {cs : Scope} {a : Addr} {ccd : Value} {cl : List (Str × Addr)} {outer : List Env} {A₀ : Around} {base h₀ : Heap} {L : Addr} {m : Str → Option Value} {s : Shared} {Q E : Value → Shared → Prop}
    {news : Led} {aX aY : Addr} {xv yv : List Value} {xs ys : List Int} {kx ky : Nat}
    (B : Below A₀ base outer h₀) (F : Fr h₀ L s.heap m) (X : (hd.heap_39 w.params).In h₀) (N : News h₀ L s.heap news) (T : Top p loose mean mg mb h₀) (hk : cs.kind = .function)
    (hX : (aX, listOf xv.toArray kx) ∈ news) (hXI : IntsAre xv xs) (hY : (aY, listOf yv.toArray ky) ∈ news) (hYI : IntsAre yv ys) (hx9 : xs.length ≤ 50) (hy9 : ys.length ≤ 50)
    (hd : dp + 20 < recursionLimit) (hu : un + 400 < cLine)
    (ret : ∀ t h' tk', Fr h₀ L h' m → News h₀ L h' news → Q (.int (cmpF xs ys) t) { s with heap := h', toks := tk' })
    : wpAny (model PySem.Challenge.rw_pq1297_01.row.prog w) (ktrTop dp un gd cn cs L a ccd cl outer) (call (.ref 132) [.ref aX, .ref aY]) Q E s :=
  cmp_spec B F X T hk N (List.forall_mem_nil _) News.nil hX hXI hY hYI hx9 hy9 hd hu fun t h' tk' F' _ N' _ => ret t h' tk' F' N'
theorem firstF_50 {firsts : List Int} {bs : List (Int × Int)} {e : Int} {ws : List Int} (h : ws.length ≤ 6) : (firstF firsts bs e ws).length ≤ 50 := by
  rw [firstF, List.length_map]
  exact Nat.le_trans (List.length_filter_le _ _) (by omega)
def CwJ (xs ys : List Int) (V : Led) (aA aB o : Addr) (n : Nat) (m : Str → Option Value) (nx : Led) : Prop :=
  nx = V ∧ ∃ (num told : Int) (tn tl : Tok), m "number" = some (.int num tn) ∧ m "told" = some (.int told tl) ∧ m "one" = some (.ref aA) ∧ m "other" = some (.ref aB) ∧ m "options" = some (.ref o) ∧
    ((n = 2 ∧ num = 0 ∧ told = 0) ∨ (n = 1 ∧ num = 1 ∧ told = cmpF xs ys))
theorem cw_step {xs ys : List Int} {V all : Led} {aA aB o L : Addr} {h₀ h' : Heap} {m' : Str → Option Value} {s : Shared} {tk : Nat} {tn tl : Tok} {Q : Flow → Shared → Prop} {num : Int}
    (F : Fr h₀ L h' m') (N : News h₀ L h' all) (hs : ∀ p ∈ V, p ∈ all) (e : num = 1) (m1 : m' "number" = some (.int num tn)) (m2 : m' "told" = some (.int (cmpF xs ys) tl)) (m3 : m' "one" = some (.ref aA)) (m4 : m' "other" = some (.ref aB)) (m5 : m' "options" = some (.ref o)) :
    WhileStep2 h₀ L s (CwJ xs ys V aA aB o) Q 2 .next { s with heap := h', toks := tk } :=
  ⟨h', tk, m', V, 1, rfl, F, news_sub N hs, by omega, rfl, num, _, tn, tl, m1, m2, m3, m4, m5, .inr ⟨rfl, e, rfl⟩⟩
set_option maxHeartbeats 16000000 in
theorem cw_spec {w : World} {p : Program} {loose : List Str} {mean : ExcName → Option Value} {mg mb : Str → Option Value}
    {dp un : Nat} {gd : Option (List Code)} {cn : Str} {cs : Scope} {a : Addr} {ccd : Value} {cl : List (Str × Addr)} {outer : List Env} {A₀ : Around} {base h₀ : Heap} {L : Addr} {m : Str → Option Value} {s : Shared} {Q E : Value → Shared → Prop}
    {rest : Led} {sub : Led} {o dO x dx aF2 aB aW aW2 : Addr} {q1 q2 q3 q4 q5 q6 q7 q8 qs t1 t2 t3 te : Tok} {fv refs refs2 : List Value} {firsts ws ws2 : List Int} {e : Int} {c kw kw2 : Nat} {oB : Obj} {bs : List (Int × Int)}
    (B : Below A₀ base outer h₀) (F : Fr h₀ L s.heap m) (X : (hd.heap_39 w.params).In h₀) (T : Top p loose mean mg mb h₀) (hk : cs.kind = .function)
    (M : News h₀ L s.heap rest) (off : ∀ q ∈ ((optLed w.params o dO q1 q2 q3 q4 q5 q6 q7 q8 qs x dx aF2 aB t1 t2 t3 te e fv c oB) : Led), ∀ p ∈ rest, q.1 ≠ p.1) (N : News h₀ L s.heap (optLed w.params o dO q1 q2 q3 q4 q5 q6 q7 q8 qs x dx aF2 aB t1 t2 t3 te e fv c oB))
    (hR : ReoIs PySem.Challenge.rw_pq1297_01.row.prog w fv firsts oB bs aB) (hS : ∀ p ∈ sub, s.heap.get? p.1 = some p.2) (hSo : ∀ q ∈ (optLed w.params o dO q1 q2 q3 q4 q5 q6 q7 q8 qs x dx aF2 aB t1 t2 t3 te e fv c oB), ∀ p ∈ sub, q.1 ≠ p.1) (hW : (aW, listOf refs.toArray kw) ∈ sub) (hWs : Tups sub refs ws) (h6 : ws.length ≤ 6) (hW2 : (aW2, listOf refs2.toArray kw2) ∈ sub) (hWs2 : Tups sub refs2 ws2) (h62 : ws2.length ≤ 6)
    (hd : dp + 140 < recursionLimit) (hu : un + 7000 < cLine)
    (ret : ∀ t h' tk', Fr h₀ L h' m → News h₀ L h' ((optLed w.params o dO q1 q2 q3 q4 q5 q6 q7 q8 qs x dx aF2 aB t1 t2 t3 te e fv c oB)) → News h₀ L h' rest → (∀ p ∈ ((optLed w.params o dO q1 q2 q3 q4 q5 q6 q7 q8 qs x dx aF2 aB t1 t2 t3 te e fv c oB) : Led), ∀ q ∈ rest, q.1 ≠ p.1) → Q (.int (cmpF (firstF firsts bs e ws) (firstF firsts bs e ws2)) t) { s with heap := h', toks := tk' })
    : wpAny (model PySem.Challenge.rw_pq1297_01.row.prog w) (ktrTop dp un gd cn cs L a ccd cl outer) (call (.ref 139) [.ref aW, .ref aW2, .ref o]) Q E s := by
  w_top off
  k_with_none
  k_with "call type:range" => (k_here; first | ((with_reducible show wpAny _ _ (call _ [Value.int _ _]) _ _ _); k_dflt (refine range1_rows (by k_asm) (by k_asm) ?_; intro h'9 tk'9 t1'9 u1'9 v1'9 R'9 F'9 N'9 _); (try k_sweep)) | ((with_reducible show wpAny _ _ (call _ [Value.int _ _, Value.int _ _]) _ _ _); k_dflt (refine range2_rows (by k_asm) (by k_asm) ?_; intro h'9 tk'9 t1'9 u1'9 v1'9 R'9 F'9 N'9 _); (try k_sweep)))
  k_with "call type:list" => (k_here; (with_reducible show wpAny _ _ (call (Value.type _) [Value.ref _]) _ _ _); k_dflt (refine' kll_range rfl ?k1 ?k2 ?k3 ?k4 (rangeSize_nat _ _) ?k6 ?_; (case k1 => k_asm); (case k2 => k_asm); (case k3 => with_reducible assumption); (case k4 => exact small_one (by omega) (by omega) (by omega) (by omega)); (case k6 => omega); k_whole); intro D'9 vs'9 c'9 h'9 tk'9 F'9 N'9 l19 hI'9; (try k_lt l19); (try k_sweep))
  k_with "call ref" => (k_here; (with_reducible show wpAny _ _ (call (Value.ref 119) _) _ _ _); k_dflt (first | (refine' level_use ?k1 ?k2 ?k3 ?k4 ?k5 ?k6 ?k7 ?kp1 ?kq1 ?kq2 ?kq3 ?kq4 ?kn ?k12 ?k13 ?_; (case k1 => k_asm); (case k2 => k_asm); (case k3 => k_asm); (case k4 => k_asm); (case k5 => k_asm); (case k6 => first | rfl | assumption); (case k7 => assumption); (case kq1 => assumption); (case kq2 => assumption); (case kq3 => assumption); (case kq4 => assumption); (case kn => omega); (case kp1 => lcg_sub); (case k12 => ktr_room); (case k13 => ktr_units); k_whole; intro aR'9 rv'9 n'9 h'9 tk'9 hI'9 F'9 N'9 oR'9; (try simp only [List.forall_mem_cons, List.forall_mem_append, List.not_mem_nil, false_imp_iff, implies_true, and_true] at oR'9); (try dsimp only at F'9 N'9); (try k_sweep)) | (refine' levelN_use ?k1 ?k2 ?k3 ?k4 ?k5 ?k6 ?k7 ?kp1 ?kq1 ?kq2 ?kq3 ?kq4 ?kn ?k12 ?k13 ?_; (case k1 => k_asm); (case k2 => k_asm); (case k3 => k_asm); (case k4 => k_asm); (case k5 => k_asm); (case k6 => first | rfl | assumption); (case k7 => assumption); (case kq1 => assumption); (case kq2 => assumption); (case kq3 => assumption); (case kq4 => assumption); (case kn => omega); (case kp1 => lcg_sub); (case k12 => ktr_room); (case k13 => ktr_units); k_whole; intro h'9 tk'9 F'9 N'9; (try dsimp only at F'9 N'9); (try k_sweep))))
  k_with "call ref" => (k_here; (with_reducible show wpAny _ _ (call (Value.ref 132) _) _ _ _); k_dflt (refine' cmp_use ?k1 ?k2 ?k3 ?k4 ?k5 ?k6 ?ka ?kb ?kc ?kd ?ke ?kf ?k12 ?k13 ?_; (case k1 => k_asm); (case k2 => k_asm); (case k3 => k_asm); (case k4 => k_asm); (case k5 => k_asm); (case k6 => first | rfl | assumption); (case ka => k_mem); (case kb => assumption); (case kc => k_mem); (case kd => assumption); (case ke => exact firstF_50 (by assumption)); (case kf => exact firstF_50 (by assumption)); (case k12 => ktr_room); (case k13 => ktr_units); k_whole; intro t'9 h'9 tk'9 F'9 N'9; (try dsimp only at F'9 N'9); (try k_sweep)))
  have off0 := off
  refine wpAny_call ?_
  (k_dflt (refine' call_sub ?k1 ?k2 ?k3 ?k4 ?k5 ?kA ?kF ?kK ?k6 ?k7 ?k8 ?k9 ?kB ?_ ?c2 ?c3 ?c4 ?c5; (case kA => exact rfl); (case kF => exact rfl); (case kK => assumption); (case k1 => k_asm); (case k2 => k_asm); (case k3 => k_asm); (case k4 => assumption); (case k5 => k_asm); (case k6 => k_is); (case k7 => k_is); (case k8 => ktr_room); (case k9 => first | exact BindsTo.of_eq rfl | exact binds_K (by k_in) rfl (by k_is) rfl rfl rfl); (case c5 => decide); (case kB => exact locs rfl); (case c2 => exact rfl); (case c3 => exact rfl); (case c4 => exact rfl); k_whole))
  intro g L' h1 FG F1 N1 B1 X1 T1 hg lt
  have hg2 := fun (p : Addr × Obj) (hp : p ∈ sub) => hg p.1 p.2 (hS p hp) (fun q hq => hSo q hq p hp)
  k_lt lt
  (repeat' ((fail_if_success (with_reducible show wpAny _ _ (exec (Stmt.For _ _ _ _ _) _) _ _ _)); (fail_if_success (with_reducible show wpAny _ _ (pyIter _) _ _ _)); (fail_if_success (with_reducible show wpAny _ _ (eval (Expr.ListComp _ _ _ _) _) _ _ _)); (fail_if_success (with_reducible show wpAny _ _ (exec (Stmt.Assign _ (Expr.ListComp _ _ _ _) _) _) _ _ _)); (fail_if_success (with_reducible show LCg.CompSrc _ _ _ _ _ _ _ _ _ _ _ _ _ _)); (fail_if_success (with_reducible show LCt.CompSrcT _ _ _ _ _ _ _ _ _ _ _ _ _ _ _)); (fail_if_success (with_reducible show LCg.CompEnd _ _ _ _ _ _ _ _ _ _ _ _ _ _)); (fail_if_success (with_reducible show wpAny _ _ (exec (Stmt.While _ _ _ _) _) _ _ _)); first | ((fail_if_success (fail_if_success k_unfold)); (show wpAny _ _ _ _ _ _); (try dsimp only)) | (k_unfold; (try dsimp only)) | ((first | (with_reducible show wpAny _ _ (exec _ _) _ _ _) | (with_reducible show wpAny _ _ (isTrue _ _) _ _ _) | (with_reducible show wpAny _ _ (eval (Expr.Call _ _ _ _) _) _ _ _) | (with_reducible show wpAny _ _ (eval (Expr.Compare _ _ _ _) _) _ _ _) | (with_reducible show wpAny _ _ (eval (Expr.Subscript _ _ _) _) _ _ _)); k_fold) | (k_end; wrow_close) | walk1 | (dsimp only; walk1) | (leave1; walk_say "STEP leave1"; try dsimp only) | fail "no step"))
  refine' While_inv2 (CwJ (firstF firsts bs e ws) (firstF firsts bs e ws2) (optLed w.params o dO q1 q2 q3 q4 q5 q6 q7 q8 qs x dx aF2 aB t1 t2 t3 te e fv c oB) aW aW2 o) (n₀ := 2) ?w1 ?w2 ?w3 ?w4
  case w1 => assumption
  case w3 => exact ⟨rfl, 0, 0, _, _, by k_dflt exact rfl, by k_dflt exact rfl, by k_dflt exact rfl, by k_dflt exact rfl, by k_dflt exact rfl, .inl ⟨rfl, rfl, rfl⟩⟩
  case w2 => exact news_sub (by assumption) (by lcg_sub)
  case w4 =>
    rintro n m₁ nx h tk F N hJ01
    (try ((with_reducible show wpAny _ _ _ _ _ _); k_fold))
    obtain ⟨rfl, num, told, tn, tl, m1, m2, m3, m4, m5, hc⟩ := hJ01
    have F1 := fr_kst0 [(_, _), (_, _), (_, _), (_, _), (_, _)] (kcons m1 (kcons m2 (kcons m3 (kcons m4 (kcons m5 (knil)))))) F
    clear F
    dsimp only [kstB] at F1
    clear m1 m2 m3 m4 m5
    rcases hc with ⟨rfl, rfl, rfl⟩ | ⟨rfl, rfl, rfl⟩
    · (repeat' ((fail_if_success (with_reducible show wpAny _ _ (exec (Stmt.For _ _ _ _ _) _) _ _ _)); (fail_if_success (with_reducible show wpAny _ _ (pyIter _) _ _ _)); (fail_if_success (with_reducible show wpAny _ _ (eval (Expr.ListComp _ _ _ _) _) _ _ _)); (fail_if_success (with_reducible show wpAny _ _ (exec (Stmt.Assign _ (Expr.ListComp _ _ _ _) _) _) _ _ _)); (fail_if_success (with_reducible show LCg.CompSrc _ _ _ _ _ _ _ _ _ _ _ _ _ _)); (fail_if_success (with_reducible show LCt.CompSrcT _ _ _ _ _ _ _ _ _ _ _ _ _ _ _)); (fail_if_success (with_reducible show LCg.CompEnd _ _ _ _ _ _ _ _ _ _ _ _ _ _)); (fail_if_success (with_reducible show wpAny _ _ (exec (Stmt.While _ _ _ _) _) _ _ _)); first | ((fail_if_success (fail_if_success k_unfold)); (show wpAny _ _ _ _ _ _); (try dsimp only)) | (k_unfold; (try dsimp only)) | ((first | (with_reducible show wpAny _ _ (exec _ _) _ _ _) | (with_reducible show wpAny _ _ (isTrue _ _) _ _ _) | (with_reducible show wpAny _ _ (eval (Expr.Call _ _ _ _) _) _ _ _) | (with_reducible show wpAny _ _ (eval (Expr.Compare _ _ _ _) _) _ _ _) | (with_reducible show wpAny _ _ (eval (Expr.Subscript _ _ _) _) _ _ _)); k_fold) | (k_end; wrow_close) | walk1 | (dsimp only; walk1) | (leave1; walk_say "STEP leave1"; try dsimp only) | fail "no step"))
      try dsimp only
      refine' cw_step ?y1 ?y2 ?y3 ?y4 ?y5 ?y6 ?y7 ?y8 ?y9
      case y1 => assumption
      case y2 => assumption
      case y3 => lcg_sub
      case y5 => k_dflt exact rfl
      case y4 => rfl
      case y6 => k_dflt exact rfl
      case y7 => k_dflt exact rfl
      case y8 => k_dflt exact rfl
      case y9 => k_dflt exact rfl
    · (repeat' ((fail_if_success (with_reducible show wpAny _ _ (exec (Stmt.For _ _ _ _ _) _) _ _ _)); (fail_if_success (with_reducible show wpAny _ _ (pyIter _) _ _ _)); (fail_if_success (with_reducible show wpAny _ _ (eval (Expr.ListComp _ _ _ _) _) _ _ _)); (fail_if_success (with_reducible show wpAny _ _ (exec (Stmt.Assign _ (Expr.ListComp _ _ _ _) _) _) _ _ _)); (fail_if_success (with_reducible show LCg.CompSrc _ _ _ _ _ _ _ _ _ _ _ _ _ _)); (fail_if_success (with_reducible show LCt.CompSrcT _ _ _ _ _ _ _ _ _ _ _ _ _ _ _)); (fail_if_success (with_reducible show LCg.CompEnd _ _ _ _ _ _ _ _ _ _ _ _ _ _)); (fail_if_success (with_reducible show wpAny _ _ (exec (Stmt.While _ _ _ _) _) _ _ _)); first | ((fail_if_success (fail_if_success k_unfold)); (show wpAny _ _ _ _ _ _); (try dsimp only)) | (k_unfold; (try dsimp only)) | ((first | (with_reducible show wpAny _ _ (exec _ _) _ _ _) | (with_reducible show wpAny _ _ (isTrue _ _) _ _ _) | (with_reducible show wpAny _ _ (eval (Expr.Call _ _ _ _) _) _ _ _) | (with_reducible show wpAny _ _ (eval (Expr.Compare _ _ _ _) _) _ _ _) | (with_reducible show wpAny _ _ (eval (Expr.Subscript _ _ _) _) _ _ _)); k_fold) | (k_end; wrow_close) | walk1 | (dsimp only; walk1) | (leave1; walk_say "STEP leave1"; try dsimp only) | fail "no step"))
      · dsimp only [WhileStep2]
        (repeat' ((fail_if_success (with_reducible show wpAny _ _ (exec (Stmt.For _ _ _ _ _) _) _ _ _)); (fail_if_success (with_reducible show wpAny _ _ (pyIter _) _ _ _)); (fail_if_success (with_reducible show wpAny _ _ (eval (Expr.ListComp _ _ _ _) _) _ _ _)); (fail_if_success (with_reducible show wpAny _ _ (exec (Stmt.Assign _ (Expr.ListComp _ _ _ _) _) _) _ _ _)); (fail_if_success (with_reducible show LCg.CompSrc _ _ _ _ _ _ _ _ _ _ _ _ _ _)); (fail_if_success (with_reducible show LCt.CompSrcT _ _ _ _ _ _ _ _ _ _ _ _ _ _ _)); (fail_if_success (with_reducible show LCg.CompEnd _ _ _ _ _ _ _ _ _ _ _ _ _ _)); (fail_if_success (with_reducible show wpAny _ _ (exec (Stmt.While _ _ _ _) _) _ _ _)); first | ((fail_if_success (fail_if_success k_unfold)); (show wpAny _ _ _ _ _ _); (try dsimp only)) | (k_unfold; (try dsimp only)) | ((first | (with_reducible show wpAny _ _ (exec _ _) _ _ _) | (with_reducible show wpAny _ _ (isTrue _ _) _ _ _) | (with_reducible show wpAny _ _ (eval (Expr.Call _ _ _ _) _) _ _ _) | (with_reducible show wpAny _ _ (eval (Expr.Compare _ _ _ _) _) _ _ _) | (with_reducible show wpAny _ _ (eval (Expr.Subscript _ _ _) _) _ _ _)); k_fold) | (k_end; wrow_close) | walk1 | (dsimp only; walk1) | (leave1; walk_say "STEP leave1"; try dsimp only) | fail "no step"))
        rw [show (0 : Int) = cmpF (firstF firsts bs e ws) (firstF firsts bs e ws2) from Eq.symm (by assumption)]
        refine' ret _ _ _ ?z1a ?z2a ?z3a ?z4a
        case z1a => k_asm
        case z2a => exact news_sub (by assumption) (by lcg_sub)
        case z3a => refine' keep_rest M off0 ?g1a ?g2a; (case g1a => assumption); (case g2a => assumption)
        case z4a => refine' fresh_sub ?g2a M off0 ?g1a ?g3a; (case g1a => assumption); (case g2a => assumption); (case g3a => lcg_sub)
      · refine' ret _ _ _ ?z1b ?z2b ?z3b ?z4b
        case z1b => k_asm
        case z2b => exact news_sub (by assumption) (by lcg_sub)
        case z3b => refine' keep_rest M off0 ?g1b ?g2b; (case g1b => assumption); (case g2b => assumption)
        case z4b => refine' fresh_sub ?g2b M off0 ?g1b ?g3b; (case g1b => assumption); (case g2b => assumption); (case g3b => lcg_sub)
end
end
section
variable {w : World} {p : Program} {loose : List Str} {mean : ExcName → Option Value} {mg mb : Str → Option Value}
    {dp un : Nat} {gd : Option (List Code)} {cn : Str} {cs : Scope} {a : Addr} {ccd : Value} {cl : List (Str × Addr)} {outer : List Env} {A₀ : Around} {base h₀ : Heap} {L : Addr} {m : Str → Option Value} {s : Shared} {Q E : Value → Shared → Prop}
    {news r1 rest : Led}
theorem tape_use {aS : Addr} {vs : List Value} {ns : List Int}
    (B : Below A₀ base outer h₀) (F : Fr h₀ L s.heap m) (X : (hd.heap_39 w.params).In h₀) (N : News h₀ L s.heap news) (T : Top p loose mean mg mb h₀) (hk : cs.kind = .function)
    (hS : h₀.IsList aS vs.toArray) (hI : IntsAre vs ns) (hlen : ns.length ≤ 63)
    (hd : dp + 20 < recursionLimit) (hu : un + 400 < cLine)
    (ret : ∀ aT aC oT' vs' n' h' tk', TapeIs PySem.Challenge.rw_pq1297_01.row.prog w oT' aC vs' → @Ne Nat aT aC → (∀ q ∈ news, @Ne Nat q.1 aT) → (∀ q ∈ news, @Ne Nat q.1 aC) → Fr h₀ L h' m → News h₀ L h' ((aT, oT') :: (aC, listOf vs'.toArray n') :: news) → Q (.ref aT) { s with heap := h', toks := tk' })
    : wpAny (model PySem.Challenge.rw_pq1297_01.row.prog w) (ktrTop dp un gd cn cs L a ccd cl outer) (call (.ref 144) [.ref aS]) Q E s :=
  tape_spec B F X T hk N (List.forall_mem_nil _) News.nil hS hI hlen hd hu fun aT aC oT' vs' n' h' tk' hT hne F' N1 N2 hf => ret aT aC oT' vs' n' h' tk' hT hne (hf _ (.head _)) (hf _ (.tail _ (.head _))) F' (news_app (a := [(aT, oT'), (aC, listOf vs'.toArray n')]) N1 N2)
theorem off2 {aT aC : Addr} {oT oC : Obj} {rest : Led} (oT1 : ∀ q ∈ rest, @Ne Nat q.1 aT) (oC1 : ∀ q ∈ rest, @Ne Nat q.1 aC) : ∀ q ∈ [(aT, oT), (aC, oC)], ∀ p ∈ rest, q.1 ≠ p.1 := by
  intro q hq p hp
  rcases List.mem_cons.mp hq with rfl | hq
  · exact fun e => oT1 p hp e.symm
  · rw [List.mem_singleton.mp hq]; exact fun e => oC1 p hp e.symm
theorem lots_use {aT aC : Addr} {oT : Obj} {vs : List Value} {n : Nat}
    (B : Below A₀ base outer h₀) (F : Fr h₀ L s.heap m) (X : (hd.heap_39 w.params).In h₀) (N : News h₀ L s.heap news) (T : Top p loose mean mg mb h₀) (hk : cs.kind = .function)
    (hT : TapeIs PySem.Challenge.rw_pq1297_01.row.prog w oT aC vs) (P1 : Pull aT oT news r1) (P2 : Pull aC (listOf vs.toArray n) r1 rest) (hne : @Ne Nat aT aC) (oT1 : ∀ q ∈ rest, @Ne Nat q.1 aT) (oC1 : ∀ q ∈ rest, @Ne Nat q.1 aC)
    (hd : dp + 10 < recursionLimit) (hu : un + 300 < cLine)
    (ret : ∀ aR aL refs k subs lots a₀ v tv oT' vs' n' h' tk', 2 ≤ a₀ → a₀ ≤ 6 → LotsOk a₀ lots v → lots.length ≤ 5 → Lots subs refs lots → TapeIs PySem.Challenge.rw_pq1297_01.row.prog w oT' aC vs' →
      (∀ q ∈ rest, @Ne Nat q.1 aR) → (∀ q ∈ rest, @Ne Nat q.1 aL) → (∀ q ∈ rest, ∀ p ∈ subs, @Ne Nat p.1 q.1) → @Ne Nat aR aT → @Ne Nat aR aC → @Ne Nat aL aT → @Ne Nat aL aC → (∀ p ∈ subs, @Ne Nat p.1 aT) → (∀ p ∈ subs, @Ne Nat p.1 aC) → Fr h₀ L h' m →
      News h₀ L h' ((aR, tupOf [.ref aL, .int v tv]) :: (aT, oT') :: (aC, listOf vs'.toArray n') :: (aL, listOf refs.toArray k) :: (rest ++ subs)) → Q (.ref aR) { s with heap := h', toks := tk' })
    : wpAny (model PySem.Challenge.rw_pq1297_01.row.prog w) (ktrTop dp un gd cn cs L a ccd cl outer) (call (.ref 158) [.ref aT]) Q E s :=
  lots_spec B F X T hk (news_sub N fun p hp => P1.sub _ (.tail _ (P2.sub _ (.tail _ hp)))) (off2 oT1 oC1) (news_sub N fun p hp => P1.two P2 p (by
      rcases List.mem_cons.mp hp with rfl | hp
      · exact .head _
      · rw [List.mem_singleton.mp hp]; exact .tail _ (.head _))) hT hne hd hu
    fun aR aL refs k subs lots a₀ v tv oT' vs' n' h' tk' h1 h2 h3 h4 h5 h6 F' N1 N2 hf g1 g2 g3 g4 g5 g6 =>
      ret aR aL refs k subs lots a₀ v tv oT' vs' n' h' tk' h1 h2 h3 h4 h5 h6 (hf _ (.head _)) (hf _ (.tail _ (.tail _ (.tail _ (.head _))))) (fun q hq p hp => Ne.symm (hf _ (.tail _ (.tail _ (.tail _ (.tail _ hp)))) q hq)) g1 g2 g3 g4 g5 g6 F' (by
        intro p hp
        simp only [List.mem_cons, List.mem_append] at hp
        rcases hp with h | h | h | h | h | h
        · exact N1 p (by simp [h])
        · exact N1 p (by simp [h])
        · exact N1 p (by simp [h])
        · exact N1 p (by simp [h])
        · exact N2 p h
        · exact N1 p (by simp [h]))
theorem order_use {aT aC : Addr} {oT : Obj} {vs : List Value} {n : Nat} {many : Int} {tm : Tok}
    (B : Below A₀ base outer h₀) (F : Fr h₀ L s.heap m) (X : (hd.heap_39 w.params).In h₀) (N : News h₀ L s.heap news) (T : Top p loose mean mg mb h₀) (hk : cs.kind = .function)
    (hT : TapeIs PySem.Challenge.rw_pq1297_01.row.prog w oT aC vs) (P1 : Pull aT oT news r1) (P2 : Pull aC (listOf vs.toArray n) r1 rest) (hne : @Ne Nat aT aC) (oT1 : ∀ q ∈ rest, @Ne Nat q.1 aT) (oC1 : ∀ q ∈ rest, @Ne Nat q.1 aC)
    (hm0 : 0 ≤ many) (hm1 : many ≤ 5) (hd : dp + 20 < recursionLimit) (hu : un + 400 < cLine)
    (ret : ∀ aO os no order oT' vs' n' h' tk', IntsAre os order → order.length ≤ 6 → TapeIs PySem.Challenge.rw_pq1297_01.row.prog w oT' aC vs' → (∀ q ∈ rest, @Ne Nat q.1 aO) → @Ne Nat aO aT → @Ne Nat aO aC → Fr h₀ L h' m →
      News h₀ L h' ((aO, listOf os.toArray no) :: (aT, oT') :: (aC, listOf vs'.toArray n') :: rest) → Q (.ref aO) { s with heap := h', toks := tk' })
    : wpAny (model PySem.Challenge.rw_pq1297_01.row.prog w) (ktrTop dp un gd cn cs L a ccd cl outer) (call (.ref 163) [.ref aT, .int many tm]) Q E s :=
  order_spec B F X T hk (news_sub N fun p hp => P1.sub _ (.tail _ (P2.sub _ (.tail _ hp)))) (off2 oT1 oC1) (news_sub N fun p hp => P1.two P2 p (by
      rcases List.mem_cons.mp hp with rfl | hp
      · exact .head _
      · rw [List.mem_singleton.mp hp]; exact .tail _ (.head _))) hT hne hm0 hm1 hd hu
    fun aO os no order oT' vs' n' h' tk' h1 h2 h3 g1 g2 F' N1 N2 hf =>
      ret aO os no order oT' vs' n' h' tk' h1 h2 h3 (hf _ (.head _)) g1 g2 F' (news_app (a := [(aO, listOf os.toArray no), (aT, oT'), (aC, listOf vs'.toArray n')]) N1 N2)
theorem init_use {aF aO : Addr} {fv os : List Value} {firsts order : List Int} {e : Int} {te : Tok} {k no : Nat}
    (B : Below A₀ base outer h₀) (F : Fr h₀ L s.heap m) (X : (hd.heap_39 w.params).In h₀) (N : News h₀ L s.heap news) (T : Top p loose mean mg mb h₀) (hk : cs.kind = .function)
    (hF : (aF, listOf fv.toArray k) ∈ news) (hFI : IntsAre fv firsts) (hO : (aO, listOf os.toArray no) ∈ news) (hOI : IntsAre os order) (h5 : firsts.length ≤ 5) (h6 : order.length ≤ 6)
    (hd : dp + 20 < recursionLimit) (hu : un + 400 < cLine)
    (ret : ∀ x dx aF2 aB oB kvs c t1 t2 t3 h' tk', oB.IsDictOf (intKind PySem.Challenge.rw_pq1297_01.row.prog w) kvs → PairsAre kvs (initF firsts order e) → (aB == sysModules) = false →
      (∀ q ∈ news, @Ne Nat q.1 x) → (∀ q ∈ news, @Ne Nat q.1 dx) → (∀ q ∈ news, @Ne Nat q.1 aF2) → (∀ q ∈ news, @Ne Nat q.1 aB) → Fr h₀ L h' m → News h₀ L h' ((x, instObj 76 dx) :: (dx, reoDict w.params t1 t2 t3 te aF2 aB e) :: (aF2, listOf fv.toArray c) :: (aB, oB) :: news) → Q (.ref x) { s with heap := h', toks := tk' })
    : wpAny (model PySem.Challenge.rw_pq1297_01.row.prog w) (ktrTop dp un gd cn cs L a ccd cl outer) (call (.ref 76) [.ref aF, .ref aO, .int e te]) Q E s :=
  init_spec B F X T hk N (List.forall_mem_nil _) News.nil hF hFI hO hOI h5 h6 hd hu
    fun x dx aF2 aB oB kvs c t1 t2 t3 h' tk' h1 h2 _ h4 F' N1 N2 hf => ret x dx aF2 aB oB kvs c t1 t2 t3 h' tk' h1 h2 h4 (hf _ (.head _)) (hf _ (.tail _ (.head _))) (hf _ (.tail _ (.tail _ (.head _)))) (hf _ (.tail _ (.tail _ (.tail _ (.head _))))) F' (news_app (a := [_, _, _, _]) N1 N2)
theorem row_use {aL aO : Addr} {refs os : List Value} {lots : List (List Int)} {order : List Int} {k no : Nat}
    (B : Below A₀ base outer h₀) (F : Fr h₀ L s.heap m) (X : (hd.heap_39 w.params).In h₀) (N : News h₀ L s.heap news) (T : Top p loose mean mg mb h₀) (hk : cs.kind = .function)
    (hL : (aL, listOf refs.toArray k) ∈ news) (hLs : Lots news refs lots) (hO : (aO, listOf os.toArray no) ∈ news) (hOI : IntsAre os order) (h5 : lots.length ≤ 5) (h6 : order.length ≤ 6) (hsz : ∀ l ∈ lots, l.length ≤ 6)
    (hd : dp + 20 < recursionLimit) (hu : un + 400 < cLine)
    (ret : ∀ aR rv nr h' tk', IntsAre rv (rowF lots order) → (∀ q ∈ news, @Ne Nat q.1 aR) → Fr h₀ L h' m → News h₀ L h' ((aR, listOf rv.toArray nr) :: news) → Q (.ref aR) { s with heap := h', toks := tk' })
    : wpAny (model PySem.Challenge.rw_pq1297_01.row.prog w) (ktrTop dp un gd cn cs L a ccd cl outer) (call (.ref 170) [.ref aL, .ref aO]) Q E s :=
  row_spec B F X T hk N (List.forall_mem_nil _) News.nil hL hLs hO hOI h5 h6 hsz hd hu fun aR rv nr h' tk' h1 F' N1 N2 hf => ret aR rv nr h' tk' h1 (hf _ (.head _)) F' (news_app (a := [_]) N1 N2)
theorem opts_use {y : Addr} {ts : Tok}
    (B : Below A₀ base outer h₀) (F : Fr h₀ L s.heap m) (X : (hd.heap_39 w.params).In h₀) (N : News h₀ L s.heap news) (T : Top p loose mean mg mb h₀) (hk : cs.kind = .function)
    (hd : dp + 20 < recursionLimit) (hu : un + 400 < cLine)
    (ret : ∀ x dx t1 t2 t3 t4 t5 t6 t7 t8 h' tk', (∀ q ∈ news, @Ne Nat q.1 x) → (∀ q ∈ news, @Ne Nat q.1 dx) → Fr h₀ L h' m → News h₀ L h' ((x, instObj 33 dx) :: (dx, optDict w.params t1 t2 t3 t4 t5 t6 t7 t8 ts y) :: news) → Q (.ref x) { s with heap := h', toks := tk' })
    : wpAny (model PySem.Challenge.rw_pq1297_01.row.prog w) (ktrTop dp un gd cn cs L a ccd cl outer) (call (.ref 33) [] [("strength", .int 1 ts), ("reorder", .ref y)]) Q E s :=
  opts_spec B F X T hk N (List.forall_mem_nil _) News.nil hd hu fun x dx t1 t2 t3 t4 t5 t6 t7 t8 h' tk' F' N1 N2 hf => ret x dx t1 t2 t3 t4 t5 t6 t7 t8 h' tk' (hf _ (.head _)) (hf _ (.tail _ (.head _))) F' (news_app (a := [_, _]) N1 N2)
theorem weights_use {aT aC : Addr} {oT : Obj} {vs : List Value} {n : Nat} {high : Int} {th : Tok}
    (B : Below A₀ base outer h₀) (F : Fr h₀ L s.heap m) (X : (hd.heap_39 w.params).In h₀) (N : News h₀ L s.heap news) (T : Top p loose mean mg mb h₀) (hk : cs.kind = .function)
    (hT : TapeIs PySem.Challenge.rw_pq1297_01.row.prog w oT aC vs) (P1 : Pull aT oT news r1) (P2 : Pull aC (listOf vs.toArray n) r1 rest) (hne : @Ne Nat aT aC) (oT1 : ∀ q ∈ rest, @Ne Nat q.1 aT) (oC1 : ∀ q ∈ rest, @Ne Nat q.1 aC)
    (hm0 : 2 ≤ high) (hm1 : high ≤ 60) (hd : dp + 20 < recursionLimit) (hu : un + 400 < cLine)
    (ret : ∀ aF refs k subs ws oT' vs' n' h' tk', Tups subs refs ws → (∀ x ∈ ws, 0 ≤ x ∧ x < high + 3) → ws.length ≤ 6 → TapeIs PySem.Challenge.rw_pq1297_01.row.prog w oT' aC vs' → (∀ q ∈ rest, @Ne Nat q.1 aF) → (∀ q ∈ rest, ∀ p ∈ subs, @Ne Nat p.1 q.1) →
      @Ne Nat aF aT → @Ne Nat aF aC → (∀ p ∈ subs, @Ne Nat p.1 aT) → (∀ p ∈ subs, @Ne Nat p.1 aC) → Fr h₀ L h' m → News h₀ L h' ((aT, oT') :: (aC, listOf vs'.toArray n') :: (aF, listOf refs.toArray k) :: (rest ++ subs)) → Q (.ref aF) { s with heap := h', toks := tk' })
    : wpAny (model PySem.Challenge.rw_pq1297_01.row.prog w) (ktrTop dp un gd cn cs L a ccd cl outer) (call (.ref 177) [.ref aT, .int high th]) Q E s :=
  weights_spec B F X T hk (news_sub N fun p hp => P1.sub _ (.tail _ (P2.sub _ (.tail _ hp)))) (off2 oT1 oC1) (news_sub N fun p hp => P1.two P2 p (by
      rcases List.mem_cons.mp hp with rfl | hp
      · exact .head _
      · rw [List.mem_singleton.mp hp]; exact .tail _ (.head _))) hT hne hm0 hm1 hd hu
    fun aF refs k subs ws oT' vs' n' h' tk' h1 h2 h3 h4 g1 g2 g3 g4 F' N1 N2 hf =>
      ret aF refs k subs ws oT' vs' n' h' tk' h1 h2 h3 h4 (hf _ (.tail _ (.tail _ (.head _)))) (fun q hq p hp => Ne.symm (hf _ (.tail _ (.tail _ (.tail _ hp))) q hq)) g1 g2 g3 g4 F' (by
        intro p hp
        simp only [List.mem_cons, List.mem_append] at hp
        rcases hp with h | h | h | h | h
        · exact N1 p (by simp [h])
        · exact N1 p (by simp [h])
        · exact N1 p (by simp [h])
        · exact N2 p h
        · exact N1 p (by simp [h]))
end
section
variable {w : World} {p : Program} {loose : List Str} {mean : ExcName → Option Value} {mg mb : Str → Option Value}
    {dp un : Nat} {gd : Option (List Code)} {cn : Str} {cs : Scope} {a : Addr} {ccd : Value} {cl : List (Str × Addr)} {outer : List Env} {A₀ : Around} {base h₀ : Heap} {L : Addr} {m : Str → Option Value} {s : Shared} {Q E : Value → Shared → Prop}
    {news : Led} {sub : Led} {o dO x dx aF2 aB aW aW2 : Addr} {q1 q2 q3 q4 q5 q6 q7 q8 qs t1 t2 t3 te : Tok} {fv refs refs2 : List Value} {firsts ws ws2 : List Int} {e : Int} {c kw kw2 : Nat} {oB : Obj} {bs : List (Int × Int)}
theorem first_law
    (B : Below A₀ base outer h₀) (F : Fr h₀ L s.heap m) (X : (hd.heap_39 w.params).In h₀) (N : News h₀ L s.heap news) (T : Top p loose mean mg mb h₀) (hk : cs.kind = .function)
    (hR : ReoIs PySem.Challenge.rw_pq1297_01.row.prog w fv firsts oB bs aB) (hSo : ∀ q ∈ optLed w.params o dO q1 q2 q3 q4 q5 q6 q7 q8 qs x dx aF2 aB t1 t2 t3 te e fv c oB, ∀ p ∈ sub, q.1 ≠ p.1) (hV : ∀ p ∈ optLed w.params o dO q1 q2 q3 q4 q5 q6 q7 q8 qs x dx aF2 aB t1 t2 t3 te e fv c oB, p ∈ news)
    (hS : ∀ p ∈ sub, p ∈ news) (hW : (aW, listOf refs.toArray kw) ∈ sub) (hWs : Tups sub refs ws) (h6 : ws.length ≤ 6)
    (hd : dp + 50 < recursionLimit) (hu : un + 1500 < cLine)
    (ret : ∀ aR rv n' h' tk', IntsAre rv (firstF firsts bs e ws) → Fr h₀ L h' m → News h₀ L h' ((aR, listOf rv.toArray n') :: news) → (∀ q ∈ news, @Ne Nat q.1 aR) → Q (.ref aR) { s with heap := h', toks := tk' })
    : wpAny (model PySem.Challenge.rw_pq1297_01.row.prog w) (ktrTop dp un gd cn cs L a ccd cl outer) (call (.ref 85) [.ref aW, .ref o]) Q E s :=
  first_spec B F X T hk (news_sub N offOf_sub) offOf_off (news_sub N hV) hR (fun p hp => (N p (hS p hp)).1) hSo hW hWs h6 hd hu fun aR rv n' h' tk' hI hV6 F' N1 N2 hf =>
    ret aR rv n' h' tk' hI F' (back_all (own := [(aR, listOf rv.toArray n')]) N hV N1 N2) (fresh_all N hV hV6 (hf _ (.head _)))
theorem wkey_law
    (B : Below A₀ base outer h₀) (F : Fr h₀ L s.heap m) (X : (hd.heap_39 w.params).In h₀) (N : News h₀ L s.heap news) (T : Top p loose mean mg mb h₀) (hk : cs.kind = .function)
    (hR : ReoIs PySem.Challenge.rw_pq1297_01.row.prog w fv firsts oB bs aB) (hSo : ∀ q ∈ optLed w.params o dO q1 q2 q3 q4 q5 q6 q7 q8 qs x dx aF2 aB t1 t2 t3 te e fv c oB, ∀ p ∈ sub, q.1 ≠ p.1) (hV : ∀ p ∈ optLed w.params o dO q1 q2 q3 q4 q5 q6 q7 q8 qs x dx aF2 aB t1 t2 t3 te e fv c oB, p ∈ news)
    (hS : ∀ p ∈ sub, p ∈ news) (hW : (aW, listOf refs.toArray kw) ∈ sub) (hWs : Tups sub refs ws) (h6 : ws.length ≤ 6)
    (hd : dp + 110 < recursionLimit) (hu : un + 5000 < cLine)
    (ret : ∀ aR rv n' h' tk', IntsAre rv (firstF firsts bs e ws) → Fr h₀ L h' m → News h₀ L h' ((aR, listOf rv.toArray n') :: news) → (∀ q ∈ news, @Ne Nat q.1 aR) → Q (.ref aR) { s with heap := h', toks := tk' })
    : wpAny (model PySem.Challenge.rw_pq1297_01.row.prog w) (ktrTop dp un gd cn cs L a ccd cl outer) (call (.ref 125) [.ref aW, .ref o, .none]) Q E s :=
  wkey_spec B F X T hk (news_sub N offOf_sub) offOf_off (news_sub N hV) hR (fun p hp => (N p (hS p hp)).1) hSo hW hWs h6 hd hu fun aR rv n' h' tk' hI hV6 F' N1 N2 hf =>
    ret aR rv n' h' tk' hI F' (back_all (own := [(aR, listOf rv.toArray n')]) N hV N1 N2) (fresh_all N hV hV6 (hf _ (.head _)))
theorem cw_law
    (B : Below A₀ base outer h₀) (F : Fr h₀ L s.heap m) (X : (hd.heap_39 w.params).In h₀) (N : News h₀ L s.heap news) (T : Top p loose mean mg mb h₀) (hk : cs.kind = .function)
    (hR : ReoIs PySem.Challenge.rw_pq1297_01.row.prog w fv firsts oB bs aB) (hSo : ∀ q ∈ optLed w.params o dO q1 q2 q3 q4 q5 q6 q7 q8 qs x dx aF2 aB t1 t2 t3 te e fv c oB, ∀ p ∈ sub, q.1 ≠ p.1) (hV : ∀ p ∈ optLed w.params o dO q1 q2 q3 q4 q5 q6 q7 q8 qs x dx aF2 aB t1 t2 t3 te e fv c oB, p ∈ news)
    (hS : ∀ p ∈ sub, p ∈ news) (hW : (aW, listOf refs.toArray kw) ∈ sub) (hWs : Tups sub refs ws) (h6 : ws.length ≤ 6) (hW2 : (aW2, listOf refs2.toArray kw2) ∈ sub) (hWs2 : Tups sub refs2 ws2) (h62 : ws2.length ≤ 6)
    (hd : dp + 140 < recursionLimit) (hu : un + 7000 < cLine)
    (ret : ∀ t h' tk', Fr h₀ L h' m → News h₀ L h' news → Q (.int (cmpF (firstF firsts bs e ws) (firstF firsts bs e ws2)) t) { s with heap := h', toks := tk' })
    : wpAny (model PySem.Challenge.rw_pq1297_01.row.prog w) (ktrTop dp un gd cn cs L a ccd cl outer) (call (.ref 139) [.ref aW, .ref aW2, .ref o]) Q E s :=
  cw_spec B F X T hk (news_sub N offOf_sub) offOf_off (news_sub N hV) hR (fun p hp => (N p (hS p hp)).1) hSo hW hWs h6 hW2 hWs2 h62 hd hu fun t h' tk' F' N1 N2 hf => ret t h' tk' F' (offOf_back N hV N1 N2)
end
theorem eq_same {prog : Program} {w : World} {A : Around} {E : Value → Shared → Prop} {s : Shared} {a : Int} {t u : Tok} {Q : Value → Shared → Prop} (h : Q (.bool true) s) : wpAny (model prog w) A (compareOp .Eq (.int a t) (.int a u)) Q E s :=
  PyProof.Rows.eq_int (by rw [beq_self_eq_true]; exact h)
local macro_rules | `(tactic| walk_at "call builtin:len") => `(tactic| (k_here; (with_reducible show wpAny _ _ (call (Value.builtin _) [Value.ref _]) _ _ _); (with_unfolding_all refine' len_any ?k1 ?k2 ?k3 ?_; (case k1 => exact News.isList (by k_asm) (by k_mem)); (case k2 => exact Lots.length (by assumption)); (case k3 => omega); k_whole)))
local macro_rules | `(tactic| walk_at "subscriptTail") => `(tactic| (k_here; (with_reducible show wpAny _ _ (subscriptTail _ _ (Value.ref _) (Value.int 0 _)) _ _ _); k_dflt (refine' item_any ?a ?b ?c ?d ?_ ?s; (case a => assumption); (case b => decide); (case c => decide); (case d => assumption); (case s => with_unfolding_all rfl); k_whole)))
local macro_rules | `(tactic| walk_at "setItem ref int") => `(tactic| (k_here; k_dflt (refine' kda_set (knd := PySem.intKind _ _) ?F ?N ?U ?d (intKind_is _ _ _ _) ?z ?_; (case F => k_asm); (case N => k_asm); (case U => k_updF); (case d => k_asm); (case z => assumption)); intro h' o' F' N' hd'; (try dsimp only at N'); (try k_sweep)))
local macro_rules | `(tactic| walk_at "getItem ref int") => `(tactic| (k_here; k_dflt (refine' kdt_getItem (knd := PySem.intKind _ _) ?a ?b ?c (intKind_is _ _ _ _) ?d ?_; (case a => k_asm); (case b => k_mem); (case c => with_reducible assumption); (case d => with_reducible assumption))))
local macro_rules | `(tactic| walk_at "call builtin:list.index") => `(tactic| (k_here; (with_reducible show wpAny _ _ (call (Value.builtin _) [Value.ref _, Value.int _ _]) _ _ _); k_dflt (refine' index_ints ?N ?m ?i ?e ?z ?_; (case N => k_asm); (case m => k_mem); (case i => assumption); (case e => assumption); (case z => assumption))))
local macro_rules | `(tactic| walk_at "subscriptTail") => `(tactic| (k_here; (with_reducible show wpAny _ _ (subscriptTail _ _ (Value.ref _) (Value.int _ _)) _ _ _); k_dflt (refine' kdt_tail (knd := PySem.intKind _ _) ?a ?b ?c ?_; (case a => k_asm); (case b => k_mem); (case c => with_reducible assumption))))
local macro_rules | `(tactic| walk_at "compareOp NotEq int int") => `(tactic| (k_here; with_reducible refine ne_same ?_))
local macro_rules | `(tactic| walk_at "subscriptTail") => `(tactic| (k_here; (with_reducible show wpAny _ _ (subscriptTail _ _ (Value.ref _) (Value.int 0 _)) _ _ _); k_dflt (refine' tup_heap ?t ?_ ?s; (case t => assumption); (case s => with_unfolding_all rfl); k_whole)))
local macro_rules | `(tactic| walk_at "compareOp Lt ref") => `(tactic| (k_here; (with_reducible show wpAny _ _ (compareOp CmpOp.Lt (Value.ref _) (Value.ref _)) _ _ _); k_dflt (refine' lt_lists ?u ?N ?a ?b ?c ?d ?_; (case u => k_units); (case N => k_asm); (case a => k_mem); (case b => k_mem); (case c => assumption); (case d => assumption))))
local macro_rules | `(tactic| walk_at "compareOp Eq int int") => `(tactic| (k_here; with_reducible refine eq_same ?_))
def LawJ (prog : Program) (w : World) (f : Int → Int) (aM : Addr) (V : Led) (v1 v2 v3 v4 v5 v6 : Value) (i : Nat) (m : Str → Option Value) (nx : Led) : Prop :=
  ∃ oM kvs, nx = (aM, oM) :: V ∧ oM.IsDictOf (intKind prog w) kvs ∧ PairsAre kvs (fsIs f i) ∧ m "tape" = some v1 ∧ m "end" = some v2 ∧ m "told" = some v3 ∧ m "order" = some v4 ∧ m "firsts" = some v5 ∧ m "row" = some v6
theorem lawEnd {cl : Str → Option Addr} {mean : ExcName → Option Value} {args : List WData} {s₁ : Shared} {L : Addr} {h : Heap} {k : Nat} {m : Str → Option Value} {b : Bool}
    (F : Fr s₁.heap L h m) (hg : s₁.gens = #[]) (hb : b = true) : GoodW PySem.Challenge.rw_pq1297_01.row.claim cl mean args s₁ (.ok (.ret (.bool b))) { s₁ with heap := h, toks := k } := by
  subst hb
  exact goodW_bool F hg (raisesW_false (fun _ h => nomatch h)) (postW_of rfl (w_eq_bool (a := .res) (b := .lit (.bool true)) (w_res rfl) w_lit) rfl)
set_option linter.unusedSimpArgs false
set_option linter.unusedVariables false
set_option maxHeartbeats 16000000 in
theorem law_holdsE : PySem.Challenge.rw_pq1297_01.Holds := hd (by
  k_go0
  k_with_none
  k_with "call type:range" => (k_here; first | ((with_reducible show wpAny _ _ (call _ [Value.int _ _]) _ _ _); k_dflt (refine range1_rows (by k_asm) (by k_asm) ?_; intro h'9 tk'9 t1'9 u1'9 v1'9 R'9 F'9 N'9 _); (try k_sweep)) | ((with_reducible show wpAny _ _ (call _ [Value.int _ _, Value.int _ _]) _ _ _); k_dflt (refine range2_rows (by k_asm) (by k_asm) ?_; intro h'9 tk'9 t1'9 u1'9 v1'9 R'9 F'9 N'9 _); (try k_sweep)))
  k_with "call type:list" => (k_here; (with_reducible show wpAny _ _ (call (Value.type _) [Value.ref _]) _ _ _); k_dflt (refine' kll_range rfl ?k1 ?k2 ?k3 ?k4 (rangeSize_nat _ _) ?k6 ?_; (case k1 => k_asm); (case k2 => k_asm); (case k3 => with_reducible assumption); (case k4 => exact small_one (by omega) (by omega) (by omega) (by omega)); (case k6 => omega); k_whole); intro D'9 vs'9 c'9 h'9 tk'9 F'9 N'9 l19 hI'9; (try k_lt l19); (try k_sweep))
  rename_i h₁ tk₁ F0 o1 o2 left right N0 X0

  (repeat' ((fail_if_success (with_reducible show wpAny _ _ (call (Value.ref _) _ _) _ _ _)); (fail_if_success (with_reducible show wpAny _ _ (call (Value.builtin "sorted") _ _) _ _ _)); (fail_if_success (with_reducible show SrcK _ _ _ _ _ _ _ _ _ _ _ _ _ _)); (fail_if_success (with_reducible show wpAny _ _ (exec (Stmt.For _ _ _ _ _) _) _ _ _)); (fail_if_success (with_reducible show wpAny _ _ (pyIter _) _ _ _)); (fail_if_success (with_reducible show wpAny _ _ (eval (Expr.ListComp _ _ _ _) _) _ _ _)); (fail_if_success (with_reducible show wpAny _ _ (exec (Stmt.Assign _ (Expr.ListComp _ _ _ _) _) _) _ _ _)); (fail_if_success (with_reducible show LCg.CompSrc _ _ _ _ _ _ _ _ _ _ _ _ _ _)); (fail_if_success (with_reducible show LCt.CompSrcT _ _ _ _ _ _ _ _ _ _ _ _ _ _ _)); first | ((fail_if_success (fail_if_success k_unfold)); (show wpAny _ _ _ _ _ _); (try dsimp only)) | (k_unfold; (try dsimp only)) | ((first | (with_reducible show wpAny _ _ (exec _ _) _ _ _) | (with_reducible show wpAny _ _ (isTrue _ _) _ _ _) | (with_reducible show wpAny _ _ (eval (Expr.Call _ _ _ _) _) _ _ _) | (with_reducible show wpAny _ _ (eval (Expr.Compare _ _ _ _) _) _ _ _) | (with_reducible show wpAny _ _ (eval (Expr.Subscript _ _ _) _) _ _ _)); k_fold) | (k_end; wrow_close) | walk1 | (dsimp only; walk1) | (leave1; walk_say "STEP leave1"; try dsimp only) | fail "no step"))
  k_dflt (refine' tape_use ?k1 ?k2 ?k3 ?k4 ?k5 ?k6 ?k7 ?k8 ?k9 ?k12 ?k13 ?_; (case k1 => k_asm); (case k2 => k_asm); (case k3 => k_in); (case k4 => k_asm); (case k5 => k_asm); (case k6 => first | rfl | assumption); (case k7 => assumption); (case k8 => assumption); (case k9 => omega); (case k12 => ktr_room); (case k13 => ktr_units); k_whole)
  intro aT aC oT vT nT h tk hT hTC f1 f2 F1 N1
  try k_sweep
  dsimp only
  (repeat' ((fail_if_success (with_reducible show wpAny _ _ (call (Value.ref _) _ _) _ _ _)); (fail_if_success (with_reducible show wpAny _ _ (call (Value.builtin "sorted") _ _) _ _ _)); (fail_if_success (with_reducible show SrcK _ _ _ _ _ _ _ _ _ _ _ _ _ _)); (fail_if_success (with_reducible show wpAny _ _ (exec (Stmt.For _ _ _ _ _) _) _ _ _)); (fail_if_success (with_reducible show wpAny _ _ (pyIter _) _ _ _)); (fail_if_success (with_reducible show wpAny _ _ (eval (Expr.ListComp _ _ _ _) _) _ _ _)); (fail_if_success (with_reducible show wpAny _ _ (exec (Stmt.Assign _ (Expr.ListComp _ _ _ _) _) _) _ _ _)); (fail_if_success (with_reducible show LCg.CompSrc _ _ _ _ _ _ _ _ _ _ _ _ _ _)); (fail_if_success (with_reducible show LCt.CompSrcT _ _ _ _ _ _ _ _ _ _ _ _ _ _ _)); first | ((fail_if_success (fail_if_success k_unfold)); (show wpAny _ _ _ _ _ _); (try dsimp only)) | (k_unfold; (try dsimp only)) | ((first | (with_reducible show wpAny _ _ (exec _ _) _ _ _) | (with_reducible show wpAny _ _ (isTrue _ _) _ _ _) | (with_reducible show wpAny _ _ (eval (Expr.Call _ _ _ _) _) _ _ _) | (with_reducible show wpAny _ _ (eval (Expr.Compare _ _ _ _) _) _ _ _) | (with_reducible show wpAny _ _ (eval (Expr.Subscript _ _ _) _) _ _ _)); k_fold) | (k_end; wrow_close) | walk1 | (dsimp only; walk1) | (leave1; walk_say "STEP leave1"; try dsimp only) | fail "no step"))
  k_dflt (refine' lots_use ?k1 ?k2 ?k3 ?k4 ?k5 ?k6 ?k7 ?kp1 ?kp2 ?k8 ?k9 ?k10 ?k12 ?k13 ?_; (case k1 => k_asm); (case k2 => k_asm); (case k3 => k_in); (case k4 => k_asm); (case k5 => k_asm); (case k6 => first | rfl | assumption); (case k7 => assumption); (case kp1 => (repeat (first | with_reducible exact Pull.head | with_reducible apply Pull.tail))); (case kp2 => (repeat (first | with_reducible exact Pull.head | with_reducible apply Pull.tail))); (case k8 => k_ne); (case k9 => exact f1); (case k10 => exact f2); (case k12 => ktr_room); (case k13 => ktr_units); k_whole)
  intro aP aL refs kL subs lots a₀ v tv oT1 vT1 nT1 h1 tk1 b1 b2 hLO hl5 hLs hT1 f3 f4 f5 g1 g2 g3 g4 g5 g6 F2 N2
  simp only [List.cons_append, List.nil_append] at N2
  have s1 := f5 _ (.head _)
  have s2 := f5 _ (.tail _ (.head _))
  have tT := all_c (x := (aP, tupOf [.ref aL, .int v tv])) (P := fun q => @Ne Nat q.1 aT) g1 (all_c (x := (aL, listOf refs.toArray kL)) g3 (all_cat f1 g5))
  have tC := all_c (x := (aP, tupOf [.ref aL, .int v tv])) (P := fun q => @Ne Nat q.1 aC) g2 (all_c (x := (aL, listOf refs.toArray kL)) g4 (all_cat f2 g6))
  clear f5 g1 g2 g3 g4 g5 g6
  clear hT
  try k_sweep
  dsimp only
  (repeat' ((fail_if_success (with_reducible show wpAny _ _ (call (Value.ref _) _ _) _ _ _)); (fail_if_success (with_reducible show wpAny _ _ (call (Value.builtin "sorted") _ _) _ _ _)); (fail_if_success (with_reducible show SrcK _ _ _ _ _ _ _ _ _ _ _ _ _ _)); (fail_if_success (with_reducible show wpAny _ _ (exec (Stmt.For _ _ _ _ _) _) _ _ _)); (fail_if_success (with_reducible show wpAny _ _ (pyIter _) _ _ _)); (fail_if_success (with_reducible show wpAny _ _ (eval (Expr.ListComp _ _ _ _) _) _ _ _)); (fail_if_success (with_reducible show wpAny _ _ (exec (Stmt.Assign _ (Expr.ListComp _ _ _ _) _) _) _ _ _)); (fail_if_success (with_reducible show LCg.CompSrc _ _ _ _ _ _ _ _ _ _ _ _ _ _)); (fail_if_success (with_reducible show LCt.CompSrcT _ _ _ _ _ _ _ _ _ _ _ _ _ _ _)); first | ((fail_if_success (fail_if_success k_unfold)); (show wpAny _ _ _ _ _ _); (try dsimp only)) | (k_unfold; (try dsimp only)) | ((first | (with_reducible show wpAny _ _ (exec _ _) _ _ _) | (with_reducible show wpAny _ _ (isTrue _ _) _ _ _) | (with_reducible show wpAny _ _ (eval (Expr.Call _ _ _ _) _) _ _ _) | (with_reducible show wpAny _ _ (eval (Expr.Compare _ _ _ _) _) _ _ _) | (with_reducible show wpAny _ _ (eval (Expr.Subscript _ _ _) _) _ _ _)); k_fold) | (k_end; wrow_close) | walk1 | (dsimp only; walk1) | (leave1; walk_say "STEP leave1"; try dsimp only) | fail "no step"))
  (try ((with_reducible show wpAny _ _ _ _ _ _); k_fold))
  obtain ⟨m, F, m1, m2, m3⟩ : ∃ m, Fr _ _ _ m ∧ m "tape" = some (Value.ref aT) ∧ m "lots" = some (Value.ref aL) ∧ m "end" = some (Value.int v tv) := ⟨_, by assumption, by k_dflt exact rfl, by k_dflt exact rfl, by k_dflt exact rfl⟩
  have F3 := fr_kst0 [(_, _), (_, _), (_, _)] (kcons m1 (kcons m2 (kcons m3 (knil)))) F
  clear F m1 m2 m3
  dsimp only [kstB] at F3
  k_dflt (refine' order_use ?k1 ?k2 ?k3 ?k4 ?k5 ?k6 ?k7 ?kp1 ?kp2 ?k8 ?k9 ?k10 ?km0 ?km1 ?k12 ?k13 ?_; (case k1 => k_asm); (case k2 => k_asm); (case k3 => k_in); (case k4 => k_asm); (case k5 => k_asm); (case k6 => first | rfl | assumption); (case k7 => assumption); (case kp1 => (repeat (first | with_reducible exact Pull.head | with_reducible apply Pull.tail))); (case kp2 => (repeat (first | with_reducible exact Pull.head | with_reducible apply Pull.tail))); (case k8 => k_ne); (case k9 => exact tT); (case k10 => exact tC); (case km0 => omega); (case km1 => omega); (case k12 => ktr_room); (case k13 => ktr_units); k_whole)
  intro aO os nO order oT2 vT2 nT2 h2 tk2 hOI hO6 hT2 f6 g7 g8 F4 N4
  clear hT1
  try k_sweep
  dsimp only
  (repeat' ((fail_if_success (with_reducible show wpAny _ _ (call (Value.ref _) _ _) _ _ _)); (fail_if_success (with_reducible show wpAny _ _ (call (Value.builtin "sorted") _ _) _ _ _)); (fail_if_success (with_reducible show SrcK _ _ _ _ _ _ _ _ _ _ _ _ _ _)); (fail_if_success (with_reducible show wpAny _ _ (exec (Stmt.For _ _ _ _ _) _) _ _ _)); (fail_if_success (with_reducible show wpAny _ _ (pyIter _) _ _ _)); (fail_if_success (with_reducible show wpAny _ _ (eval (Expr.ListComp _ _ _ _) _) _ _ _)); (fail_if_success (with_reducible show wpAny _ _ (exec (Stmt.Assign _ (Expr.ListComp _ _ _ _) _) _) _ _ _)); (fail_if_success (with_reducible show LCg.CompSrc _ _ _ _ _ _ _ _ _ _ _ _ _ _)); (fail_if_success (with_reducible show LCt.CompSrcT _ _ _ _ _ _ _ _ _ _ _ _ _ _ _)); first | ((fail_if_success (fail_if_success k_unfold)); (show wpAny _ _ _ _ _ _); (try dsimp only)) | (k_unfold; (try dsimp only)) | ((first | (with_reducible show wpAny _ _ (exec _ _) _ _ _) | (with_reducible show wpAny _ _ (isTrue _ _) _ _ _) | (with_reducible show wpAny _ _ (eval (Expr.Call _ _ _ _) _) _ _ _) | (with_reducible show wpAny _ _ (eval (Expr.Compare _ _ _ _) _) _ _ _) | (with_reducible show wpAny _ _ (eval (Expr.Subscript _ _ _) _) _ _ _)); k_fold) | (k_end; wrow_close) | walk1 | (dsimp only; walk1) | (leave1; walk_say "STEP leave1"; try dsimp only) | fail "no step"))
  rename_i aTo cTo hTo FTo NTo lTo
  (try ((with_reducible show wpAny _ _ _ _ _ _); k_fold))
  k_dflt (refine LCg.ListComp_U (F₀ := by k_asm) (by with_unfolding_all rfl) (by decide) (by rfl) (by decide) (by rfl) ?_)
  (repeat' ((fail_if_success (with_reducible show wpAny _ _ (call (Value.ref _) _ _) _ _ _)); (fail_if_success (with_reducible show wpAny _ _ (call (Value.builtin "sorted") _ _) _ _ _)); (fail_if_success (with_reducible show SrcK _ _ _ _ _ _ _ _ _ _ _ _ _ _)); (fail_if_success (with_reducible show wpAny _ _ (exec (Stmt.For _ _ _ _ _) _) _ _ _)); (fail_if_success (with_reducible show wpAny _ _ (pyIter _) _ _ _)); (fail_if_success (with_reducible show wpAny _ _ (eval (Expr.ListComp _ _ _ _) _) _ _ _)); (fail_if_success (with_reducible show wpAny _ _ (exec (Stmt.Assign _ (Expr.ListComp _ _ _ _) _) _) _ _ _)); (fail_if_success (with_reducible show LCg.CompSrc _ _ _ _ _ _ _ _ _ _ _ _ _ _)); (fail_if_success (with_reducible show LCt.CompSrcT _ _ _ _ _ _ _ _ _ _ _ _ _ _ _)); first | ((fail_if_success (fail_if_success k_unfold)); (show wpAny _ _ _ _ _ _); (try dsimp only)) | (k_unfold; (try dsimp only)) | ((first | (with_reducible show wpAny _ _ (exec _ _) _ _ _) | (with_reducible show wpAny _ _ (isTrue _ _) _ _ _) | (with_reducible show wpAny _ _ (eval (Expr.Call _ _ _ _) _) _ _ _) | (with_reducible show wpAny _ _ (eval (Expr.Compare _ _ _ _) _) _ _ _) | (with_reducible show wpAny _ _ (eval (Expr.Subscript _ _ _) _) _ _ _)); k_fold) | (k_end; wrow_close) | walk1 | (dsimp only; walk1) | (leave1; walk_say "STEP leave1"; try dsimp only) | fail "no step"))
  k_dflt (refine' LCg.CompSrc.ledger rfl ?b1 ?b2 ?b3 ?b4 ?b5)
  case b1 => assumption
  case b2 => assumption
  case b3 => k_mem
  case b4 => rw [List.size_toArray, hLs.length, sizeLine_eq]; omega
  case b5 =>
    intro g9
    refine' comp_rest (FstJ lots _) _ ?step1 ?fin1 _ 0 [] _ (Nat.zero_add _) ⟨rfl, .nil⟩
    case step1 =>
      rintro i ys news hi hJ01 v' I oI C oC D m₂ h tk E' hv hC hx F N off ne
      (try ((with_reducible show wpAny _ _ _ _ _ _); k_fold))
      obtain ⟨rfl, hJ⟩ := hJ01
      obtain ⟨a', vs', n', l', rfl, hl', hm', hI'⟩ := hLs.at' hv
      obtain ⟨t', ht'⟩ := head_at hI' (hLO.all _ (List.mem_of_getElem? hl')).1
      have off1 := off
      simp only [LCg.Off3] at off1
      have hl9 := News.isList N (.tail _ (.tail _ (.tail _ (.tail _ (.tail _ (.tail _ (.tail _ (.tail _ (.tail _ (.tail _ (.tail _ hm')))))))))))
      dsimp only
      (repeat' ((fail_if_success (with_reducible show wpAny _ _ (call (Value.ref _) _ _) _ _ _)); (fail_if_success (with_reducible show wpAny _ _ (call (Value.builtin "sorted") _ _) _ _ _)); (fail_if_success (with_reducible show SrcK _ _ _ _ _ _ _ _ _ _ _ _ _ _)); (fail_if_success (with_reducible show wpAny _ _ (exec (Stmt.For _ _ _ _ _) _) _ _ _)); (fail_if_success (with_reducible show wpAny _ _ (pyIter _) _ _ _)); (fail_if_success (with_reducible show wpAny _ _ (eval (Expr.ListComp _ _ _ _) _) _ _ _)); (fail_if_success (with_reducible show wpAny _ _ (exec (Stmt.Assign _ (Expr.ListComp _ _ _ _) _) _) _ _ _)); (fail_if_success (with_reducible show LCg.CompSrc _ _ _ _ _ _ _ _ _ _ _ _ _ _)); (fail_if_success (with_reducible show LCt.CompSrcT _ _ _ _ _ _ _ _ _ _ _ _ _ _ _)); first | ((fail_if_success (fail_if_success k_unfold)); (show wpAny _ _ _ _ _ _); (try dsimp only)) | (k_unfold; (try dsimp only)) | ((first | (with_reducible show wpAny _ _ (exec _ _) _ _ _) | (with_reducible show wpAny _ _ (isTrue _ _) _ _ _) | (with_reducible show wpAny _ _ (eval (Expr.Call _ _ _ _) _) _ _ _) | (with_reducible show wpAny _ _ (eval (Expr.Compare _ _ _ _) _) _ _ _) | (with_reducible show wpAny _ _ (eval (Expr.Subscript _ _ _) _) _ _ _)); k_fold) | (k_end; wrow_close) | walk1 | (dsimp only; walk1) | (leave1; walk_say "STEP leave1"; try dsimp only) | fail "no step"))
      refine' LCg.CompEnd.intro ?y1 ?y2 _ ?y3 off ?y4 (FstJ.snoc hJ hl')
      case y1 => assumption
      case y2 => assumption
      case y3 => exact fun p hp => hp
      case y4 => exact .inr ⟨_, by k_mem, rfl, _, rfl⟩
    case fin1 =>
      rintro ys news hJ02
      (try ((with_reducible show wpAny _ _ _ _ _ _); k_fold))
      obtain ⟨rfl, hJ⟩ := hJ02
      intro D h3 tk3 F N q1
      have hFI := fst_of hLs.length hJ
      have q2 := Off1.all q1
      clear q1
      have hF5 : (firstsOf lots).length ≤ 5 := by rw [firstsOf_len]; exact hl5
      have hys : ys.length ≤ 5 := by rw [hFI.length]; exact hF5
      have N5 := news_sub N (b := (D, listOf ys.toArray ys.length) :: _) (fun p hp => hp)
      clear hJ N
      dsimp only
      (repeat' ((fail_if_success (with_reducible show wpAny _ _ (call (Value.ref _) _ _) _ _ _)); (fail_if_success (with_reducible show wpAny _ _ (call (Value.builtin "sorted") _ _) _ _ _)); (fail_if_success (with_reducible show SrcK _ _ _ _ _ _ _ _ _ _ _ _ _ _)); (fail_if_success (with_reducible show wpAny _ _ (exec (Stmt.For _ _ _ _ _) _) _ _ _)); (fail_if_success (with_reducible show wpAny _ _ (pyIter _) _ _ _)); (fail_if_success (with_reducible show wpAny _ _ (eval (Expr.ListComp _ _ _ _) _) _ _ _)); (fail_if_success (with_reducible show wpAny _ _ (exec (Stmt.Assign _ (Expr.ListComp _ _ _ _) _) _) _ _ _)); (fail_if_success (with_reducible show LCg.CompSrc _ _ _ _ _ _ _ _ _ _ _ _ _ _)); (fail_if_success (with_reducible show LCt.CompSrcT _ _ _ _ _ _ _ _ _ _ _ _ _ _ _)); first | ((fail_if_success (fail_if_success k_unfold)); (show wpAny _ _ _ _ _ _); (try dsimp only)) | (k_unfold; (try dsimp only)) | ((first | (with_reducible show wpAny _ _ (exec _ _) _ _ _) | (with_reducible show wpAny _ _ (isTrue _ _) _ _ _) | (with_reducible show wpAny _ _ (eval (Expr.Call _ _ _ _) _) _ _ _) | (with_reducible show wpAny _ _ (eval (Expr.Compare _ _ _ _) _) _ _ _) | (with_reducible show wpAny _ _ (eval (Expr.Subscript _ _ _) _) _ _ _)); k_fold) | (k_end; wrow_close) | walk1 | (dsimp only; walk1) | (leave1; walk_say "STEP leave1"; try dsimp only) | fail "no step"))
      k_dflt (refine' init_use ?k1 ?k2 ?k3 ?k4 ?k5 ?k6 ?i1 ?i2 ?i3 ?i4 ?i5 ?i6 ?k12 ?k13 ?_; (case k1 => k_asm); (case k2 => k_asm); (case k3 => k_in); (case k4 => k_asm); (case k5 => k_asm); (case k6 => first | rfl | assumption); (case i1 => k_mem); (case i3 => k_mem); (case i2 => exact hFI); (case i4 => exact hOI); (case i5 => exact hF5); (case i6 => exact hO6); (case k12 => ktr_room); (case k13 => ktr_units); k_whole)
      intro x dx aF2 aB oB kvs c t1 t2 t3 h4 tk4 hD2 hP2 hlo f10 f11 f12 f13 F6 N6
      try k_sweep
      dsimp only
      (repeat' ((fail_if_success (with_reducible show wpAny _ _ (call (Value.ref _) _ _) _ _ _)); (fail_if_success (with_reducible show wpAny _ _ (call (Value.builtin "sorted") _ _) _ _ _)); (fail_if_success (with_reducible show SrcK _ _ _ _ _ _ _ _ _ _ _ _ _ _)); (fail_if_success (with_reducible show wpAny _ _ (exec (Stmt.For _ _ _ _ _) _) _ _ _)); (fail_if_success (with_reducible show wpAny _ _ (pyIter _) _ _ _)); (fail_if_success (with_reducible show wpAny _ _ (eval (Expr.ListComp _ _ _ _) _) _ _ _)); (fail_if_success (with_reducible show wpAny _ _ (exec (Stmt.Assign _ (Expr.ListComp _ _ _ _) _) _) _ _ _)); (fail_if_success (with_reducible show LCg.CompSrc _ _ _ _ _ _ _ _ _ _ _ _ _ _)); (fail_if_success (with_reducible show LCt.CompSrcT _ _ _ _ _ _ _ _ _ _ _ _ _ _ _)); first | ((fail_if_success (fail_if_success k_unfold)); (show wpAny _ _ _ _ _ _); (try dsimp only)) | (k_unfold; (try dsimp only)) | ((first | (with_reducible show wpAny _ _ (exec _ _) _ _ _) | (with_reducible show wpAny _ _ (isTrue _ _) _ _ _) | (with_reducible show wpAny _ _ (eval (Expr.Call _ _ _ _) _) _ _ _) | (with_reducible show wpAny _ _ (eval (Expr.Compare _ _ _ _) _) _ _ _) | (with_reducible show wpAny _ _ (eval (Expr.Subscript _ _ _) _) _ _ _)); k_fold) | (k_end; wrow_close) | walk1 | (dsimp only; walk1) | (leave1; walk_say "STEP leave1"; try dsimp only) | fail "no step"))
      k_dflt (refine' row_use ?k1 ?k2 ?k3 ?k4 ?k5 ?k6 ?i1 ?i2 ?i3 ?i4 ?i5 ?i6 ?i7 ?k12 ?k13 ?_; (case k1 => k_asm); (case k2 => k_asm); (case k3 => k_in); (case k4 => k_asm); (case k5 => k_asm); (case k6 => first | rfl | assumption); (case i1 => k_mem); (case i3 => k_mem); (case i2 => refine hLs.mono fun p hp => ?_; (iterate 15 apply List.Mem.tail); exact hp); (case i4 => exact hOI); (case i5 => exact hl5); (case i6 => exact hO6); (case i7 => exact fun l hl => (hLO.all l hl).2); (case k12 => ktr_room); (case k13 => ktr_units); k_whole)
      intro aRow rv nR h5 tk5 hRI f14 F7 N7
      try k_sweep
      dsimp only
      refine' with_cells o1 o2 N7 ?wcP ?wcQ ?wcH ?wcI ?wcK
      case wcP => (repeat (first | with_reducible exact Pull.head | with_reducible apply Pull.tail))
      case wcQ => (repeat (first | with_reducible exact Pull.head | with_reducible apply Pull.tail))
      case wcH =>
        repeat' (first | refine all_c ?_ ?_ | exact s1 | exact s2)
        all_goals first | exact Ne.symm (f14 (_, o1) (by k_mem)) | exact Ne.symm (f13 (_, o1) (by k_mem)) | exact Ne.symm (f12 (_, o1) (by k_mem)) | exact Ne.symm (f11 (_, o1) (by k_mem)) | exact Ne.symm (f10 (_, o1) (by k_mem)) | k_ne | exact Ne.symm (f6 (_, o1) (by k_mem)) | exact Ne.symm (f1 (_, o1) (by k_mem)) | exact Ne.symm (f2 (_, o1) (by k_mem)) | exact Ne.symm (f3 (_, o1) (by k_mem)) | exact Ne.symm (f4 (_, o1) (by k_mem)) | exact Ne.symm (q2 (_, o1) (by k_mem))
      case wcI =>
        repeat' (first | refine all_c ?_ ?_ | exact s1 | exact s2)
        all_goals first | exact Ne.symm (f14 (_, o2) (by k_mem)) | exact Ne.symm (f13 (_, o2) (by k_mem)) | exact Ne.symm (f12 (_, o2) (by k_mem)) | exact Ne.symm (f11 (_, o2) (by k_mem)) | exact Ne.symm (f10 (_, o2) (by k_mem)) | k_ne | exact Ne.symm (f6 (_, o2) (by k_mem)) | exact Ne.symm (f1 (_, o2) (by k_mem)) | exact Ne.symm (f2 (_, o2) (by k_mem)) | exact Ne.symm (f3 (_, o2) (by k_mem)) | exact Ne.symm (f4 (_, o2) (by k_mem)) | exact Ne.symm (q2 (_, o2) (by k_mem))
      intro N8 w1 w2
      clear N7
      (repeat' ((fail_if_success (with_reducible show wpAny _ _ (call (Value.ref _) _ _) _ _ _)); (fail_if_success (with_reducible show wpAny _ _ (call (Value.builtin "sorted") _ _) _ _ _)); (fail_if_success (with_reducible show SrcK _ _ _ _ _ _ _ _ _ _ _ _ _ _)); (fail_if_success (with_reducible show wpAny _ _ (exec (Stmt.For _ _ _ _ _) _) _ _ _)); (fail_if_success (with_reducible show wpAny _ _ (pyIter _) _ _ _)); (fail_if_success (with_reducible show wpAny _ _ (eval (Expr.ListComp _ _ _ _) _) _ _ _)); (fail_if_success (with_reducible show wpAny _ _ (exec (Stmt.Assign _ (Expr.ListComp _ _ _ _) _) _) _ _ _)); (fail_if_success (with_reducible show LCg.CompSrc _ _ _ _ _ _ _ _ _ _ _ _ _ _)); (fail_if_success (with_reducible show LCt.CompSrcT _ _ _ _ _ _ _ _ _ _ _ _ _ _ _)); first | ((fail_if_success (fail_if_success k_unfold)); (show wpAny _ _ _ _ _ _); (try dsimp only)) | (k_unfold; (try dsimp only)) | ((first | (with_reducible show wpAny _ _ (exec _ _) _ _ _) | (with_reducible show wpAny _ _ (isTrue _ _) _ _ _) | (with_reducible show wpAny _ _ (eval (Expr.Call _ _ _ _) _) _ _ _) | (with_reducible show wpAny _ _ (eval (Expr.Compare _ _ _ _) _) _ _ _) | (with_reducible show wpAny _ _ (eval (Expr.Subscript _ _ _) _) _ _ _)); k_fold) | (k_end; wrow_close) | walk1 | (dsimp only; walk1) | (leave1; walk_say "STEP leave1"; try dsimp only) | fail "no step"))
      rename_i aTu hTu lTu hz1 hz2 oI dI hz3 Fz Nz aM hM oM loM hsM fsM hiM fiM lM hC oC2 FC NC dC
      clear Fz Nz lTu w1 w2
      have hve := hLO.bounds
      have hv1 : 2 ≤ v := by omega
      have hv2 : v ≤ 36 := by omega
      clear hve b2
      have hN4 : ∀ z : Int, z < v + 3 → z < (((v + 4 - 0).toNat : Nat) : Int) := fun z hz => by omega
      have hRe : ReoIs PySem.Challenge.rw_pq1297_01.row.prog _ ys (firstsOf lots) oB (initF (firstsOf lots) order v) aB := ⟨hFI, ⟨kvs, hD2, hP2⟩, plain_all hLO, plain_keys hLO, hlo, hF5⟩
      refine' with_loop [(_, oC2), (_, oI), (aRow, listOf rv.toArray nR), (x, instObj 76 dx), (dx, reoDict _ t1 t2 t3 tv aF2 aB v), (aF2, listOf ys.toArray c), (aB, oB), (D, listOf ys.toArray ys.length), (aTo, listOf os.toArray cTo), (aO, listOf os.toArray nO)] (aM := aM) (oM := oM) (aT := aT) (oT := oT2) (aC := aC) (oC := listOf vT2.toArray nT2) NC ?vcS ?vcM ?vcT ?vcC ?vcK
      case vcS => lcg_sub
      case vcM => (repeat' (first | refine all_c ?_ ?_ | exact List.forall_mem_nil _)); all_goals k_ne
      case vcT =>
        repeat' (first | refine all_c ?_ ?_ | exact List.forall_mem_nil _)
        all_goals first | exact Ne.symm (f14 (_, oT2) (by k_mem)) | exact Ne.symm (f13 (_, oT2) (by k_mem)) | exact Ne.symm (f12 (_, oT2) (by k_mem)) | exact Ne.symm (f11 (_, oT2) (by k_mem)) | exact Ne.symm (f10 (_, oT2) (by k_mem)) | exact f1 (_, o1) (by k_mem) | exact f1 (_, o2) (by k_mem) | exact Ne.symm (q2 (_, oT2) (by k_mem)) | k_ne
      case vcC =>
        repeat' (first | refine all_c ?_ ?_ | exact List.forall_mem_nil _)
        all_goals first | exact Ne.symm (f14 (_, listOf vT2.toArray nT2) (by k_mem)) | exact Ne.symm (f13 (_, listOf vT2.toArray nT2) (by k_mem)) | exact Ne.symm (f12 (_, listOf vT2.toArray nT2) (by k_mem)) | exact Ne.symm (f11 (_, listOf vT2.toArray nT2) (by k_mem)) | exact Ne.symm (f10 (_, listOf vT2.toArray nT2) (by k_mem)) | exact f2 (_, o1) (by k_mem) | exact f2 (_, o2) (by k_mem) | exact Ne.symm (q2 (_, listOf vT2.toArray nT2) (by k_mem)) | k_ne
      intro NV wM wT wC
      have hTM : @Ne Nat aT aM := by k_ne
      have hCM : @Ne Nat aC aM := by k_ne
      clear NC f10 f11 f12 f13 f14 lM f1 f2 f3 f4 f6 q2 s1 s2 hLs
      (try ((with_reducible show wpAny _ _ _ _ _ _); k_fold))
      (rename Fr _ _ _ _ => lF'); k_dflt (refine' For_invVF lF' ?k1 ?k2 ?_; (case k1 => exact rfl); (case k2 => exact rfl); k_whole)
      (repeat' ((fail_if_success (with_reducible show wpAny _ _ (call (Value.ref _) _ _) _ _ _)); (fail_if_success (with_reducible show wpAny _ _ (call (Value.builtin "sorted") _ _) _ _ _)); (fail_if_success (with_reducible show SrcK _ _ _ _ _ _ _ _ _ _ _ _ _ _)); (fail_if_success (with_reducible show wpAny _ _ (exec (Stmt.For _ _ _ _ _) _) _ _ _)); (fail_if_success (with_reducible show wpAny _ _ (pyIter _) _ _ _)); (fail_if_success (with_reducible show wpAny _ _ (eval (Expr.ListComp _ _ _ _) _) _ _ _)); (fail_if_success (with_reducible show wpAny _ _ (exec (Stmt.Assign _ (Expr.ListComp _ _ _ _) _) _) _ _ _)); (fail_if_success (with_reducible show LCg.CompSrc _ _ _ _ _ _ _ _ _ _ _ _ _ _)); (fail_if_success (with_reducible show LCt.CompSrcT _ _ _ _ _ _ _ _ _ _ _ _ _ _ _)); first | ((fail_if_success (fail_if_success k_unfold)); (show wpAny _ _ _ _ _ _); (try dsimp only)) | (k_unfold; (try dsimp only)) | ((first | (with_reducible show wpAny _ _ (exec _ _) _ _ _) | (with_reducible show wpAny _ _ (isTrue _ _) _ _ _) | (with_reducible show wpAny _ _ (eval (Expr.Call _ _ _ _) _) _ _ _) | (with_reducible show wpAny _ _ (eval (Expr.Compare _ _ _ _) _) _ _ _) | (with_reducible show wpAny _ _ (eval (Expr.Subscript _ _ _) _) _ _ _)); k_fold) | (k_end; wrow_close) | walk1 | (dsimp only; walk1) | (leave1; walk_say "STEP leave1"; try dsimp only) | fail "no step"))
      refine' range_loop (LawJ PySem.Challenge.rw_pq1297_01.row.prog _ (lawMv lots order) aM ((aT, oT2) :: (aC, listOf vT2.toArray nT2) :: [(_, oC2), (_, oI), (aRow, listOf rv.toArray nR), (x, instObj 76 dx), (dx, reoDict _ t1 t2 t3 tv aF2 aB v), (aF2, listOf ys.toArray c), (aB, oB), (D, listOf ys.toArray ys.length), (aTo, listOf os.toArray cTo), (aO, listOf os.toArray nO)]) (.ref aT) (.int v tv) (.ref aTo) (.ref aO) (.ref D) (.ref aRow)) ?a1 ?a2 ?a3 (rangeSize_nat _ _) ?a5 ?a6 ?j0 ?turn ?done
      case a1 => exact rfl
      case a2 => assumption
      case a3 => exact small_one (by omega) (by omega) (by omega) (by omega)
      case a5 => assumption
      case' j0 => refine' ⟨oM, [], rfl, hiM, .nil, ?jm1, ?jm2, ?jm3, ?jm4, ?jm5, ?jm6⟩
      case jm1 => k_dflt exact rfl
      case jm2 => k_dflt exact rfl
      case jm3 => k_dflt exact rfl
      case jm4 => k_dflt exact rfl
      case jm5 => k_dflt exact rfl
      case jm6 => k_dflt exact rfl
      case a6 => assumption
      case turn =>
        rintro i ti m₁ nx h tk own hi hoff hJ03 F N
        (try ((with_reducible show wpAny _ _ _ _ _ _); k_fold))
        obtain ⟨oM, kvs, rfl, hDi, hPi, m1, m2, m3, m4, m5, m6⟩ := hJ03
        have wO := hoff.ne (.head _)
        have F1 := fr_kst [(_, _), (_, _), (_, _), (_, _), (_, _), (_, _)] (kcons m1 (kcons m2 (kcons m3 (kcons m4 (kcons m5 (kcons m6 (knil))))))) F
        have wA := all_c (x := (aT, oT2)) (P := fun q => @Ne Nat q.1 aM) hTM (all_c (x := (aC, listOf vT2.toArray nT2)) hCM (all_cat wM wO))
        have N1 := N
        simp only [List.cons_append, List.nil_append] at wA N1
        clear F N
        dsimp only [kstB] at F1
        dsimp only
        have hnone := fsIs_none hPi
        have hz : kvs.length ≤ sizeLine := by rw [hPi.length, sizeLine_eq]; simp only [fsIs, List.length_map, List.length_range]; omega
        have hRlen : (rowF lots order).length ≤ 1000 := Nat.le_trans (plain_len hLO hl5) (by decide)
        iterate 10 (first | walk1 | (dsimp only; walk1))
        · rename (_ = true) => hin
          have hmem := any_eq_true hin
          (try ((with_reducible show wpAny _ _ _ _ _ _); k_fold))
          obtain ⟨tH, hH⟩ := head_at hFI (plain_pos hmem)
          have hlD := News.isList (a := D) N1 (by k_mem)
          (repeat' ((fail_if_success (with_reducible show wpAny _ _ (call (Value.ref _) _ _) _ _ _)); (fail_if_success (with_reducible show wpAny _ _ (call (Value.builtin "sorted") _ _) _ _ _)); (fail_if_success (with_reducible show SrcK _ _ _ _ _ _ _ _ _ _ _ _ _ _)); (fail_if_success (with_reducible show wpAny _ _ (exec (Stmt.For _ _ _ _ _) _) _ _ _)); (fail_if_success (with_reducible show wpAny _ _ (pyIter _) _ _ _)); (fail_if_success (with_reducible show wpAny _ _ (eval (Expr.ListComp _ _ _ _) _) _ _ _)); (fail_if_success (with_reducible show wpAny _ _ (exec (Stmt.Assign _ (Expr.ListComp _ _ _ _) _) _) _ _ _)); (fail_if_success (with_reducible show LCg.CompSrc _ _ _ _ _ _ _ _ _ _ _ _ _ _)); (fail_if_success (with_reducible show LCt.CompSrcT _ _ _ _ _ _ _ _ _ _ _ _ _ _ _)); first | ((fail_if_success (fail_if_success k_unfold)); (show wpAny _ _ _ _ _ _); (try dsimp only)) | (k_unfold; (try dsimp only)) | ((first | (with_reducible show wpAny _ _ (exec _ _) _ _ _) | (with_reducible show wpAny _ _ (isTrue _ _) _ _ _) | (with_reducible show wpAny _ _ (eval (Expr.Call _ _ _ _) _) _ _ _) | (with_reducible show wpAny _ _ (eval (Expr.Compare _ _ _ _) _) _ _ _) | (with_reducible show wpAny _ _ (eval (Expr.Subscript _ _ _) _) _ _ _)); k_fold) | (k_end; wrow_close) | walk1 | (dsimp only; walk1) | (leave1; walk_say "STEP leave1"; try dsimp only) | fail "no step"))
          have hval : (firstsOf lots).getD 0 0 + ((rowF lots order).idxOf (0 + (i : Int)) : Int) = lawMv lots order (0 + (i : Int)) := by rw [lawMv, if_pos hmem]
          (try ((with_reducible show wpAny _ _ _ _ _ _); k_fold))
          obtain ⟨hdT, hvS⟩ := stored_both (by assumption) hnone hval
          (rename Obj.IsDictOf _ _ (stored _ _ _) => hdS); clear hdS
          k_dflt (refine' moved_use ?u1 ?u2 ?u3 ?u4 ?u5 ?u6 ?u7 ?u8 ?u9 ?u10 ?_; (case u1 => k_asm); (case u2 => k_asm); (case u3 => k_in); (case u4 => k_asm); (case u5 => k_asm); (case u6 => first | rfl | assumption); (case u7 => exact hRe); (case u8 => lcg_sub); (case u9 => ktr_room); (case u10 => ktr_units); k_whole)
          intro tA hA tkA FA NA
          rw [plain_moved hLO]
          try k_sweep
          dsimp only at FA NA ⊢
          (repeat' ((fail_if_success (with_reducible show wpAny _ _ (call (Value.ref _) _ _) _ _ _)); (fail_if_success (with_reducible show wpAny _ _ (call (Value.builtin "sorted") _ _) _ _ _)); (fail_if_success (with_reducible show SrcK _ _ _ _ _ _ _ _ _ _ _ _ _ _)); (fail_if_success (with_reducible show wpAny _ _ (exec (Stmt.For _ _ _ _ _) _) _ _ _)); (fail_if_success (with_reducible show wpAny _ _ (pyIter _) _ _ _)); (fail_if_success (with_reducible show wpAny _ _ (eval (Expr.ListComp _ _ _ _) _) _ _ _)); (fail_if_success (with_reducible show wpAny _ _ (exec (Stmt.Assign _ (Expr.ListComp _ _ _ _) _) _) _ _ _)); (fail_if_success (with_reducible show LCg.CompSrc _ _ _ _ _ _ _ _ _ _ _ _ _ _)); (fail_if_success (with_reducible show LCt.CompSrcT _ _ _ _ _ _ _ _ _ _ _ _ _ _ _)); first | ((fail_if_success (fail_if_success k_unfold)); (show wpAny _ _ _ _ _ _); (try dsimp only)) | (k_unfold; (try dsimp only)) | ((first | (with_reducible show wpAny _ _ (exec _ _) _ _ _) | (with_reducible show wpAny _ _ (isTrue _ _) _ _ _) | (with_reducible show wpAny _ _ (eval (Expr.Call _ _ _ _) _) _ _ _) | (with_reducible show wpAny _ _ (eval (Expr.Compare _ _ _ _) _) _ _ _) | (with_reducible show wpAny _ _ (eval (Expr.Subscript _ _ _) _) _ _ _)); k_fold) | (k_end; wrow_close) | walk1 | (dsimp only; walk1) | (leave1; walk_say "STEP leave1"; try dsimp only) | fail "no step"))
          k_dflt (refine' unmoved_use ?u1 ?u2 ?u3 ?u4 ?u5 ?u6 ?u7 ?u8 ?u9 ?u10 ?_; (case u1 => k_asm); (case u2 => k_asm); (case u3 => k_in); (case u4 => k_asm); (case u5 => k_asm); (case u6 => first | rfl | assumption); (case u7 => exact hRe); (case u8 => lcg_sub); (case u9 => ktr_room); (case u10 => ktr_units); k_whole)
          intro tB hB tkB FB NB
          rw [plain_unmoved hLO]
          try k_sweep
          dsimp only at FB NB ⊢
          (repeat' ((fail_if_success (with_reducible show wpAny _ _ (call (Value.ref _) _ _) _ _ _)); (fail_if_success (with_reducible show wpAny _ _ (call (Value.builtin "sorted") _ _) _ _ _)); (fail_if_success (with_reducible show SrcK _ _ _ _ _ _ _ _ _ _ _ _ _ _)); (fail_if_success (with_reducible show wpAny _ _ (exec (Stmt.For _ _ _ _ _) _) _ _ _)); (fail_if_success (with_reducible show wpAny _ _ (pyIter _) _ _ _)); (fail_if_success (with_reducible show wpAny _ _ (eval (Expr.ListComp _ _ _ _) _) _ _ _)); (fail_if_success (with_reducible show wpAny _ _ (exec (Stmt.Assign _ (Expr.ListComp _ _ _ _) _) _) _ _ _)); (fail_if_success (with_reducible show LCg.CompSrc _ _ _ _ _ _ _ _ _ _ _ _ _ _)); (fail_if_success (with_reducible show LCt.CompSrcT _ _ _ _ _ _ _ _ _ _ _ _ _ _ _)); first | ((fail_if_success (fail_if_success k_unfold)); (show wpAny _ _ _ _ _ _); (try dsimp only)) | (k_unfold; (try dsimp only)) | ((first | (with_reducible show wpAny _ _ (exec _ _) _ _ _) | (with_reducible show wpAny _ _ (isTrue _ _) _ _ _) | (with_reducible show wpAny _ _ (eval (Expr.Call _ _ _ _) _) _ _ _) | (with_reducible show wpAny _ _ (eval (Expr.Compare _ _ _ _) _) _ _ _) | (with_reducible show wpAny _ _ (eval (Expr.Subscript _ _ _) _) _ _ _)); k_fold) | (k_end; wrow_close) | walk1 | (dsimp only; walk1) | (leave1; walk_say "STEP leave1"; try dsimp only) | fail "no step"))
          refine' law_end ?v1 ?v2 ?v3 hdT (fsIs_snoc hPi) ?v4 ?v5 ?v6 ?v7 ?v8 ?v9 hoff
          case v1 => assumption
          case v2 => assumption
          case v3 => exact fun p hp => hp
          case v4 => k_dflt exact rfl
          case v5 => k_dflt exact rfl
          case v6 => k_dflt exact rfl
          case v7 => k_dflt exact rfl
          case v8 => k_dflt exact rfl
          case v9 => k_dflt exact rfl
        · rename (_ = false) => hin
          have hmem := any_eq_false hin
          (repeat' ((fail_if_success (with_reducible show wpAny _ _ (call (Value.ref _) _ _) _ _ _)); (fail_if_success (with_reducible show wpAny _ _ (call (Value.builtin "sorted") _ _) _ _ _)); (fail_if_success (with_reducible show SrcK _ _ _ _ _ _ _ _ _ _ _ _ _ _)); (fail_if_success (with_reducible show wpAny _ _ (exec (Stmt.For _ _ _ _ _) _) _ _ _)); (fail_if_success (with_reducible show wpAny _ _ (pyIter _) _ _ _)); (fail_if_success (with_reducible show wpAny _ _ (eval (Expr.ListComp _ _ _ _) _) _ _ _)); (fail_if_success (with_reducible show wpAny _ _ (exec (Stmt.Assign _ (Expr.ListComp _ _ _ _) _) _) _ _ _)); (fail_if_success (with_reducible show LCg.CompSrc _ _ _ _ _ _ _ _ _ _ _ _ _ _)); (fail_if_success (with_reducible show LCt.CompSrcT _ _ _ _ _ _ _ _ _ _ _ _ _ _ _)); first | ((fail_if_success (fail_if_success k_unfold)); (show wpAny _ _ _ _ _ _); (try dsimp only)) | (k_unfold; (try dsimp only)) | ((first | (with_reducible show wpAny _ _ (exec _ _) _ _ _) | (with_reducible show wpAny _ _ (isTrue _ _) _ _ _) | (with_reducible show wpAny _ _ (eval (Expr.Call _ _ _ _) _) _ _ _) | (with_reducible show wpAny _ _ (eval (Expr.Compare _ _ _ _) _) _ _ _) | (with_reducible show wpAny _ _ (eval (Expr.Subscript _ _ _) _) _ _ _)); k_fold) | (k_end; wrow_close) | walk1 | (dsimp only; walk1) | (leave1; walk_say "STEP leave1"; try dsimp only) | fail "no step"))
          have hval : 0 + (i : Int) = lawMv lots order (0 + (i : Int)) := by rw [lawMv, if_neg hmem]
          (try ((with_reducible show wpAny _ _ _ _ _ _); k_fold))
          obtain ⟨hdT, hvS⟩ := stored_both (by assumption) hnone hval
          (rename Obj.IsDictOf _ _ (stored _ _ _) => hdS); clear hdS
          k_dflt (refine' moved_use ?u1 ?u2 ?u3 ?u4 ?u5 ?u6 ?u7 ?u8 ?u9 ?u10 ?_; (case u1 => k_asm); (case u2 => k_asm); (case u3 => k_in); (case u4 => k_asm); (case u5 => k_asm); (case u6 => first | rfl | assumption); (case u7 => exact hRe); (case u8 => lcg_sub); (case u9 => ktr_room); (case u10 => ktr_units); k_whole)
          intro tA hA tkA FA NA
          rw [plain_moved hLO]
          try k_sweep
          dsimp only at FA NA ⊢
          (repeat' ((fail_if_success (with_reducible show wpAny _ _ (call (Value.ref _) _ _) _ _ _)); (fail_if_success (with_reducible show wpAny _ _ (call (Value.builtin "sorted") _ _) _ _ _)); (fail_if_success (with_reducible show SrcK _ _ _ _ _ _ _ _ _ _ _ _ _ _)); (fail_if_success (with_reducible show wpAny _ _ (exec (Stmt.For _ _ _ _ _) _) _ _ _)); (fail_if_success (with_reducible show wpAny _ _ (pyIter _) _ _ _)); (fail_if_success (with_reducible show wpAny _ _ (eval (Expr.ListComp _ _ _ _) _) _ _ _)); (fail_if_success (with_reducible show wpAny _ _ (exec (Stmt.Assign _ (Expr.ListComp _ _ _ _) _) _) _ _ _)); (fail_if_success (with_reducible show LCg.CompSrc _ _ _ _ _ _ _ _ _ _ _ _ _ _)); (fail_if_success (with_reducible show LCt.CompSrcT _ _ _ _ _ _ _ _ _ _ _ _ _ _ _)); first | ((fail_if_success (fail_if_success k_unfold)); (show wpAny _ _ _ _ _ _); (try dsimp only)) | (k_unfold; (try dsimp only)) | ((first | (with_reducible show wpAny _ _ (exec _ _) _ _ _) | (with_reducible show wpAny _ _ (isTrue _ _) _ _ _) | (with_reducible show wpAny _ _ (eval (Expr.Call _ _ _ _) _) _ _ _) | (with_reducible show wpAny _ _ (eval (Expr.Compare _ _ _ _) _) _ _ _) | (with_reducible show wpAny _ _ (eval (Expr.Subscript _ _ _) _) _ _ _)); k_fold) | (k_end; wrow_close) | walk1 | (dsimp only; walk1) | (leave1; walk_say "STEP leave1"; try dsimp only) | fail "no step"))
          k_dflt (refine' unmoved_use ?u1 ?u2 ?u3 ?u4 ?u5 ?u6 ?u7 ?u8 ?u9 ?u10 ?_; (case u1 => k_asm); (case u2 => k_asm); (case u3 => k_in); (case u4 => k_asm); (case u5 => k_asm); (case u6 => first | rfl | assumption); (case u7 => exact hRe); (case u8 => lcg_sub); (case u9 => ktr_room); (case u10 => ktr_units); k_whole)
          intro tB hB tkB FB NB
          rw [plain_unmoved hLO]
          try k_sweep
          dsimp only at FB NB ⊢
          (repeat' ((fail_if_success (with_reducible show wpAny _ _ (call (Value.ref _) _ _) _ _ _)); (fail_if_success (with_reducible show wpAny _ _ (call (Value.builtin "sorted") _ _) _ _ _)); (fail_if_success (with_reducible show SrcK _ _ _ _ _ _ _ _ _ _ _ _ _ _)); (fail_if_success (with_reducible show wpAny _ _ (exec (Stmt.For _ _ _ _ _) _) _ _ _)); (fail_if_success (with_reducible show wpAny _ _ (pyIter _) _ _ _)); (fail_if_success (with_reducible show wpAny _ _ (eval (Expr.ListComp _ _ _ _) _) _ _ _)); (fail_if_success (with_reducible show wpAny _ _ (exec (Stmt.Assign _ (Expr.ListComp _ _ _ _) _) _) _ _ _)); (fail_if_success (with_reducible show LCg.CompSrc _ _ _ _ _ _ _ _ _ _ _ _ _ _)); (fail_if_success (with_reducible show LCt.CompSrcT _ _ _ _ _ _ _ _ _ _ _ _ _ _ _)); first | ((fail_if_success (fail_if_success k_unfold)); (show wpAny _ _ _ _ _ _); (try dsimp only)) | (k_unfold; (try dsimp only)) | ((first | (with_reducible show wpAny _ _ (exec _ _) _ _ _) | (with_reducible show wpAny _ _ (isTrue _ _) _ _ _) | (with_reducible show wpAny _ _ (eval (Expr.Call _ _ _ _) _) _ _ _) | (with_reducible show wpAny _ _ (eval (Expr.Compare _ _ _ _) _) _ _ _) | (with_reducible show wpAny _ _ (eval (Expr.Subscript _ _ _) _) _ _ _)); k_fold) | (k_end; wrow_close) | walk1 | (dsimp only; walk1) | (leave1; walk_say "STEP leave1"; try dsimp only) | fail "no step"))
          refine' law_end ?v1 ?v2 ?v3 hdT (fsIs_snoc hPi) ?v4 ?v5 ?v6 ?v7 ?v8 ?v9 hoff
          case v1 => assumption
          case v2 => assumption
          case v3 => exact fun p hp => hp
          case v4 => k_dflt exact rfl
          case v5 => k_dflt exact rfl
          case v6 => k_dflt exact rfl
          case v7 => k_dflt exact rfl
          case v8 => k_dflt exact rfl
          case v9 => k_dflt exact rfl
      case done =>
        rintro m₁ nx h tk hJ04 F N
        (try ((with_reducible show wpAny _ _ _ _ _ _); k_fold))
        obtain ⟨oM, kvs, rfl, hDi, hPi, m1, m2, m3, m4, m5, m6⟩ := hJ04
        have F1 := fr_kst0 [(_, _), (_, _), (_, _), (_, _), (_, _), (_, _)] (kcons m1 (kcons m2 (kcons m3 (kcons m4 (kcons m5 (kcons m6 (knil))))))) F
        clear F hsM fsM hiM fiM
        dsimp only [kstB] at F1
        dsimp only
        (repeat' ((fail_if_success (with_reducible show wpAny _ _ (call (Value.ref _) _ _) _ _ _)); (fail_if_success (with_reducible show wpAny _ _ (call (Value.builtin "sorted") _ _) _ _ _)); (fail_if_success (with_reducible show SrcK _ _ _ _ _ _ _ _ _ _ _ _ _ _)); (fail_if_success (with_reducible show wpAny _ _ (exec (Stmt.For _ _ _ _ _) _) _ _ _)); (fail_if_success (with_reducible show wpAny _ _ (pyIter _) _ _ _)); (fail_if_success (with_reducible show wpAny _ _ (eval (Expr.ListComp _ _ _ _) _) _ _ _)); (fail_if_success (with_reducible show wpAny _ _ (exec (Stmt.Assign _ (Expr.ListComp _ _ _ _) _) _) _ _ _)); (fail_if_success (with_reducible show LCg.CompSrc _ _ _ _ _ _ _ _ _ _ _ _ _ _)); (fail_if_success (with_reducible show LCt.CompSrcT _ _ _ _ _ _ _ _ _ _ _ _ _ _ _)); first | ((fail_if_success (fail_if_success k_unfold)); (show wpAny _ _ _ _ _ _); (try dsimp only)) | (k_unfold; (try dsimp only)) | ((first | (with_reducible show wpAny _ _ (exec _ _) _ _ _) | (with_reducible show wpAny _ _ (isTrue _ _) _ _ _) | (with_reducible show wpAny _ _ (eval (Expr.Call _ _ _ _) _) _ _ _) | (with_reducible show wpAny _ _ (eval (Expr.Compare _ _ _ _) _) _ _ _) | (with_reducible show wpAny _ _ (eval (Expr.Subscript _ _ _) _) _ _ _)); k_fold) | (k_end; wrow_close) | walk1 | (dsimp only; walk1) | (leave1; walk_say "STEP leave1"; try dsimp only) | fail "no step"))
        have hKl : kvs.length = (v + 4 - 0).toNat := by rw [hPi.length]; simp [fsIs]
        k_dflt (refine ListComp_K (F₀ := by k_asm) (by with_unfolding_all rfl) (by decide) (by rfl) (by decide) (by rfl) ?_ (by intro _; rfl))
        (repeat' ((fail_if_success (with_reducible show wpAny _ _ (call (Value.ref _) _ _) _ _ _)); (fail_if_success (with_reducible show wpAny _ _ (call (Value.builtin "sorted") _ _) _ _ _)); (fail_if_success (with_reducible show SrcK _ _ _ _ _ _ _ _ _ _ _ _ _ _)); (fail_if_success (with_reducible show wpAny _ _ (exec (Stmt.For _ _ _ _ _) _) _ _ _)); (fail_if_success (with_reducible show wpAny _ _ (pyIter _) _ _ _)); (fail_if_success (with_reducible show wpAny _ _ (eval (Expr.ListComp _ _ _ _) _) _ _ _)); (fail_if_success (with_reducible show wpAny _ _ (exec (Stmt.Assign _ (Expr.ListComp _ _ _ _) _) _) _ _ _)); (fail_if_success (with_reducible show LCg.CompSrc _ _ _ _ _ _ _ _ _ _ _ _ _ _)); (fail_if_success (with_reducible show LCt.CompSrcT _ _ _ _ _ _ _ _ _ _ _ _ _ _ _)); first | ((fail_if_success (fail_if_success k_unfold)); (show wpAny _ _ _ _ _ _); (try dsimp only)) | (k_unfold; (try dsimp only)) | ((first | (with_reducible show wpAny _ _ (exec _ _) _ _ _) | (with_reducible show wpAny _ _ (isTrue _ _) _ _ _) | (with_reducible show wpAny _ _ (eval (Expr.Call _ _ _ _) _) _ _ _) | (with_reducible show wpAny _ _ (eval (Expr.Compare _ _ _ _) _) _ _ _) | (with_reducible show wpAny _ _ (eval (Expr.Subscript _ _ _) _) _ _ _)); k_fold) | (k_end; wrow_close) | walk1 | (dsimp only; walk1) | (leave1; walk_say "STEP leave1"; try dsimp only) | fail "no step"))
        k_dflt (refine' SrcK.intro rfl ?c1 ?c2 ?c3 hDi loM ?c4 ?c5)
        case c1 => assumption
        case c2 => assumption
        case c3 => k_mem
        case c4 => rw [hKl, sizeLine_eq]; omega
        case c5 =>
          intro g5
          refine' comp_rest (MapJ (lawMv lots order) (kvs.map (·.1)) _) _ ?step4 ?fin4 _ 0 [] _ (Nat.zero_add _) ⟨rfl, .nil⟩
          case step4 =>
            rintro i ys4 news hi hJ05 v' I oI' C oC D4 m₂ h tk E' hJ06 hC hx F N off ne
            (try ((with_reducible show wpAny _ _ _ _ _ _); k_fold))
            obtain ⟨rfl, hJ⟩ := hJ05
            obtain ⟨k', t', hk', rfl⟩ := hJ06
            have off1 := off
            simp only [LCg.Off3, and_true] at off1
            dsimp only
            (repeat' ((fail_if_success (with_reducible show wpAny _ _ (call (Value.ref _) _ _) _ _ _)); (fail_if_success (with_reducible show wpAny _ _ (call (Value.builtin "sorted") _ _) _ _ _)); (fail_if_success (with_reducible show SrcK _ _ _ _ _ _ _ _ _ _ _ _ _ _)); (fail_if_success (with_reducible show wpAny _ _ (exec (Stmt.For _ _ _ _ _) _) _ _ _)); (fail_if_success (with_reducible show wpAny _ _ (pyIter _) _ _ _)); (fail_if_success (with_reducible show wpAny _ _ (eval (Expr.ListComp _ _ _ _) _) _ _ _)); (fail_if_success (with_reducible show wpAny _ _ (exec (Stmt.Assign _ (Expr.ListComp _ _ _ _) _) _) _ _ _)); (fail_if_success (with_reducible show LCg.CompSrc _ _ _ _ _ _ _ _ _ _ _ _ _ _)); (fail_if_success (with_reducible show LCt.CompSrcT _ _ _ _ _ _ _ _ _ _ _ _ _ _ _)); first | ((fail_if_success (fail_if_success k_unfold)); (show wpAny _ _ _ _ _ _); (try dsimp only)) | (k_unfold; (try dsimp only)) | ((first | (with_reducible show wpAny _ _ (exec _ _) _ _ _) | (with_reducible show wpAny _ _ (isTrue _ _) _ _ _) | (with_reducible show wpAny _ _ (eval (Expr.Call _ _ _ _) _) _ _ _) | (with_reducible show wpAny _ _ (eval (Expr.Compare _ _ _ _) _) _ _ _) | (with_reducible show wpAny _ _ (eval (Expr.Subscript _ _ _) _) _ _ _)); k_fold) | (k_end; wrow_close) | walk1 | (dsimp only; walk1) | (leave1; walk_say "STEP leave1"; try dsimp only) | fail "no step"))
            k_dflt (refine' moved_use ?u1 ?u2 ?u3 ?u4 ?u5 ?u6 ?u7 ?u8 ?u9 ?u10 ?_; (case u1 => k_asm); (case u2 => k_asm); (case u3 => k_in); (case u4 => k_asm); (case u5 => k_asm); (case u6 => first | rfl | assumption); (case u7 => exact hRe); (case u8 => lcg_sub); (case u9 => ktr_room); (case u10 => ktr_units); k_whole)
            intro tA hA tkA FA NA
            rw [plain_moved hLO]
            try k_unfold
            dsimp only
            refine' LCg.CompEnd.intro FA NA _ ?y3 off ?y4 (MapJ.snoc hJ hk')
            case y3 => exact fun p hp => hp
            case y4 => k_mem
          case fin4 =>
            rintro ys4 news hJ07
            (try ((with_reducible show wpAny _ _ _ _ _ _); k_fold))
            obtain ⟨rfl, hJ⟩ := hJ07
            intro D4 h tk F N q4
            dsimp only
            have hJ4 : IntsAre ys4 ((kvs.map (·.1)).map (lawMv lots order)) := by rwa [show kvs.length = (kvs.map (·.1)).length by simp, List.take_length] at hJ
            have hl4 : ((kvs.map (·.1)).map (lawMv lots order)).length < 64 := by simp only [List.length_map, hKl]; omega
            have N4 := news_sub N (b := (D4, listOf ys4.toArray ys4.length) :: _) (fun p hp => hp)
            clear N q4
            (repeat' ((fail_if_success (with_reducible show wpAny _ _ (call (Value.ref _) _ _) _ _ _)); (fail_if_success (with_reducible show wpAny _ _ (call (Value.builtin "sorted") _ _) _ _ _)); (fail_if_success (with_reducible show SrcK _ _ _ _ _ _ _ _ _ _ _ _ _ _)); (fail_if_success (with_reducible show wpAny _ _ (exec (Stmt.For _ _ _ _ _) _) _ _ _)); (fail_if_success (with_reducible show wpAny _ _ (pyIter _) _ _ _)); (fail_if_success (with_reducible show wpAny _ _ (eval (Expr.ListComp _ _ _ _) _) _ _ _)); (fail_if_success (with_reducible show wpAny _ _ (exec (Stmt.Assign _ (Expr.ListComp _ _ _ _) _) _) _ _ _)); (fail_if_success (with_reducible show LCg.CompSrc _ _ _ _ _ _ _ _ _ _ _ _ _ _)); (fail_if_success (with_reducible show LCt.CompSrcT _ _ _ _ _ _ _ _ _ _ _ _ _ _ _)); first | ((fail_if_success (fail_if_success k_unfold)); (show wpAny _ _ _ _ _ _); (try dsimp only)) | (k_unfold; (try dsimp only)) | ((first | (with_reducible show wpAny _ _ (exec _ _) _ _ _) | (with_reducible show wpAny _ _ (isTrue _ _) _ _ _) | (with_reducible show wpAny _ _ (eval (Expr.Call _ _ _ _) _) _ _ _) | (with_reducible show wpAny _ _ (eval (Expr.Compare _ _ _ _) _) _ _ _) | (with_reducible show wpAny _ _ (eval (Expr.Subscript _ _ _) _) _ _ _)); k_fold) | (k_end; wrow_close) | walk1 | (dsimp only; walk1) | (leave1; walk_say "STEP leave1"; try dsimp only) | fail "no step"))
            refine' kso_sorted ?p1 ?p2 ?p3 ?p4 ?p5 ?p6
            case p1 => k_asm
            case p2 => exact N4
            case p3 => exact News.isList N4 (.head _)
            case p4 => exact hJ4
            case p5 => exact hl4
            case p6 =>
              intro D5 vs5 ns5 c5 h5' F5 N5' l5 hI5 _ hP5 hS5 _
              clear N4 F l5
              dsimp only
              (repeat' ((fail_if_success (with_reducible show wpAny _ _ (call (Value.ref _) _ _) _ _ _)); (fail_if_success (with_reducible show wpAny _ _ (call (Value.builtin "sorted") _ _) _ _ _)); (fail_if_success (with_reducible show SrcK _ _ _ _ _ _ _ _ _ _ _ _ _ _)); (fail_if_success (with_reducible show wpAny _ _ (exec (Stmt.For _ _ _ _ _) _) _ _ _)); (fail_if_success (with_reducible show wpAny _ _ (pyIter _) _ _ _)); (fail_if_success (with_reducible show wpAny _ _ (eval (Expr.ListComp _ _ _ _) _) _ _ _)); (fail_if_success (with_reducible show wpAny _ _ (exec (Stmt.Assign _ (Expr.ListComp _ _ _ _) _) _) _ _ _)); (fail_if_success (with_reducible show LCg.CompSrc _ _ _ _ _ _ _ _ _ _ _ _ _ _)); (fail_if_success (with_reducible show LCt.CompSrcT _ _ _ _ _ _ _ _ _ _ _ _ _ _ _)); first | ((fail_if_success (fail_if_success k_unfold)); (show wpAny _ _ _ _ _ _); (try dsimp only)) | (k_unfold; (try dsimp only)) | ((first | (with_reducible show wpAny _ _ (exec _ _) _ _ _) | (with_reducible show wpAny _ _ (isTrue _ _) _ _ _) | (with_reducible show wpAny _ _ (eval (Expr.Call _ _ _ _) _) _ _ _) | (with_reducible show wpAny _ _ (eval (Expr.Compare _ _ _ _) _) _ _ _) | (with_reducible show wpAny _ _ (eval (Expr.Subscript _ _ _) _) _ _ _)); k_fold) | (k_end; wrow_close) | walk1 | (dsimp only; walk1) | (leave1; walk_say "STEP leave1"; try dsimp only) | fail "no step"))
              k_dflt (refine' sorted_dict ?r0 ?r1 ?r2 ?r3 hDi loM ?r4 ?r5)
              case r0 => exact rfl
              case r1 => k_asm
              case r2 => exact N5'
              case r3 => k_mem
              case r4 => rw [hKl]; omega
              case r5 =>
                intro D6 vs6 ns6 c6 h6' tk6 F6 N6' l6 hI6 hP6 hS6
                have hns : ns5 = ns6 := lks_uniq (hP5.trans (List.Perm.trans (by rw [hPi.keys]; exact plain_perm hLO b1) hP6.symm)) hS5 hS6
                subst hns
                clear N5' F5 l6
                dsimp only
                (repeat' ((fail_if_success (with_reducible show wpAny _ _ (call (Value.ref _) _ _) _ _ _)); (fail_if_success (with_reducible show wpAny _ _ (call (Value.builtin "sorted") _ _) _ _ _)); (fail_if_success (with_reducible show SrcK _ _ _ _ _ _ _ _ _ _ _ _ _ _)); (fail_if_success (with_reducible show wpAny _ _ (exec (Stmt.For _ _ _ _ _) _) _ _ _)); (fail_if_success (with_reducible show wpAny _ _ (pyIter _) _ _ _)); (fail_if_success (with_reducible show wpAny _ _ (eval (Expr.ListComp _ _ _ _) _) _ _ _)); (fail_if_success (with_reducible show wpAny _ _ (exec (Stmt.Assign _ (Expr.ListComp _ _ _ _) _) _) _ _ _)); (fail_if_success (with_reducible show LCg.CompSrc _ _ _ _ _ _ _ _ _ _ _ _ _ _)); (fail_if_success (with_reducible show LCt.CompSrcT _ _ _ _ _ _ _ _ _ _ _ _ _ _ _)); first | ((fail_if_success (fail_if_success k_unfold)); (show wpAny _ _ _ _ _ _); (try dsimp only)) | (k_unfold; (try dsimp only)) | ((first | (with_reducible show wpAny _ _ (exec _ _) _ _ _) | (with_reducible show wpAny _ _ (isTrue _ _) _ _ _) | (with_reducible show wpAny _ _ (eval (Expr.Call _ _ _ _) _) _ _ _) | (with_reducible show wpAny _ _ (eval (Expr.Compare _ _ _ _) _) _ _ _) | (with_reducible show wpAny _ _ (eval (Expr.Subscript _ _ _) _) _ _ _)); k_fold) | (k_end; wrow_close) | walk1 | (dsimp only; walk1) | (leave1; walk_say "STEP leave1"; try dsimp only) | fail "no step"))
                have N7 := news_sub N6' (b := (aM, oM) :: (aT, oT2) :: (aC, listOf vT2.toArray nT2) :: [(_, oC2), (_, oI), (aRow, listOf rv.toArray nR), (x, instObj 76 dx), (dx, reoDict _ t1 t2 t3 tv aF2 aB v), (aF2, listOf ys.toArray c), (aB, oB), (D, listOf ys.toArray ys.length), (aTo, listOf os.toArray cTo), (aO, listOf os.toArray nO)]) (by lcg_sub)
                clear N6' hI6 hP6 hS6 hP5 hS5
                (repeat' ((fail_if_success (with_reducible show wpAny _ _ (exec (Stmt.Assign [Expr.Name _ _] (Expr.IfExp _ _ _ _) _) _) _ _ _)); (fail_if_success (with_reducible show wpAny _ _ (call (Value.ref _) _ _) _ _ _)); (fail_if_success (with_reducible show wpAny _ _ (call (Value.builtin "sorted") _ _) _ _ _)); (fail_if_success (with_reducible show wpAny _ _ (eval (Expr.ListComp _ _ _ _) _) _ _ _)); (fail_if_success (with_reducible show wpAny _ _ (exec (Stmt.Assign _ (Expr.ListComp _ _ _ _) _) _) _ _ _)); (fail_if_success (with_reducible show SrcTu _ _ _ _ _ _ _ _ _ _ _ _ _ _)); (fail_if_success (with_reducible show LCt.CompSrcT _ _ _ _ _ _ _ _ _ _ _ _ _ _ _)); first | ((fail_if_success (fail_if_success k_unfold)); (show wpAny _ _ _ _ _ _); (try dsimp only)) | (k_unfold; (try dsimp only)) | ((first | (with_reducible show wpAny _ _ (exec _ _) _ _ _) | (with_reducible show wpAny _ _ (isTrue _ _) _ _ _) | (with_reducible show wpAny _ _ (eval (Expr.Call _ _ _ _) _) _ _ _) | (with_reducible show wpAny _ _ (eval (Expr.Compare _ _ _ _) _) _ _ _) | (with_reducible show wpAny _ _ (eval (Expr.Subscript _ _ _) _) _ _ _)); k_fold) | (k_end; wrow_close) | walk1 | (dsimp only; walk1) | (leave1; walk_say "STEP leave1"; try dsimp only) | fail "no step"))
                k_dflt (refine' moved_use ?u1 ?u2 ?u3 ?u4 ?u5 ?u6 ?u7 ?u8 ?u9 ?u10 ?_; (case u1 => k_asm); (case u2 => k_asm); (case u3 => k_in); (case u4 => k_asm); (case u5 => k_asm); (case u6 => first | rfl | assumption); (case u7 => exact hRe); (case u8 => lcg_sub); (case u9 => ktr_room); (case u10 => ktr_units); k_whole)
                intro tA1 hA1 tkA1 FA1 NA1
                rw [movedF_same (.inr (.inr (by omega)))]
                try k_sweep
                dsimp only at FA1 NA1 ⊢
                (repeat' ((fail_if_success (with_reducible show wpAny _ _ (exec (Stmt.Assign [Expr.Name _ _] (Expr.IfExp _ _ _ _) _) _) _ _ _)); (fail_if_success (with_reducible show wpAny _ _ (call (Value.ref _) _ _) _ _ _)); (fail_if_success (with_reducible show wpAny _ _ (call (Value.builtin "sorted") _ _) _ _ _)); (fail_if_success (with_reducible show wpAny _ _ (eval (Expr.ListComp _ _ _ _) _) _ _ _)); (fail_if_success (with_reducible show wpAny _ _ (exec (Stmt.Assign _ (Expr.ListComp _ _ _ _) _) _) _ _ _)); (fail_if_success (with_reducible show SrcTu _ _ _ _ _ _ _ _ _ _ _ _ _ _)); (fail_if_success (with_reducible show LCt.CompSrcT _ _ _ _ _ _ _ _ _ _ _ _ _ _ _)); first | ((fail_if_success (fail_if_success k_unfold)); (show wpAny _ _ _ _ _ _); (try dsimp only)) | (k_unfold; (try dsimp only)) | ((first | (with_reducible show wpAny _ _ (exec _ _) _ _ _) | (with_reducible show wpAny _ _ (isTrue _ _) _ _ _) | (with_reducible show wpAny _ _ (eval (Expr.Call _ _ _ _) _) _ _ _) | (with_reducible show wpAny _ _ (eval (Expr.Compare _ _ _ _) _) _ _ _) | (with_reducible show wpAny _ _ (eval (Expr.Subscript _ _ _) _) _ _ _)); k_fold) | (k_end; wrow_close) | walk1 | (dsimp only; walk1) | (leave1; walk_say "STEP leave1"; try dsimp only) | fail "no step"))
                k_dflt (refine' unmoved_use ?u1 ?u2 ?u3 ?u4 ?u5 ?u6 ?u7 ?u8 ?u9 ?u10 ?_; (case u1 => k_asm); (case u2 => k_asm); (case u3 => k_in); (case u4 => k_asm); (case u5 => k_asm); (case u6 => first | rfl | assumption); (case u7 => exact hRe); (case u8 => lcg_sub); (case u9 => ktr_room); (case u10 => ktr_units); k_whole)
                intro tA2 hA2 tkA2 FA2 NA2
                rw [unmovedF_same (.inr (.inr (by omega)))]
                try k_sweep
                dsimp only at FA2 NA2 ⊢
                (repeat' ((fail_if_success (with_reducible show wpAny _ _ (exec (Stmt.Assign [Expr.Name _ _] (Expr.IfExp _ _ _ _) _) _) _ _ _)); (fail_if_success (with_reducible show wpAny _ _ (call (Value.ref _) _ _) _ _ _)); (fail_if_success (with_reducible show wpAny _ _ (call (Value.builtin "sorted") _ _) _ _ _)); (fail_if_success (with_reducible show wpAny _ _ (eval (Expr.ListComp _ _ _ _) _) _ _ _)); (fail_if_success (with_reducible show wpAny _ _ (exec (Stmt.Assign _ (Expr.ListComp _ _ _ _) _) _) _ _ _)); (fail_if_success (with_reducible show SrcTu _ _ _ _ _ _ _ _ _ _ _ _ _ _)); (fail_if_success (with_reducible show LCt.CompSrcT _ _ _ _ _ _ _ _ _ _ _ _ _ _ _)); first | ((fail_if_success (fail_if_success k_unfold)); (show wpAny _ _ _ _ _ _); (try dsimp only)) | (k_unfold; (try dsimp only)) | ((first | (with_reducible show wpAny _ _ (exec _ _) _ _ _) | (with_reducible show wpAny _ _ (isTrue _ _) _ _ _) | (with_reducible show wpAny _ _ (eval (Expr.Call _ _ _ _) _) _ _ _) | (with_reducible show wpAny _ _ (eval (Expr.Compare _ _ _ _) _) _ _ _) | (with_reducible show wpAny _ _ (eval (Expr.Subscript _ _ _) _) _ _ _)); k_fold) | (k_end; wrow_close) | walk1 | (dsimp only; walk1) | (leave1; walk_say "STEP leave1"; try dsimp only) | fail "no step"))
                k_dflt (refine' moved_use ?u1 ?u2 ?u3 ?u4 ?u5 ?u6 ?u7 ?u8 ?u9 ?u10 ?_; (case u1 => k_asm); (case u2 => k_asm); (case u3 => k_in); (case u4 => k_asm); (case u5 => k_asm); (case u6 => first | rfl | assumption); (case u7 => exact hRe); (case u8 => lcg_sub); (case u9 => ktr_room); (case u10 => ktr_units); k_whole)
                intro tA3 hA3 tkA3 FA3 NA3
                rw [movedF_same (.inr (.inr (by omega)))]
                try k_sweep
                dsimp only at FA3 NA3 ⊢
                (repeat' ((fail_if_success (with_reducible show wpAny _ _ (exec (Stmt.Assign [Expr.Name _ _] (Expr.IfExp _ _ _ _) _) _) _ _ _)); (fail_if_success (with_reducible show wpAny _ _ (call (Value.ref _) _ _) _ _ _)); (fail_if_success (with_reducible show wpAny _ _ (call (Value.builtin "sorted") _ _) _ _ _)); (fail_if_success (with_reducible show wpAny _ _ (eval (Expr.ListComp _ _ _ _) _) _ _ _)); (fail_if_success (with_reducible show wpAny _ _ (exec (Stmt.Assign _ (Expr.ListComp _ _ _ _) _) _) _ _ _)); (fail_if_success (with_reducible show SrcTu _ _ _ _ _ _ _ _ _ _ _ _ _ _)); (fail_if_success (with_reducible show LCt.CompSrcT _ _ _ _ _ _ _ _ _ _ _ _ _ _ _)); first | ((fail_if_success (fail_if_success k_unfold)); (show wpAny _ _ _ _ _ _); (try dsimp only)) | (k_unfold; (try dsimp only)) | ((first | (with_reducible show wpAny _ _ (exec _ _) _ _ _) | (with_reducible show wpAny _ _ (isTrue _ _) _ _ _) | (with_reducible show wpAny _ _ (eval (Expr.Call _ _ _ _) _) _ _ _) | (with_reducible show wpAny _ _ (eval (Expr.Compare _ _ _ _) _) _ _ _) | (with_reducible show wpAny _ _ (eval (Expr.Subscript _ _ _) _) _ _ _)); k_fold) | (k_end; wrow_close) | walk1 | (dsimp only; walk1) | (leave1; walk_say "STEP leave1"; try dsimp only) | fail "no step"))
                k_dflt (refine' unmoved_use ?u1 ?u2 ?u3 ?u4 ?u5 ?u6 ?u7 ?u8 ?u9 ?u10 ?_; (case u1 => k_asm); (case u2 => k_asm); (case u3 => k_in); (case u4 => k_asm); (case u5 => k_asm); (case u6 => first | rfl | assumption); (case u7 => exact hRe); (case u8 => lcg_sub); (case u9 => ktr_room); (case u10 => ktr_units); k_whole)
                intro tA4 hA4 tkA4 FA4 NA4
                rw [unmovedF_same (.inr (.inr (by omega)))]
                try k_sweep
                dsimp only at FA4 NA4 ⊢
                (repeat' ((fail_if_success (with_reducible show wpAny _ _ (exec (Stmt.Assign [Expr.Name _ _] (Expr.IfExp _ _ _ _) _) _) _ _ _)); (fail_if_success (with_reducible show wpAny _ _ (call (Value.ref _) _ _) _ _ _)); (fail_if_success (with_reducible show wpAny _ _ (call (Value.builtin "sorted") _ _) _ _ _)); (fail_if_success (with_reducible show wpAny _ _ (eval (Expr.ListComp _ _ _ _) _) _ _ _)); (fail_if_success (with_reducible show wpAny _ _ (exec (Stmt.Assign _ (Expr.ListComp _ _ _ _) _) _) _ _ _)); (fail_if_success (with_reducible show SrcTu _ _ _ _ _ _ _ _ _ _ _ _ _ _)); (fail_if_success (with_reducible show LCt.CompSrcT _ _ _ _ _ _ _ _ _ _ _ _ _ _ _)); first | ((fail_if_success (fail_if_success k_unfold)); (show wpAny _ _ _ _ _ _); (try dsimp only)) | (k_unfold; (try dsimp only)) | ((first | (with_reducible show wpAny _ _ (exec _ _) _ _ _) | (with_reducible show wpAny _ _ (isTrue _ _) _ _ _) | (with_reducible show wpAny _ _ (eval (Expr.Call _ _ _ _) _) _ _ _) | (with_reducible show wpAny _ _ (eval (Expr.Compare _ _ _ _) _) _ _ _) | (with_reducible show wpAny _ _ (eval (Expr.Subscript _ _ _) _) _ _ _)); k_fold) | (k_end; wrow_close) | walk1 | (dsimp only; walk1) | (leave1; walk_say "STEP leave1"; try dsimp only) | fail "no step"))
                have N8 := news_sub NA4 (b := (aM, oM) :: (aT, oT2) :: (aC, listOf vT2.toArray nT2) :: [(_, oC2), (_, oI), (aRow, listOf rv.toArray nR), (x, instObj 76 dx), (dx, reoDict _ t1 t2 t3 tv aF2 aB v), (aF2, listOf ys.toArray c), (aB, oB), (D, listOf ys.toArray ys.length), (aTo, listOf os.toArray cTo), (aO, listOf os.toArray nO)]) (by lcg_sub)
                k_dflt (refine' opts_use ?k1 ?k2 ?k3 ?k4 ?k5 ?k6 ?k12 ?k13 ?_; (case k1 => k_asm); (case k2 => k_asm); (case k3 => k_in); (case k4 => k_asm); (case k5 => k_asm); (case k6 => first | rfl | assumption); (case k12 => ktr_room); (case k13 => ktr_units); k_whole)
                intro o dO p1 p2 p3 p4 p5 p6 p7 p8 hO tkO qO qD FO NO
                refine' with_tape NO qO qD hTM hCM wT wC ?tpS ?tpK
                case tpS => lcg_sub
                intro N9 oT oC
                clear NO qO qD N8
                try k_sweep
                dsimp only at FO ⊢
                (repeat' ((fail_if_success (with_reducible show wpAny _ _ (exec (Stmt.Assign [Expr.Name _ _] (Expr.IfExp _ _ _ _) _) _) _ _ _)); (fail_if_success (with_reducible show wpAny _ _ (call (Value.ref _) _ _) _ _ _)); (fail_if_success (with_reducible show wpAny _ _ (call (Value.builtin "sorted") _ _) _ _ _)); (fail_if_success (with_reducible show wpAny _ _ (eval (Expr.ListComp _ _ _ _) _) _ _ _)); (fail_if_success (with_reducible show wpAny _ _ (exec (Stmt.Assign _ (Expr.ListComp _ _ _ _) _) _) _ _ _)); (fail_if_success (with_reducible show SrcTu _ _ _ _ _ _ _ _ _ _ _ _ _ _)); (fail_if_success (with_reducible show LCt.CompSrcT _ _ _ _ _ _ _ _ _ _ _ _ _ _ _)); first | ((fail_if_success (fail_if_success k_unfold)); (show wpAny _ _ _ _ _ _); (try dsimp only)) | (k_unfold; (try dsimp only)) | ((first | (with_reducible show wpAny _ _ (exec _ _) _ _ _) | (with_reducible show wpAny _ _ (isTrue _ _) _ _ _) | (with_reducible show wpAny _ _ (eval (Expr.Call _ _ _ _) _) _ _ _) | (with_reducible show wpAny _ _ (eval (Expr.Compare _ _ _ _) _) _ _ _) | (with_reducible show wpAny _ _ (eval (Expr.Subscript _ _ _) _) _ _ _)); k_fold) | (k_end; wrow_close) | walk1 | (dsimp only; walk1) | (leave1; walk_say "STEP leave1"; try dsimp only) | fail "no step"))
                k_dflt (refine' weights_use ?k1 ?k2 ?k3 ?k4 ?k5 ?k6 ?k7 ?kp1 ?kp2 ?k8 ?k9 ?k10 ?km0 ?km1 ?k12 ?k13 ?_; (case k1 => k_asm); (case k2 => k_asm); (case k3 => k_in); (case k4 => k_asm); (case k5 => k_asm); (case k6 => first | rfl | assumption); (case k7 => exact hT2); (case kp1 => (repeat (first | with_reducible exact Pull.head | with_reducible apply Pull.tail))); (case kp2 => (repeat (first | with_reducible exact Pull.head | with_reducible apply Pull.tail))); (case k8 => exact hTC); (case k9 => exact oT); (case k10 => exact oC); (case km0 => omega); (case km1 => omega); (case k12 => ktr_room); (case k13 => ktr_units); k_whole)
                intro aW1 refs1 kW1 subs1 ws1 oT3 vT3 nT3 hW1 tkW1 hTu1 hws1 h61 hT3 gW1 gS1 g1 g2 g3 g4 FW1 NW1
                simp only [List.cons_append, List.nil_append] at NW1
                have oT' := all_c (x := (aW1, listOf refs1.toArray kW1)) (P := fun q => @Ne Nat q.1 aT) g1 (all_cat oT g3)
                have oC' := all_c (x := (aW1, listOf refs1.toArray kW1)) (P := fun q => @Ne Nat q.1 aC) g2 (all_cat oC g4)
                clear g1 g2 g3 g4
                try k_sweep
                dsimp only at FW1 ⊢
                (repeat' ((fail_if_success (with_reducible show wpAny _ _ (exec (Stmt.Assign [Expr.Name _ _] (Expr.IfExp _ _ _ _) _) _) _ _ _)); (fail_if_success (with_reducible show wpAny _ _ (call (Value.ref _) _ _) _ _ _)); (fail_if_success (with_reducible show wpAny _ _ (call (Value.builtin "sorted") _ _) _ _ _)); (fail_if_success (with_reducible show wpAny _ _ (eval (Expr.ListComp _ _ _ _) _) _ _ _)); (fail_if_success (with_reducible show wpAny _ _ (exec (Stmt.Assign _ (Expr.ListComp _ _ _ _) _) _) _ _ _)); (fail_if_success (with_reducible show SrcTu _ _ _ _ _ _ _ _ _ _ _ _ _ _)); (fail_if_success (with_reducible show LCt.CompSrcT _ _ _ _ _ _ _ _ _ _ _ _ _ _ _)); first | ((fail_if_success (fail_if_success k_unfold)); (show wpAny _ _ _ _ _ _); (try dsimp only)) | (k_unfold; (try dsimp only)) | ((first | (with_reducible show wpAny _ _ (exec _ _) _ _ _) | (with_reducible show wpAny _ _ (isTrue _ _) _ _ _) | (with_reducible show wpAny _ _ (eval (Expr.Call _ _ _ _) _) _ _ _) | (with_reducible show wpAny _ _ (eval (Expr.Compare _ _ _ _) _) _ _ _) | (with_reducible show wpAny _ _ (eval (Expr.Subscript _ _ _) _) _ _ _)); k_fold) | (k_end; wrow_close) | walk1 | (dsimp only; walk1) | (leave1; walk_say "STEP leave1"; try dsimp only) | fail "no step"))
                k_dflt (refine' weights_use ?k1 ?k2 ?k3 ?k4 ?k5 ?k6 ?k7 ?kp1 ?kp2 ?k8 ?k9 ?k10 ?km0 ?km1 ?k12 ?k13 ?_; (case k1 => k_asm); (case k2 => k_asm); (case k3 => k_in); (case k4 => k_asm); (case k5 => k_asm); (case k6 => first | rfl | assumption); (case k7 => exact hT3); (case kp1 => (repeat (first | with_reducible exact Pull.head | with_reducible apply Pull.tail))); (case kp2 => (repeat (first | with_reducible exact Pull.head | with_reducible apply Pull.tail))); (case k8 => exact hTC); (case k9 => exact oT'); (case k10 => exact oC'); (case km0 => omega); (case km1 => omega); (case k12 => ktr_room); (case k13 => ktr_units); k_whole)
                intro aW2 refs2 kW2 subs2 ws2 oT4 vT4 nT4 hW2 tkW2 hTu2 hws2 h62 hT4 gW2 gS2 g5 g6 g7 g8 FW2 NW2
                clear g5 g6 g7 g8
                simp only [List.cons_append, List.nil_append] at NW2
                try k_sweep
                dsimp only at FW2 ⊢
                refine' with_so (V := optLed _ o dO p1 p2 p3 p4 p5 p6 p7 p8 _ x dx aF2 aB t1 t2 t3 tv v ys c oB) (A := listOf refs1.toArray kW1) (B := listOf refs2.toArray kW2) gW1 gS1 gW2 gS2 ?so1 ?so2 ?soK
                case so1 => lcg_sub
                case so2 => lcg_sub
                intro hSo
                have hTuA := hTu1.mono (tl' := subs1 ++ subs2) (fun p hp => List.mem_append_left _ hp)
                have hTuB := hTu2.mono (tl' := subs1 ++ subs2) (fun p hp => List.mem_append_right _ hp)
                have NR := news_sub NW2 (b := subs1 ++ subs2) (fun p hp => by (iterate 17 apply List.Mem.tail); exact hp)
                have NL := news_sub NW2 (b := [(aM, oM), (_, oC2), (o, instObj 33 dO), (dO, optDict _ p1 p2 p3 p4 p5 p6 p7 p8 _ x), (x, instObj 76 dx), (dx, reoDict _ t1 t2 t3 tv aF2 aB v), (aF2, listOf ys.toArray c), (aB, oB), (aW1, listOf refs1.toArray kW1), (aW2, listOf refs2.toArray kW2)]) (by lcg_sub)
                have N10 := news_app NL NR
                simp only [List.cons_append, List.nil_append] at N10
                generalize subs1 ++ subs2 = R at N10 hTuA hTuB hSo
                clear NR NL NW2 gW1 gS1 gW2 gS2 oT' oC' oT oC wM wT wC hTu1 hTu2 hTM hCM
                (repeat' ((fail_if_success (with_reducible show wpAny _ _ (exec (Stmt.Assign [Expr.Name _ _] (Expr.IfExp _ _ _ _) _) _) _ _ _)); (fail_if_success (with_reducible show wpAny _ _ (call (Value.ref _) _ _) _ _ _)); (fail_if_success (with_reducible show wpAny _ _ (call (Value.builtin "sorted") _ _) _ _ _)); (fail_if_success (with_reducible show wpAny _ _ (eval (Expr.ListComp _ _ _ _) _) _ _ _)); (fail_if_success (with_reducible show wpAny _ _ (exec (Stmt.Assign _ (Expr.ListComp _ _ _ _) _) _) _ _ _)); (fail_if_success (with_reducible show SrcTu _ _ _ _ _ _ _ _ _ _ _ _ _ _)); (fail_if_success (with_reducible show LCt.CompSrcT _ _ _ _ _ _ _ _ _ _ _ _ _ _ _)); first | ((fail_if_success (fail_if_success k_unfold)); (show wpAny _ _ _ _ _ _); (try dsimp only)) | (k_unfold; (try dsimp only)) | ((first | (with_reducible show wpAny _ _ (exec _ _) _ _ _) | (with_reducible show wpAny _ _ (isTrue _ _) _ _ _) | (with_reducible show wpAny _ _ (eval (Expr.Call _ _ _ _) _) _ _ _) | (with_reducible show wpAny _ _ (eval (Expr.Compare _ _ _ _) _) _ _ _) | (with_reducible show wpAny _ _ (eval (Expr.Subscript _ _ _) _) _ _ _)); k_fold) | (k_end; wrow_close) | walk1 | (dsimp only; walk1) | (leave1; walk_say "STEP leave1"; try dsimp only) | fail "no step"))
                (try ((with_reducible show wpAny _ _ _ _ _ _); k_fold))
                k_dflt (refine Assign_ListComp_Tu (F₀ := by k_asm) (by rfl) (by with_unfolding_all rfl) (by with_unfolding_all rfl) (by decide) (by rfl) (by decide) (by rfl) (by rfl) (by rfl) ?_ (by intro _; rfl))
                (repeat' ((fail_if_success (with_reducible show wpAny _ _ (exec (Stmt.Assign [Expr.Name _ _] (Expr.IfExp _ _ _ _) _) _) _ _ _)); (fail_if_success (with_reducible show wpAny _ _ (call (Value.ref _) _ _) _ _ _)); (fail_if_success (with_reducible show wpAny _ _ (call (Value.builtin "sorted") _ _) _ _ _)); (fail_if_success (with_reducible show wpAny _ _ (eval (Expr.ListComp _ _ _ _) _) _ _ _)); (fail_if_success (with_reducible show wpAny _ _ (exec (Stmt.Assign _ (Expr.ListComp _ _ _ _) _) _) _ _ _)); (fail_if_success (with_reducible show SrcTu _ _ _ _ _ _ _ _ _ _ _ _ _ _)); (fail_if_success (with_reducible show LCt.CompSrcT _ _ _ _ _ _ _ _ _ _ _ _ _ _ _)); first | ((fail_if_success (fail_if_success k_unfold)); (show wpAny _ _ _ _ _ _); (try dsimp only)) | (k_unfold; (try dsimp only)) | ((first | (with_reducible show wpAny _ _ (exec _ _) _ _ _) | (with_reducible show wpAny _ _ (isTrue _ _) _ _ _) | (with_reducible show wpAny _ _ (eval (Expr.Call _ _ _ _) _) _ _ _) | (with_reducible show wpAny _ _ (eval (Expr.Compare _ _ _ _) _) _ _ _) | (with_reducible show wpAny _ _ (eval (Expr.Subscript _ _ _) _) _ _ _)); k_fold) | (k_end; wrow_close) | walk1 | (dsimp only; walk1) | (leave1; walk_say "STEP leave1"; try dsimp only) | fail "no step"))
                k_dflt (refine' SrcTu.intro rfl ?e1 ?e2 ?e3 ?e4 ?e5)
                case e1 => assumption
                case e2 => assumption
                case e3 => exact .head _
                case e4 => exact Nat.le_of_ble_eq_true rfl
                case e5 =>
                  intro g7
                  refine LCg.CompRest.succ (k := 1) (fun w1 I1 oI1 C1 oC1 E1 mm1 hh1 tkk1 EE1 hv1 hC1 hx1 F N off1 ne1 => ?_)
                  clear ne1
                  (try ((with_reducible show wpAny _ _ _ _ _ _); k_fold))
                  obtain rfl : w1 = Value.ref aW1 := (Option.some.inj hv1).symm
                  dsimp only
                  (try ((with_reducible show wpAny _ _ _ _ _ _); k_fold))
                  k_dflt (refine LCt.ListComp_T (F₀ := by k_asm) (by with_unfolding_all rfl) (by decide) (by rfl) (by decide) (by rfl) ?_)
                  (repeat' ((fail_if_success (with_reducible show wpAny _ _ (exec (Stmt.Assign [Expr.Name _ _] (Expr.IfExp _ _ _ _) _) _) _ _ _)); (fail_if_success (with_reducible show wpAny _ _ (call (Value.ref _) _ _) _ _ _)); (fail_if_success (with_reducible show wpAny _ _ (call (Value.builtin "sorted") _ _) _ _ _)); (fail_if_success (with_reducible show wpAny _ _ (eval (Expr.ListComp _ _ _ _) _) _ _ _)); (fail_if_success (with_reducible show wpAny _ _ (exec (Stmt.Assign _ (Expr.ListComp _ _ _ _) _) _) _ _ _)); (fail_if_success (with_reducible show SrcTu _ _ _ _ _ _ _ _ _ _ _ _ _ _)); (fail_if_success (with_reducible show LCt.CompSrcT _ _ _ _ _ _ _ _ _ _ _ _ _ _ _)); first | ((fail_if_success (fail_if_success k_unfold)); (show wpAny _ _ _ _ _ _); (try dsimp only)) | (k_unfold; (try dsimp only)) | ((first | (with_reducible show wpAny _ _ (exec _ _) _ _ _) | (with_reducible show wpAny _ _ (isTrue _ _) _ _ _) | (with_reducible show wpAny _ _ (eval (Expr.Call _ _ _ _) _) _ _ _) | (with_reducible show wpAny _ _ (eval (Expr.Compare _ _ _ _) _) _ _ _) | (with_reducible show wpAny _ _ (eval (Expr.Subscript _ _ _) _) _ _ _)); k_fold) | (k_end; wrow_close) | walk1 | (dsimp only; walk1) | (leave1; walk_say "STEP leave1"; try dsimp only) | fail "no step"))
                  k_dflt (refine' LCt.CompSrcT.ledger rfl ?la1 ?lb1 ?lc1 ?ld1 ?le1)
                  case la1 => assumption
                  case lb1 => assumption
                  case lc1 => k_mem
                  case ld1 => rw [List.size_toArray, hTuA.length, sizeLine_eq]; omega
                  case le1 =>
                    intro g8
                    refine' comp_restT (GtJ (lawMv lots order) ws1 _) _ ?st1 ?fi1 _ 0 [] _ (Nat.zero_add _) ⟨rfl, .nil⟩
                    case st1 =>
                      rintro i ys5 news hi hJ08 v5 I5 oI5 C5 oC5 D5 m5 h tk E5 hv5 hC5 hx5 F5 N5 off5 -
                      (try ((with_reducible show wpAny _ _ _ _ _ _); k_fold))
                      obtain ⟨rfl, hJ⟩ := hJ08
                      obtain ⟨a', x', t', r', n', rfl, hx', hm'⟩ := hTuA.at hv5
                      have hgt : h.get? a' = some (tup1 x' t' r' n') := (N5 (a', tup1 x' t' r' n') (by (iterate 18 apply List.Mem.tail); exact hm')).1
                      have hb := hws1 x' (List.mem_of_getElem? hx')
                      (try ((with_reducible show wpAny _ _ _ _ _ _); k_fold))
                      obtain ⟨tv5, hval⟩ := hPi.at (fsIs_lookup (f := lawMv lots order) (n := (v + 4 - 0).toNat) hb.1 (hN4 _ hb.2))
                      dsimp only
                      (repeat' ((fail_if_success (with_reducible show wpAny _ _ (exec (Stmt.Assign [Expr.Name _ _] (Expr.IfExp _ _ _ _) _) _) _ _ _)); (fail_if_success (with_reducible show wpAny _ _ (call (Value.ref _) _ _) _ _ _)); (fail_if_success (with_reducible show wpAny _ _ (call (Value.builtin "sorted") _ _) _ _ _)); (fail_if_success (with_reducible show wpAny _ _ (eval (Expr.ListComp _ _ _ _) _) _ _ _)); (fail_if_success (with_reducible show wpAny _ _ (exec (Stmt.Assign _ (Expr.ListComp _ _ _ _) _) _) _ _ _)); (fail_if_success (with_reducible show SrcTu _ _ _ _ _ _ _ _ _ _ _ _ _ _)); (fail_if_success (with_reducible show LCt.CompSrcT _ _ _ _ _ _ _ _ _ _ _ _ _ _ _)); first | ((fail_if_success (fail_if_success k_unfold)); (show wpAny _ _ _ _ _ _); (try dsimp only)) | (k_unfold; (try dsimp only)) | ((first | (with_reducible show wpAny _ _ (exec _ _) _ _ _) | (with_reducible show wpAny _ _ (isTrue _ _) _ _ _) | (with_reducible show wpAny _ _ (eval (Expr.Call _ _ _ _) _) _ _ _) | (with_reducible show wpAny _ _ (eval (Expr.Compare _ _ _ _) _) _ _ _) | (with_reducible show wpAny _ _ (eval (Expr.Subscript _ _ _) _) _ _ _)); k_fold) | (k_end; wrow_close) | walk1 | (dsimp only; walk1) | (leave1; walk_say "STEP leave1"; try dsimp only) | fail "no step"))
                      · exact LCg.CompEnd.intro F5 N5 _ (fun p hp => hp) off5 (.inr ⟨_, by k_mem, rfl, _, rfl⟩) (GtJ.yes hJ hx' (by first | assumption | omega))
                      · exact LCg.CompEnd.intro F5 N5 _ (fun p hp => hp) off5 (.inr ⟨_, by k_mem, rfl, _, rfl⟩) (GtJ.no hJ hx' (by first | assumption | omega))
                    case fi1 =>
                      rintro ys1r news hJ09
                      (try ((with_reducible show wpAny _ _ _ _ _ _); k_fold))
                      obtain ⟨rfl, hJ⟩ := hJ09
                      intro D1r h tk F5 N5 q5
                      have hQ1 := wF_of hTuA.length hJ
                      refine comp_out F5 N5 q5 off1 (.tail _ (.head _)) ?_
                      refine LCg.CompRest.succ (k := 0) (fun w2 I2 oI2 C2 oC2' E2 mm2 hh2 tkk2 EE2 hv2 hC2 hx2 F N off2 ne2 => ?_)
                      clear ne2
                      (try ((with_reducible show wpAny _ _ _ _ _ _); k_fold))
                      obtain rfl : w2 = Value.ref aW2 := (Option.some.inj hv2).symm
                      dsimp only
                      (try ((with_reducible show wpAny _ _ _ _ _ _); k_fold))
                      k_dflt (refine LCt.ListComp_T (F₀ := by k_asm) (by with_unfolding_all rfl) (by decide) (by rfl) (by decide) (by rfl) ?_)
                      (repeat' ((fail_if_success (with_reducible show wpAny _ _ (exec (Stmt.Assign [Expr.Name _ _] (Expr.IfExp _ _ _ _) _) _) _ _ _)); (fail_if_success (with_reducible show wpAny _ _ (call (Value.ref _) _ _) _ _ _)); (fail_if_success (with_reducible show wpAny _ _ (call (Value.builtin "sorted") _ _) _ _ _)); (fail_if_success (with_reducible show wpAny _ _ (eval (Expr.ListComp _ _ _ _) _) _ _ _)); (fail_if_success (with_reducible show wpAny _ _ (exec (Stmt.Assign _ (Expr.ListComp _ _ _ _) _) _) _ _ _)); (fail_if_success (with_reducible show SrcTu _ _ _ _ _ _ _ _ _ _ _ _ _ _)); (fail_if_success (with_reducible show LCt.CompSrcT _ _ _ _ _ _ _ _ _ _ _ _ _ _ _)); first | ((fail_if_success (fail_if_success k_unfold)); (show wpAny _ _ _ _ _ _); (try dsimp only)) | (k_unfold; (try dsimp only)) | ((first | (with_reducible show wpAny _ _ (exec _ _) _ _ _) | (with_reducible show wpAny _ _ (isTrue _ _) _ _ _) | (with_reducible show wpAny _ _ (eval (Expr.Call _ _ _ _) _) _ _ _) | (with_reducible show wpAny _ _ (eval (Expr.Compare _ _ _ _) _) _ _ _) | (with_reducible show wpAny _ _ (eval (Expr.Subscript _ _ _) _) _ _ _)); k_fold) | (k_end; wrow_close) | walk1 | (dsimp only; walk1) | (leave1; walk_say "STEP leave1"; try dsimp only) | fail "no step"))
                      k_dflt (refine' LCt.CompSrcT.ledger rfl ?la2 ?lb2 ?lc2 ?ld2 ?le2)
                      case la2 => assumption
                      case lb2 => assumption
                      case lc2 => k_mem
                      case ld2 => rw [List.size_toArray, hTuB.length, sizeLine_eq]; omega
                      case le2 =>
                        intro g8
                        refine' comp_restT (GtJ (lawMv lots order) ws2 _) _ ?st2 ?fi2 _ 0 [] _ (Nat.zero_add _) ⟨rfl, .nil⟩
                        case st2 =>
                          rintro i ys5 news hi hJ010 v5 I5 oI5 C5 oC5 D5 m5 h tk E5 hv5 hC5 hx5 F5 N5 off5 -
                          (try ((with_reducible show wpAny _ _ _ _ _ _); k_fold))
                          obtain ⟨rfl, hJ⟩ := hJ010
                          obtain ⟨a', x', t', r', n', rfl, hx', hm'⟩ := hTuB.at hv5
                          have hgt : h.get? a' = some (tup1 x' t' r' n') := (N5 (a', tup1 x' t' r' n') (by (iterate 19 apply List.Mem.tail); exact hm')).1
                          have hb := hws2 x' (List.mem_of_getElem? hx')
                          (try ((with_reducible show wpAny _ _ _ _ _ _); k_fold))
                          obtain ⟨tv5, hval⟩ := hPi.at (fsIs_lookup (f := lawMv lots order) (n := (v + 4 - 0).toNat) hb.1 (hN4 _ hb.2))
                          dsimp only
                          (repeat' ((fail_if_success (with_reducible show wpAny _ _ (exec (Stmt.Assign [Expr.Name _ _] (Expr.IfExp _ _ _ _) _) _) _ _ _)); (fail_if_success (with_reducible show wpAny _ _ (call (Value.ref _) _ _) _ _ _)); (fail_if_success (with_reducible show wpAny _ _ (call (Value.builtin "sorted") _ _) _ _ _)); (fail_if_success (with_reducible show wpAny _ _ (eval (Expr.ListComp _ _ _ _) _) _ _ _)); (fail_if_success (with_reducible show wpAny _ _ (exec (Stmt.Assign _ (Expr.ListComp _ _ _ _) _) _) _ _ _)); (fail_if_success (with_reducible show SrcTu _ _ _ _ _ _ _ _ _ _ _ _ _ _)); (fail_if_success (with_reducible show LCt.CompSrcT _ _ _ _ _ _ _ _ _ _ _ _ _ _ _)); first | ((fail_if_success (fail_if_success k_unfold)); (show wpAny _ _ _ _ _ _); (try dsimp only)) | (k_unfold; (try dsimp only)) | ((first | (with_reducible show wpAny _ _ (exec _ _) _ _ _) | (with_reducible show wpAny _ _ (isTrue _ _) _ _ _) | (with_reducible show wpAny _ _ (eval (Expr.Call _ _ _ _) _) _ _ _) | (with_reducible show wpAny _ _ (eval (Expr.Compare _ _ _ _) _) _ _ _) | (with_reducible show wpAny _ _ (eval (Expr.Subscript _ _ _) _) _ _ _)); k_fold) | (k_end; wrow_close) | walk1 | (dsimp only; walk1) | (leave1; walk_say "STEP leave1"; try dsimp only) | fail "no step"))
                          · exact LCg.CompEnd.intro F5 N5 _ (fun p hp => hp) off5 (.inr ⟨_, by k_mem, rfl, _, rfl⟩) (GtJ.yes hJ hx' (by first | assumption | omega))
                          · exact LCg.CompEnd.intro F5 N5 _ (fun p hp => hp) off5 (.inr ⟨_, by k_mem, rfl, _, rfl⟩) (GtJ.no hJ hx' (by first | assumption | omega))
                        case fi2 =>
                          rintro ys2r news hJ011
                          (try ((with_reducible show wpAny _ _ _ _ _ _); k_fold))
                          obtain ⟨rfl, hJ⟩ := hJ011
                          intro D2r h tk F5 N5 q5
                          have hQ2 := wF_of hTuB.length hJ
                          refine comp_out F5 N5 q5 off2 (.tail _ (.tail _ (.head _))) ?_
                          refine LCg.CompRest.zero ?_
                          intro Df h tk F N qf
                          clear F5 N5 q5
                          dsimp only
                          (repeat' ((fail_if_success (with_reducible show wpAny _ _ (exec (Stmt.Assign [Expr.Name _ _] (Expr.IfExp _ _ _ _) _) _) _ _ _)); (fail_if_success (with_reducible show wpAny _ _ (call (Value.ref _) _ _) _ _ _)); (fail_if_success (with_reducible show wpAny _ _ (call (Value.builtin "sorted") _ _) _ _ _)); (fail_if_success (with_reducible show wpAny _ _ (eval (Expr.ListComp _ _ _ _) _) _ _ _)); (fail_if_success (with_reducible show wpAny _ _ (exec (Stmt.Assign _ (Expr.ListComp _ _ _ _) _) _) _ _ _)); (fail_if_success (with_reducible show SrcTu _ _ _ _ _ _ _ _ _ _ _ _ _ _)); (fail_if_success (with_reducible show LCt.CompSrcT _ _ _ _ _ _ _ _ _ _ _ _ _ _ _)); first | ((fail_if_success (fail_if_success k_unfold)); (show wpAny _ _ _ _ _ _); (try dsimp only)) | (k_unfold; (try dsimp only)) | ((first | (with_reducible show wpAny _ _ (exec _ _) _ _ _) | (with_reducible show wpAny _ _ (isTrue _ _) _ _ _) | (with_reducible show wpAny _ _ (eval (Expr.Call _ _ _ _) _) _ _ _) | (with_reducible show wpAny _ _ (eval (Expr.Compare _ _ _ _) _) _ _ _) | (with_reducible show wpAny _ _ (eval (Expr.Subscript _ _ _) _) _ _ _)); k_fold) | (k_end; wrow_close) | walk1 | (dsimp only; walk1) | (leave1; walk_say "STEP leave1"; try dsimp only) | fail "no step"))
                          (try ((with_reducible show wpAny _ _ _ _ _ _); k_fold))
                          obtain ⟨mZ, FZ, m1, m2, m3, m4⟩ : ∃ m, Fr _ _ h m ∧ m "one" = some (Value.ref aW1) ∧ m "other" = some (Value.ref aW2) ∧ m "options" = some (Value.ref o) ∧ m "firsts_of" = some (Value.ref Df) := ⟨_, F, by k_dflt exact rfl, by k_dflt exact rfl, by k_dflt exact rfl, by k_dflt exact rfl⟩
                          have F8 := fr_kst0 [(_, _), (_, _), (_, _), (_, _)] (kcons m1 (kcons m2 (kcons m3 (kcons m4 (knil))))) FZ
                          clear F FZ m1 m2 m3 m4
                          dsimp only [kstB] at F8
                          have N12 : News _ _ h ((Df, listOf #[.ref D1r, .ref D2r] 2) :: (D2r, listOf ys2r.toArray ys2r.length) :: (D1r, listOf ys1r.toArray ys1r.length) :: _) := N
                          clear N
                          have hTa := hTuA.mono (tl' := (aW1, listOf refs1.toArray kW1) :: (aW2, listOf refs2.toArray kW2) :: R) (fun p hp => .tail _ (.tail _ hp))
                          have hTb := hTuB.mono (tl' := (aW1, listOf refs1.toArray kW1) :: (aW2, listOf refs2.toArray kW2) :: R) (fun p hp => .tail _ (.tail _ hp))
                          have hwl1 : (wF (lawMv lots order) ws1).length ≤ 6 := wF_len h61
                          have hwl2 : (wF (lawMv lots order) ws2).length ≤ 6 := wF_len h62
                          k_dflt (refine' first_law ?u1 ?u2 ?u3 ?u4 ?u5 ?u6 ?u7 ?u8 ?u9 ?ua ?ub ?uc ?ud ?ue ?uf ?_; (case u1 => k_asm); (case u2 => k_asm); (case u3 => k_in); (case u4 => k_asm); (case u5 => k_asm); (case u6 => first | rfl | assumption); (case u7 => exact hRe); (case u8 => exact hSo); (case u9 => lcg_sub); (case ua => refine all_c (by k_mem) (all_c (by k_mem) fun p hp => ?_); repeat (first | exact hp | apply List.Mem.tail)); (case ub => exact .head _); (case uc => exact hTa); (case ud => exact h61); (case ue => ktr_room); (case uf => ktr_units); k_whole)
                          intro aA rA nA hA tkA hIA FA NA qA
                          rw [firstF_eq (f := lawMv lots order) (fun k => plain_moved hLO k) (fun x hx => (hws1 x hx).1)] at hIA
                          have hrA : rA.length ≤ 6 := by rw [hIA.length]; exact hwl1
                          clear qA
                          try k_sweep
                          dsimp only at FA NA ⊢
                          (repeat' ((fail_if_success (with_reducible show wpAny _ _ (exec (Stmt.Assign [Expr.Name _ _] (Expr.IfExp _ _ _ _) _) _) _ _ _)); (fail_if_success (with_reducible show wpAny _ _ (call (Value.ref _) _ _) _ _ _)); (fail_if_success (with_reducible show wpAny _ _ (call (Value.builtin "sorted") _ _) _ _ _)); (fail_if_success (with_reducible show wpAny _ _ (eval (Expr.ListComp _ _ _ _) _) _ _ _)); (fail_if_success (with_reducible show wpAny _ _ (exec (Stmt.Assign _ (Expr.ListComp _ _ _ _) _) _) _ _ _)); (fail_if_success (with_reducible show SrcTu _ _ _ _ _ _ _ _ _ _ _ _ _ _)); (fail_if_success (with_reducible show LCt.CompSrcT _ _ _ _ _ _ _ _ _ _ _ _ _ _ _)); first | ((fail_if_success (fail_if_success k_unfold)); (show wpAny _ _ _ _ _ _); (try dsimp only)) | (k_unfold; (try dsimp only)) | ((first | (with_reducible show wpAny _ _ (exec _ _) _ _ _) | (with_reducible show wpAny _ _ (isTrue _ _) _ _ _) | (with_reducible show wpAny _ _ (eval (Expr.Call _ _ _ _) _) _ _ _) | (with_reducible show wpAny _ _ (eval (Expr.Compare _ _ _ _) _) _ _ _) | (with_reducible show wpAny _ _ (eval (Expr.Subscript _ _ _) _) _ _ _)); k_fold) | (k_end; wrow_close) | walk1 | (dsimp only; walk1) | (leave1; walk_say "STEP leave1"; try dsimp only) | fail "no step"))
                          have hc3 := cmpF_range (wF (lawMv lots order) ws1) (wF (lawMv lots order) ws2)
                          have hcA := cmpF_swap (wF (lawMv lots order) ws1) (wF (lawMv lots order) ws2)
                          k_dflt (refine' wkey_law ?u1 ?u2 ?u3 ?u4 ?u5 ?u6 ?u7 ?u8 ?u9 ?ua ?ub ?uc ?ud ?ue ?uf ?_; (case u1 => k_asm); (case u2 => k_asm); (case u3 => k_in); (case u4 => k_asm); (case u5 => k_asm); (case u6 => first | rfl | assumption); (case u7 => exact hRe); (case u8 => exact hSo); (case u9 => lcg_sub); (case ua => refine all_c (by k_mem) (all_c (by k_mem) fun p hp => ?_); repeat (first | exact hp | apply List.Mem.tail)); (case ub => exact .head _); (case uc => exact hTa); (case ud => exact h61); (case ue => ktr_room); (case uf => ktr_units); k_whole)
                          intro aB2 rB nB hB tkB hIB FB NB qB
                          rw [firstF_eq (f := lawMv lots order) (fun k => plain_moved hLO k) (fun x hx => (hws1 x hx).1)] at hIB
                          have hrB : rB.length ≤ 6 := by rw [hIB.length]; exact hwl1
                          clear qB
                          try k_sweep
                          dsimp only at FB NB ⊢
                          (repeat' ((fail_if_success (with_reducible show wpAny _ _ (exec (Stmt.Assign [Expr.Name _ _] (Expr.IfExp _ _ _ _) _) _) _ _ _)); (fail_if_success (with_reducible show wpAny _ _ (call (Value.ref _) _ _) _ _ _)); (fail_if_success (with_reducible show wpAny _ _ (call (Value.builtin "sorted") _ _) _ _ _)); (fail_if_success (with_reducible show wpAny _ _ (eval (Expr.ListComp _ _ _ _) _) _ _ _)); (fail_if_success (with_reducible show wpAny _ _ (exec (Stmt.Assign _ (Expr.ListComp _ _ _ _) _) _) _ _ _)); (fail_if_success (with_reducible show SrcTu _ _ _ _ _ _ _ _ _ _ _ _ _ _)); (fail_if_success (with_reducible show LCt.CompSrcT _ _ _ _ _ _ _ _ _ _ _ _ _ _ _)); first | ((fail_if_success (fail_if_success k_unfold)); (show wpAny _ _ _ _ _ _); (try dsimp only)) | (k_unfold; (try dsimp only)) | ((first | (with_reducible show wpAny _ _ (exec _ _) _ _ _) | (with_reducible show wpAny _ _ (isTrue _ _) _ _ _) | (with_reducible show wpAny _ _ (eval (Expr.Call _ _ _ _) _) _ _ _) | (with_reducible show wpAny _ _ (eval (Expr.Compare _ _ _ _) _) _ _ _) | (with_reducible show wpAny _ _ (eval (Expr.Subscript _ _ _) _) _ _ _)); k_fold) | (k_end; wrow_close) | walk1 | (dsimp only; walk1) | (leave1; walk_say "STEP leave1"; try dsimp only) | fail "no step"))
                          k_dflt (refine' cut_int "due" (cmpF (wF (lawMv lots order) ws1) (wF (lawMv lots order) ws2)) ?q1 ?q2 ?qh ?qk; (case' q1 => k_asm); (case' q2 => k_asm))
                          case qh =>
                            repeat' ((fail_if_success (with_reducible show wpAny _ _ (call (Value.ref _) _ _) _ _ _)); (fail_if_success (with_reducible show wpAny _ _ (call (Value.builtin "sorted") _ _) _ _ _)); (fail_if_success (with_reducible show wpAny _ _ (eval (Expr.ListComp _ _ _ _) _) _ _ _)); (fail_if_success (with_reducible show wpAny _ _ (exec (Stmt.Assign _ (Expr.ListComp _ _ _ _) _) _) _ _ _)); (fail_if_success (with_reducible show SrcTu _ _ _ _ _ _ _ _ _ _ _ _ _ _)); (fail_if_success (with_reducible show LCt.CompSrcT _ _ _ _ _ _ _ _ _ _ _ _ _ _ _)); first | ((fail_if_success (fail_if_success k_unfold)); (show wpAny _ _ _ _ _ _); (try dsimp only)) | (k_unfold; (try dsimp only)) | ((first | (with_reducible show wpAny _ _ (exec _ _) _ _ _) | (with_reducible show wpAny _ _ (isTrue _ _) _ _ _) | (with_reducible show wpAny _ _ (eval (Expr.Call _ _ _ _) _) _ _ _) | (with_reducible show wpAny _ _ (eval (Expr.Compare _ _ _ _) _) _ _ _) | (with_reducible show wpAny _ _ (eval (Expr.Subscript _ _ _) _) _ _ _)); k_fold) | (k_end; wrow_close) | walk1 | (dsimp only; walk1) | (leave1; walk_say "STEP leave1"; try dsimp only) | fail "no step")
                            all_goals refine IntStored.intro (by assumption) (by assumption) ?_
                            all_goals first | exact (cmpF_eq0 (by assumption)).symm | exact (Eq.symm (by assumption)) | exact (cmpF_one hc3 (by assumption) (by assumption)).symm
                          case qk =>
                            intro hD1 tD1 kD1 FD1 ND1
                            clear hc3
                            try k_sweep
                            dsimp only at FD1 ND1 ⊢
                            (repeat' ((fail_if_success (with_reducible show wpAny _ _ (exec (Stmt.Assign [Expr.Name _ _] (Expr.IfExp _ _ _ _) _) _) _ _ _)); (fail_if_success (with_reducible show wpAny _ _ (call (Value.ref _) _ _) _ _ _)); (fail_if_success (with_reducible show wpAny _ _ (call (Value.builtin "sorted") _ _) _ _ _)); (fail_if_success (with_reducible show wpAny _ _ (eval (Expr.ListComp _ _ _ _) _) _ _ _)); (fail_if_success (with_reducible show wpAny _ _ (exec (Stmt.Assign _ (Expr.ListComp _ _ _ _) _) _) _ _ _)); (fail_if_success (with_reducible show SrcTu _ _ _ _ _ _ _ _ _ _ _ _ _ _)); (fail_if_success (with_reducible show LCt.CompSrcT _ _ _ _ _ _ _ _ _ _ _ _ _ _ _)); first | ((fail_if_success (fail_if_success k_unfold)); (show wpAny _ _ _ _ _ _); (try dsimp only)) | (k_unfold; (try dsimp only)) | ((first | (with_reducible show wpAny _ _ (exec _ _) _ _ _) | (with_reducible show wpAny _ _ (isTrue _ _) _ _ _) | (with_reducible show wpAny _ _ (eval (Expr.Call _ _ _ _) _) _ _ _) | (with_reducible show wpAny _ _ (eval (Expr.Compare _ _ _ _) _) _ _ _) | (with_reducible show wpAny _ _ (eval (Expr.Subscript _ _ _) _) _ _ _)); k_fold) | (k_end; wrow_close) | walk1 | (dsimp only; walk1) | (leave1; walk_say "STEP leave1"; try dsimp only) | fail "no step"))
                            k_dflt (refine' cw_law ?u1 ?u2 ?u3 ?u4 ?u5 ?u6 ?u7 ?u8 ?u9 ?ua ?ub ?uc ?ud ?uB ?uC ?uD ?ue ?uf ?_; (case u1 => k_asm); (case u2 => k_asm); (case u3 => k_in); (case u4 => k_asm); (case u5 => k_asm); (case u6 => first | rfl | assumption); (case u7 => exact hRe); (case u8 => exact hSo); (case u9 => lcg_sub); (case ua => refine all_c (by k_mem) (all_c (by k_mem) fun p hp => ?_); repeat (first | exact hp | apply List.Mem.tail)); (case ub => k_mem); (case uc => first | exact hTa | exact hTb); (case ud => first | exact h61 | exact h62); (case uB => k_mem); (case uC => first | exact hTa | exact hTb); (case uD => first | exact h61 | exact h62); (case ue => ktr_room); (case uf => ktr_units); k_whole)
                            intro tC1 hC1' kC1 FC1 NC1
                            rw [firstF_eq (f := lawMv lots order) (fun k => plain_moved hLO k) (fun x hx => (hws1 x hx).1), firstF_eq (f := lawMv lots order) (fun k => plain_moved hLO k) (fun x hx => (hws2 x hx).1)]
                            try k_sweep
                            dsimp only at FC1 NC1 ⊢
                            (repeat' ((fail_if_success (with_reducible show wpAny _ _ (exec (Stmt.Assign [Expr.Name _ _] (Expr.IfExp _ _ _ _) _) _) _ _ _)); (fail_if_success (with_reducible show wpAny _ _ (call (Value.ref _) _ _) _ _ _)); (fail_if_success (with_reducible show wpAny _ _ (call (Value.builtin "sorted") _ _) _ _ _)); (fail_if_success (with_reducible show wpAny _ _ (eval (Expr.ListComp _ _ _ _) _) _ _ _)); (fail_if_success (with_reducible show wpAny _ _ (exec (Stmt.Assign _ (Expr.ListComp _ _ _ _) _) _) _ _ _)); (fail_if_success (with_reducible show SrcTu _ _ _ _ _ _ _ _ _ _ _ _ _ _)); (fail_if_success (with_reducible show LCt.CompSrcT _ _ _ _ _ _ _ _ _ _ _ _ _ _ _)); first | ((fail_if_success (fail_if_success k_unfold)); (show wpAny _ _ _ _ _ _); (try dsimp only)) | (k_unfold; (try dsimp only)) | ((first | (with_reducible show wpAny _ _ (exec _ _) _ _ _) | (with_reducible show wpAny _ _ (isTrue _ _) _ _ _) | (with_reducible show wpAny _ _ (eval (Expr.Call _ _ _ _) _) _ _ _) | (with_reducible show wpAny _ _ (eval (Expr.Compare _ _ _ _) _) _ _ _) | (with_reducible show wpAny _ _ (eval (Expr.Subscript _ _ _) _) _ _ _)); k_fold) | (k_end; wrow_close) | walk1 | (dsimp only; walk1) | (leave1; walk_say "STEP leave1"; try dsimp only) | fail "no step"))
                            k_dflt (refine' cw_law ?u1 ?u2 ?u3 ?u4 ?u5 ?u6 ?u7 ?u8 ?u9 ?ua ?ub ?uc ?ud ?uB ?uC ?uD ?ue ?uf ?_; (case u1 => k_asm); (case u2 => k_asm); (case u3 => k_in); (case u4 => k_asm); (case u5 => k_asm); (case u6 => first | rfl | assumption); (case u7 => exact hRe); (case u8 => exact hSo); (case u9 => lcg_sub); (case ua => refine all_c (by k_mem) (all_c (by k_mem) fun p hp => ?_); repeat (first | exact hp | apply List.Mem.tail)); (case ub => k_mem); (case uc => first | exact hTa | exact hTb); (case ud => first | exact h61 | exact h62); (case uB => k_mem); (case uC => first | exact hTa | exact hTb); (case uD => first | exact h61 | exact h62); (case ue => ktr_room); (case uf => ktr_units); k_whole)
                            intro tC2 hC2' kC2 FC2 NC2
                            rw [firstF_eq (f := lawMv lots order) (fun k => plain_moved hLO k) (fun x hx => (hws2 x hx).1), firstF_eq (f := lawMv lots order) (fun k => plain_moved hLO k) (fun x hx => (hws1 x hx).1), hcA]
                            try k_sweep
                            dsimp only at FC2 NC2 ⊢
                            repeat' ((fail_if_success k_end); first | ((fail_if_success (fail_if_success k_unfold)); (show wpAny _ _ _ _ _ _); (try dsimp only)) | (k_unfold; (try dsimp only)) | walk1 | (dsimp only; walk1))
                            exact lawEnd FC2 (by assumption) (beq_iff_eq.mpr (by omega)))
end
end Mine
end
theorem PySem.Challenge.cw_pq1297_01_holds : PySem.Challenge.rw_pq1297_01.Holds :=
  Mine.law_holdsE
