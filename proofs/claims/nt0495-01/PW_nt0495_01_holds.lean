import PyProof.Rows.All
import Wide.All
import OpenK.AllK
import Wide.FinOn
import Lean
import PySem.Challenge.RW_nt0495_01
open PySem PySem.W PyProof.Rows PySem.Calls
set_option Elab.async false
namespace Mine
set_option maxRecDepth 100000 in
set_option maxHeartbeats 8000000 in
open_top hd for PySem.Challenge.rw_nt0495_01
noncomputable abbrev loose0 : List Str := looseW Mine.hd.view_39 [Str.ofString "PostError", Str.ofString "Path", Str.ofString "path_of"]

/-- objects that stand in a heap -/
def Has (h : Heap) (olds : List (Addr × Obj)) : Prop := ∀ p ∈ olds, h.get? p.1 = some p.2
/-- what a call of the def at f gives back, for all callers: nothing that stands is touched; what is made lies in tl -/
def Con (f : Addr) (lv : Nat) (ins : List Dat) (Out : List (Addr × Obj) → List (Addr × Obj) → Value → Prop) : Prop :=
  ∀ (w : World) (mean : ExcName → Option Value) (mg mb : Str → Option Value) (dp un : Nat) (gd : Option (List Code)) (cn : Str) (cs : Scope) (a : Addr) (ccd : Value) (cl : List (Str × Addr)) (outer : List Env) (A₀ : Around) (base h₀ : Heap) (L : Addr) (m : Str → Option Value) (olds : List (Addr × Obj)) (s : Shared) (vs : List Value) (Q E : Value → Shared → Prop),
    Below A₀ base outer h₀ → Fr h₀ L s.heap m → (Mine.hd.heap_39 w.params).In h₀ → Top Mine.hd.view_39 loose0 mean mg mb h₀ → cs.kind = .function → Has s.heap olds → DatAll olds vs ins → dp + lv < recursionLimit → un + 8 * lv < cLine →
    (∀ r tl h' tk', (∀ b o, s.heap.get? b = some o → h'.get? b = some o) → (∀ p ∈ tl, h'.get? p.1 = some p.2 ∧ s.heap.get? p.1 = none) → Out tl olds r → Q r { s with heap := h', toks := tk' }) →
    wpAny (model PySem.Challenge.rw_nt0495_01.row.prog w) (ktrTop dp un gd cn cs L a ccd cl outer) (call (.ref f) vs) Q E s
/-- all of it is new -/
abbrev New (out : Dat) : List (Addr × Obj) → List (Addr × Obj) → Value → Prop := fun tl _ r => DatIn tl r out
/-- new things and old ones -/
abbrev Mix (out : Dat) : List (Addr × Obj) → List (Addr × Obj) → Value → Prop := fun tl olds r => DatIn (tl ++ olds) r out

theorem news_tl {s : Shared} {h₀ h' : Heap} {L : Addr} {m : Str → Option Value} {news tl : List (Addr × Obj)} (F : Fr h₀ L s.heap m) (N : News h₀ L s.heap news) (hk : ∀ b o, s.heap.get? b = some o → h'.get? b = some o)
    (ht : ∀ p ∈ tl, h'.get? p.1 = some p.2 ∧ s.heap.get? p.1 = none) : News h₀ L h' (tl ++ news) := fun p hp => by
  rcases List.mem_append.mp hp with hp | hp
  · obtain ⟨h1, h2⟩ := ht p hp
    refine ⟨h1, fun e => ?_, ?_⟩
    · obtain ⟨oL, _, _, hL, _⟩ := F.ns
      rw [e, hL] at h2
      cases h2
    · cases q : h₀.get? p.1 with
      | none => rfl
      | some o => rw [F.keep _ _ q] at h2; cases h2
  · exact ⟨hk _ _ (N p hp).1, (N p hp).2⟩
theorem con_useG {f : Addr} {lv : Nat} {ins : List Dat} {Out : List (Addr × Obj) → List (Addr × Obj) → Value → Prop} (C : Con f lv ins Out) {big : List (Addr × Obj)}
    {w : World} {mean : ExcName → Option Value} {mg mb : Str → Option Value} {dp un : Nat} {gd : Option (List Code)} {cn : Str} {cs : Scope} {a : Addr} {ccd : Value} {cl : List (Str × Addr)} {outer : List Env} {A₀ : Around} {base h₀ : Heap} {L : Addr} {m : Str → Option Value} {news : List (Addr × Obj)} {s : Shared} {vs : List Value} {Q E : Value → Shared → Prop}
    (B : Below A₀ base outer h₀) (F : Fr h₀ L s.heap m) (X : (Mine.hd.heap_39 w.params).In h₀) (N : News h₀ L s.heap news) (T : Top Mine.hd.view_39 loose0 mean mg mb h₀) (hk : cs.kind = .function) (hb : Has s.heap big) (D : DatAll big vs ins) (hd : dp + lv < recursionLimit) (hu : un + 8 * lv < cLine)
    (ret : ∀ r tl h' tk', Fr h₀ L h' m → News h₀ L h' (tl ++ news) → (∀ q ∈ news, ∀ p ∈ tl, p.1 ≠ q.1) → Out tl big r → Q r { s with heap := h', toks := tk' }) :
    wpAny (model PySem.Challenge.rw_nt0495_01.row.prog w) (ktrTop dp un gd cn cs L a ccd cl outer) (call (.ref f) vs) Q E s := by
  refine C w mean mg mb dp un gd cn cs a ccd cl outer A₀ base h₀ L m big s vs Q E B F X T hk hb D hd hu fun r tl h' tk' hkeep htl ho => ?_
  refine ret r tl h' tk' (F.keeps hkeep) (news_tl F N hkeep htl) (fun q hq p hp e => ?_) ho
  have h1 := (htl p hp).2
  have h2 := (N q hq).1
  rw [e, h2] at h1
  exact nomatch h1
theorem con_use {f : Addr} {lv : Nat} {ins : List Dat} {Out : List (Addr × Obj) → List (Addr × Obj) → Value → Prop} (C : Con f lv ins Out) {bs : List (Addr × Obj)}
    {w : World} {mean : ExcName → Option Value} {mg mb : Str → Option Value} {dp un : Nat} {gd : Option (List Code)} {cn : Str} {cs : Scope} {a : Addr} {ccd : Value} {cl : List (Str × Addr)} {outer : List Env} {A₀ : Around} {base h₀ : Heap} {L : Addr} {m : Str → Option Value} {news : List (Addr × Obj)} {s : Shared} {vs : List Value} {Q E : Value → Shared → Prop}
    (B : Below A₀ base outer h₀) (F : Fr h₀ L s.heap m) (X : (Mine.hd.heap_39 w.params).In h₀) (N : News h₀ L s.heap news) (T : Top Mine.hd.view_39 loose0 mean mg mb h₀) (hk : cs.kind = .function) (hb : Has h₀ bs) (D : DatAll (news ++ bs) vs ins) (hd : dp + lv < recursionLimit) (hu : un + 8 * lv < cLine)
    (ret : ∀ r tl h' tk', Fr h₀ L h' m → News h₀ L h' (tl ++ news) → (∀ q ∈ news, ∀ p ∈ tl, p.1 ≠ q.1) → Out tl (news ++ bs) r → Q r { s with heap := h', toks := tk' }) :
    wpAny (model PySem.Challenge.rw_nt0495_01.row.prog w) (ktrTop dp un gd cn cs L a ccd cl outer) (call (.ref f) vs) Q E s := by
  refine C w mean mg mb dp un gd cn cs a ccd cl outer A₀ base h₀ L m (news ++ bs) s vs Q E B F X T hk (fun p hp => ?_) D hd hu fun r tl h' tk' hkeep htl ho => ?_
  · rcases List.mem_append.mp hp with hp | hp
    · exact (N p hp).1
    · exact F.keep _ _ (hb p hp)
  · refine ret r tl h' tk' (F.keeps hkeep) (news_tl F N hkeep htl) (fun q hq p hp e => ?_) ho
    have h1 := (htl p hp).2
    have h2 := (N q hq).1
    rw [e, h2] at h1
    exact nomatch h1
theorem news_pick {h₀ h : Heap} {L : Addr} {x : Addr × Obj} {tl news : List (Addr × Obj)} (N : News h₀ L h (tl ++ news)) (hm : x ∈ tl) : News h₀ L h (x :: news) := fun p hp => by
  rcases List.mem_cons.mp hp with rfl | hp
  · exact N _ (List.mem_append.mpr (.inl hm))
  · exact N _ (List.mem_append.mpr (.inr hp))
def AllNe (d : Nat) : List (Addr × Obj) → Prop
  | [] => True
  | p :: r => @Ne Nat p.1 d ∧ AllNe d r
theorem allNe_of {d : Addr} : ∀ {l : List (Addr × Obj)}, (∀ q ∈ l, d ≠ q.1) → AllNe d l
  | [], _ => trivial
  | p :: _, h => ⟨fun e => h p (.head _) e.symm, allNe_of fun q hq => h q (.tail _ hq)⟩
theorem allNe_mem {d : Addr} {l : List (Addr × Obj)} (h : AllNe d l) : ∀ p ∈ l, p.1 ≠ d := by
  induction l with
  | nil => intro p hp; exact absurd hp List.not_mem_nil
  | cons x r ih =>
    intro q hq
    cases List.mem_cons.mp hq with
    | inl e => rw [e]; exact h.1
    | inr hq => exact ih h.2 q hq

/-- a place where the walk is to stand still -/
structure Stop (P : Prop) : Prop where
  run : P
theorem stop_here {P : Prop} (h : Stop P) : P := h.run
def emptyOf (h : Heap) : Heap := { h with objs := #[] }
theorem Has.news {h : Heap} {olds : List (Addr × Obj)} (H : Has h olds) : News (emptyOf h) h.objs.size h olds := fun p hp =>
  ⟨H p hp, Nat.ne_of_lt (Heap.lt_size (H p hp)), by
    cases e : (emptyOf h).get? p.1 with
    | none => rfl
    | some o => exact absurd (Heap.lt_size e) (Nat.not_lt_zero _)⟩
theorem has_news {h₀ h : Heap} {L : Addr} {news : List (Addr × Obj)} (N : News h₀ L h news) : Has h news := fun p hp => (N p hp).1
theorem has_app {h : Heap} {a b : List (Addr × Obj)} (x : Has h a) (y : Has h b) : Has h (a ++ b) := fun p hp => (List.mem_append.mp hp).elim (x p) (y p)
theorem has_keep {h₀ h : Heap} {L : Addr} {m : Str → Option Value} {olds : List (Addr × Obj)} (F : Fr h₀ L h m) (H : Has h₀ olds) : Has h olds := fun p hp => F.keep _ _ (H p hp)
theorem has_sub {h₀ h : Heap} {L : Addr} {news l : List (Addr × Obj)} (N : News h₀ L h news) (hs : ∀ p ∈ l, p ∈ news) : Has h l := fun p hp => (N p (hs p hp)).1

abbrev Pt := Int × Int
abbrev Quad := Pt × Pt × Pt × Pt
def ptD (p : Pt) : Dat := .tuple [.int p.1, .int p.2]
def quadD (q : Quad) : Dat := .tuple [ptD q.1, ptD q.2.1, ptD q.2.2.1, ptD q.2.2.2]
def half (p q : Pt) : Pt := (Int.fdiv (p.1 + q.1) 2, Int.fdiv (p.2 + q.2) 2)
def half1 (q : Quad) : Quad := (q.1, half q.1 q.2.1, half (half q.1 q.2.1) (half q.2.1 q.2.2.1), half (half (half q.1 q.2.1) (half q.2.1 q.2.2.1)) (half (half q.2.1 q.2.2.1) (half q.2.2.1 q.2.2.2)))
def half2 (q : Quad) : Quad := (half (half (half q.1 q.2.1) (half q.2.1 q.2.2.1)) (half (half q.2.1 q.2.2.1) (half q.2.2.1 q.2.2.2)), half (half q.2.1 q.2.2.1) (half q.2.2.1 q.2.2.2), half q.2.2.1 q.2.2.2, q.2.2.2)
def iabs (x : Int) : Int := if x < 0 then -x else x
def imax (x y : Int) : Int := if y > x then y else x
def imin (x y : Int) : Int := if y < x then y else x
def farOf (a b c d : Int) : Int := imax (iabs (3 * b - 2 * a - d)) (iabs (3 * c - 2 * d - a))
def isFlat (q : Quad) (f : Int) : Bool := decide (0 + farOf q.1.1 q.2.1.1 q.2.2.1.1 q.2.2.2.1 ^ Int.toNat 2 + farOf q.1.2 q.2.1.2 q.2.2.1.2 q.2.2.2.2 ^ Int.toNat 2 ≤ 16 * f ^ Int.toNat 2)
def PB (B : Int) (p : Pt) : Prop := -B ≤ p.1 ∧ p.1 ≤ B ∧ -B ≤ p.2 ∧ p.2 ≤ B
def QB (B : Int) (q : Quad) : Prop := PB B q.1 ∧ PB B q.2.1 ∧ PB B q.2.2.1 ∧ PB B q.2.2.2

abbrev tupO (vs : List Value) (n : Nat) : Obj := { cls := .type "tuple", data := .seq vs.toArray n }
theorem Has.tup {h : Heap} {olds : List (Addr × Obj)} {a : Addr} {vs : List Value} {n : Nat} (H : Has h olds) (hm : (a, tupO vs n) ∈ olds) : IsTup h a vs.toArray := ⟨_, H _ hm, rfl, n, rfl⟩
theorem Has.list {h : Heap} {olds : List (Addr × Obj)} {a : Addr} {vs : List Value} {n : Nat} (H : Has h olds) (hm : (a, listOf vs.toArray n) ∈ olds) : h.IsList a vs.toArray := ⟨_, H _ hm, rfl, n, rfl⟩
theorem pt_of {news : List (Addr × Obj)} {v : Value} {p : Pt} (h : DatIn news v (ptD p)) : ∃ a n t1 t2, v = .ref a ∧ (a, tupO [Value.int p.1 t1, Value.int p.2 t2] n) ∈ news := by
  cases h with
  | tuple hm hd =>
    cases hd with
    | cons h1 hd =>
      cases hd with
      | cons h2 hd =>
        cases hd
        cases h1
        cases h2
        exact ⟨_, _, _, _, rfl, hm⟩
theorem quad_of {news : List (Addr × Obj)} {v : Value} {q : Quad} (h : DatIn news v (quadD q)) : ∃ a n v1 v2 v3 v4, v = .ref a ∧ (a, tupO [v1, v2, v3, v4] n) ∈ news ∧ DatIn news v1 (ptD q.1) ∧ DatIn news v2 (ptD q.2.1) ∧ DatIn news v3 (ptD q.2.2.1) ∧ DatIn news v4 (ptD q.2.2.2) := by
  cases h with
  | tuple hm hd =>
    cases hd with
    | cons h1 hd =>
      cases hd with
      | cons h2 hd =>
        cases hd with
        | cons h3 hd =>
          cases hd with
          | cons h4 hd =>
            cases hd
            exact ⟨_, _, _, _, _, _, rfl, hm, h1, h2, h3, h4⟩
theorem all1 {news : List (Addr × Obj)} {vs : List Value} {d : Dat} (h : DatAll news vs [d]) : ∃ v, vs = [v] ∧ DatIn news v d := by
  cases h with
  | cons h1 hd => cases hd; exact ⟨_, rfl, h1⟩
theorem all2 {news : List (Addr × Obj)} {vs : List Value} {d e : Dat} (h : DatAll news vs [d, e]) : ∃ v u, vs = [v, u] ∧ DatIn news v d ∧ DatIn news u e := by
  cases h with
  | cons h1 hd => obtain ⟨u, rfl, h2⟩ := all1 hd; exact ⟨_, _, rfl, h1, h2⟩
theorem all3 {news : List (Addr × Obj)} {vs : List Value} {d e f : Dat} (h : DatAll news vs [d, e, f]) : ∃ v u x, vs = [v, u, x] ∧ DatIn news v d ∧ DatIn news u e ∧ DatIn news x f := by
  cases h with
  | cons h1 hd => obtain ⟨u, x, rfl, h2, h3⟩ := all2 hd; exact ⟨_, _, _, rfl, h1, h2, h3⟩
theorem all4 {news : List (Addr × Obj)} {vs : List Value} {d e f g : Dat} (h : DatAll news vs [d, e, f, g]) : ∃ v u x y, vs = [v, u, x, y] ∧ DatIn news v d ∧ DatIn news u e ∧ DatIn news x f ∧ DatIn news y g := by
  cases h with
  | cons h1 hd => obtain ⟨u, x, y, rfl, h2, h3, h4⟩ := all3 hd; exact ⟨_, _, _, _, rfl, h1, h2, h3, h4⟩
theorem all5 {news : List (Addr × Obj)} {vs : List Value} {d e f g k : Dat} (h : DatAll news vs [d, e, f, g, k]) : ∃ v u x y z, vs = [v, u, x, y, z] ∧ DatIn news v d ∧ DatIn news u e ∧ DatIn news x f ∧ DatIn news y g ∧ DatIn news z k := by
  cases h with
  | cons h1 hd => obtain ⟨u, x, y, z, rfl, h2, h3, h4, h5⟩ := all4 hd; exact ⟨_, _, _, _, _, rfl, h1, h2, h3, h4, h5⟩
theorem int_of {news : List (Addr × Obj)} {v : Value} {i : Int} (h : DatIn news v (.int i)) : ∃ t, v = .int i t := by cases h; exact ⟨_, rfl⟩
theorem str_of {news : List (Addr × Obj)} {v : Value} {i : Str} (h : DatIn news v (.str i)) : ∃ t, v = .str i t := by cases h; exact ⟨_, rfl⟩
theorem bool_of {news : List (Addr × Obj)} {v : Value} {b : Bool} (h : DatIn news v (.bool b)) : v = .bool b := by cases h; rfl
theorem tup2_of {news : List (Addr × Obj)} {v : Value} {d e : Dat} (h : DatIn news v (.tuple [d, e])) : ∃ a n v1 v2, v = .ref a ∧ (a, tupO [v1, v2] n) ∈ news ∧ DatIn news v1 d ∧ DatIn news v2 e := by
  cases h with
  | tuple hm hd => obtain ⟨v, u, rfl, h1, h2⟩ := all2 hd; exact ⟨_, _, _, _, rfl, hm, h1, h2⟩
theorem list_of {news : List (Addr × Obj)} {v : Value} {ds : List Dat} (h : DatIn news v (.list ds)) : ∃ a vs n, v = .ref a ∧ (a, listOf vs.toArray n) ∈ news ∧ DatAll news vs ds := by
  cases h with
  | list hm hd => exact ⟨_, _, _, rfl, hm, hd⟩

/-- into the body of a def: all that stands is the ground -/
theorem enterC {prog : Program} {w : World} {s : Shared} {K : Frag} {mean : ExcName → Option Value} {mg mb : Str → Option Value} {p : Program} {loose : List Str} {Q E : Value → Shared → Prop} {name qual : Str} {params : Arguments} {body : List Stmt} {scope : Scope} {dV kV doc pm cdv ct oc : Value} {an od : Option Addr} {osl : Array (Option Value)} {f : Addr} {args : List Value} {binds : List (Str × Value)}
    {dp un : Nat} {gd : Option (List Code)} {cn : Str} {cs : Scope} {a : Addr} {ccd : Value} {cl : List (Str × Addr)} {outer : List Env} {A₀ : Around} {base h₀ : Heap} {L : Addr} {m : Str → Option Value}
    (B : Below A₀ base outer h₀) (F : Fr h₀ L s.heap m) (X : K.In h₀) (T : Top p loose mean mg mb h₀) (hck : cs.kind = .function)
    (ho : K.lookup f = some ⟨oc, od, .func (fnOf name qual params body scope dV kV doc pm an cdv ct), osl⟩) (hcd : codeIn K cdv qual = true) (hroom : dp < recursionLimit)
    (hbind : BindsTo s (fnOf name qual params body scope dV kV doc pm an cdv ct) ⟨args, []⟩ binds) (hloc : ∀ y ∈ binds, scope.names.lookup y.1 = some .local)
    (h : ∀ L' h₁, Fr s.heap L' h₁ (fun y => binds.reverse.lookup y) → News s.heap L' h₁ [] → Below (ktrTop dp un gd cn cs L a ccd cl outer) base (envX cn cs L a ccd cl :: outer) s.heap → K.In s.heap → Top p loose mean mg mb s.heap →
      wpAny (model prog w) ((ktrTop dp un gd cn cs L a ccd cl outer).deeper (envOf qual scope L' f cdv)) (execs body (envOf qual scope L' f cdv))
        (fun fl s' => Q (match fl with | .ret v => v | _ => .none) s')
        (fun _ _ => False)
        { s with heap := h₁, toks := s.toks + binds.length })
    (hco : scope.isCoroutine = false) (hgen : scope.isGenerator = false) (hk : scope.kind = .function)
    (hcell : ∀ x ∈ scope.names, x.2 ≠ .cell) : wpAny (model prog w) (ktrTop dp un gd cn cs L a ccd cl outer) (call (.ref f) args) Q E s := by
  refine wpAny_call ?_
  have X' := X.keeps F.keep
  have T' := T.keeps F.keep
  have B₁ := pushX (env := envX cn cs L a ccd cl) B F rfl hck
  refine codeAny_call_def (fd := fnOf name qual params body scope dV kV doc pm an cdv ct) (body := body) (binds := binds) hroom (X' _ _ ho) rfl T'.nolimit (codeRec_of X' hcd) rfl hbind hcell hloc (fun h₁ hns hk₁ => ?_) hco hgen hk
  exact wpAny_mono (h _ h₁ ⟨hns, hk₁, Nat.le_refl _⟩ News.nil ⟨rfl, B₁.stays, B₁.frames⟩ X' T') (fun _ _ x => x) fun _ _ x => x.elim

theorem con_end {s : Shared} {h' : Heap} {L' : Addr} {m' : Str → Option Value} {led olds : List (Addr × Obj)} {Out : List (Addr × Obj) → List (Addr × Obj) → Value → Prop} {Q : Value → Shared → Prop} {r : Value} {tk' : Nat}
    (hret : ∀ r tl h' tk', (∀ b o, s.heap.get? b = some o → h'.get? b = some o) → (∀ p ∈ tl, h'.get? p.1 = some p.2 ∧ s.heap.get? p.1 = none) → Out tl olds r → Q r { s with heap := h', toks := tk' })
    (F : Fr s.heap L' h' m') (N : News s.heap L' h' led) (O : Out led olds r) : Q r { s with heap := h', toks := tk' } :=
  hret r led h' tk' F.keep (fun p hp => ⟨(N p hp).1, (N p hp).2.2⟩) O
theorem datAll_concat {news : List (Addr × Obj)} {vs : List Value} {ds : List Dat} {d : Dat} (h : DatAll news vs (ds ++ [d])) : ∃ ws v, vs = ws ++ [v] ∧ DatAll news ws ds ∧ DatIn news v d := by
  induction ds generalizing vs with
  | nil => obtain ⟨v, rfl, h1⟩ := all1 h; exact ⟨[], v, rfl, .nil, h1⟩
  | cons e es ih =>
    cases h with
    | cons h1 h2 =>
      obtain ⟨ws, v, rfl, h3, h4⟩ := ih h2
      exact ⟨_ :: ws, v, rfl, .cons h1 h3, h4⟩
open Classical in
theorem ne_nil1 {prog : Program} {w : World} {A : Around} {E : Value → Shared → Prop} {s : Shared} {a b : Addr} {olds : List (Addr × Obj)} {xs : List Value} {y : Value} {ka kb : Nat} {ds : List Dat} {Q : Value → Shared → Prop}
    (H : Has s.heap olds) (ma : (a, listOf (xs ++ [y]).toArray ka) ∈ olds) (mb : (b, listOf ([] : List Value).toArray kb) ∈ olds) (Da : DatAll olds (xs ++ [y]) ds) (ha : ∀ d ∈ ds, kqdOk 8 d = true) (hu : A.units + 64 < cLine) (h : Q (.bool true) s) :
    wpAny (model prog w) A (compareOp .NotEq (.ref a) (.ref b)) Q E s := by
  refine kqd_ne H.news ma rfl rfl Da (fun _ h => h) mb rfl rfl DatAll.nil (fun _ h => h) ha (fun _ h => nomatch h) hu ?_
  have e : ds ≠ [] := by
    rintro rfl
    cases xs <;> cases Da
  rw [decide_eq_false e]
  exact h
open Classical in
theorem ne_nil0 {prog : Program} {w : World} {A : Around} {E : Value → Shared → Prop} {s : Shared} {a b : Addr} {olds : List (Addr × Obj)} {ka kb : Nat} {Q : Value → Shared → Prop}
    (H : Has s.heap olds) (ma : (a, listOf ([] : List Value).toArray ka) ∈ olds) (mb : (b, listOf ([] : List Value).toArray kb) ∈ olds) (hu : A.units + 64 < cLine) (h : Q (.bool false) s) :
    wpAny (model prog w) A (compareOp .NotEq (.ref a) (.ref b)) Q E s := by
  refine kqd_ne H.news ma rfl rfl DatAll.nil (fun _ h => h) mb rfl rfl DatAll.nil (fun _ h => h) (fun _ h => nomatch h) (fun _ h => nomatch h) hu ?_
  rw [decide_eq_true rfl]
  exact h
theorem sep_app {tl T news : List (Addr × Obj)} {d : Addr} {o : Obj} (h : ∀ q ∈ news, ∀ p ∈ tl, p.1 ≠ q.1) (hq : (d, o) ∈ news) (hT : ∀ p ∈ T, p.1 ≠ d) : ∀ p ∈ tl ++ T, p.1 ≠ d := fun p hp =>
  (List.mem_append.mp hp).elim (h _ hq p) (hT p)
theorem news_back3 {h₀ h : Heap} {L : Addr} {a b c : Addr × Obj} {tl T : List (Addr × Obj)} (N : News h₀ L h (tl ++ (a :: b :: c :: T))) : News h₀ L h (a :: b :: c :: (tl ++ T)) := fun p hp => N p (by
  simp only [List.mem_append, List.mem_cons] at hp ⊢
  rcases hp with h | h | h | h | h
  · exact .inr (.inl h)
  · exact .inr (.inr (.inl h))
  · exact .inr (.inr (.inr (.inl h)))
  · exact .inl h
  · exact .inr (.inr (.inr (.inr h))))
/-- into the body of a def whose blocks take some of its names -/
theorem enterCC {prog : Program} {w : World} {s : Shared} {K : Frag} {mean : ExcName → Option Value} {mg mb : Str → Option Value} {p : Program} {loose : List Str} {Q E : Value → Shared → Prop} {name qual : Str} {params : Arguments} {body : List Stmt} {scope : Scope} {dV kV doc pm cdv ct oc : Value} {an od : Option Addr} {osl : Array (Option Value)} {f : Addr} {args : List Value} {binds : List (Str × Value)}
    {dp un : Nat} {gd : Option (List Code)} {cn : Str} {cs : Scope} {a : Addr} {ccd : Value} {cl : List (Str × Addr)} {outer : List Env} {A₀ : Around} {base h₀ : Heap} {L : Addr} {m : Str → Option Value}
    (B : Below A₀ base outer h₀) (F : Fr h₀ L s.heap m) (X : K.In h₀) (T : Top p loose mean mg mb h₀) (hck : cs.kind = .function)
    (ho : K.lookup f = some ⟨oc, od, .func (fnOf name qual params body scope dV kV doc pm an cdv ct), osl⟩) (hcd : codeIn K cdv qual = true) (hroom : dp < recursionLimit)
    (hbind : BindsTo s (fnOf name qual params body scope dV kV doc pm an cdv ct) ⟨args, []⟩ binds) (hkind : (binds.all fun y => scope.names.lookup y.1 == some .local || scope.names.lookup y.1 == some .cell) = true)
    (hnd : ((cellsFrom 0 scope.names []).map (·.1)).Nodup)
    (h : ∀ L' h₁ tk cells, Fr s.heap L' h₁ (bindL (envOfC qual scope L' f cdv).kindOf binds fun _ => none) → News s.heap L' h₁ cells →
      CellsAre (bindC (envOfC qual scope L' f cdv).kindOf binds fun _ => none) (cellsFrom (L' + 1) scope.names []) cells → Below (ktrTop dp un gd cn cs L a ccd cl outer) base (envX cn cs L a ccd cl :: outer) s.heap → K.In s.heap → Top p loose mean mg mb s.heap →
      wpAny (model prog w) ((ktrTop dp un gd cn cs L a ccd cl outer).deeper (envOfC qual scope L' f cdv)) (execs body (envOfC qual scope L' f cdv))
        (fun fl s' => Q (match fl with | .ret v => v | _ => .none) s')
        (fun _ _ => False)
        { s with heap := h₁, toks := tk })
    (hco : scope.isCoroutine = false) (hgen : scope.isGenerator = false) (hk : scope.kind = .function) : wpAny (model prog w) (ktrTop dp un gd cn cs L a ccd cl outer) (call (.ref f) args) Q E s := by
  refine wpAny_call ?_
  have X' := X.keeps F.keep
  have T' := T.keeps F.keep
  have B₁ := pushX (env := envX cn cs L a ccd cl) B F rfl hck
  refine codeAny_call_function (fd := fnX name qual params body scope [] dV kV doc pm an cdv ct) hroom (X' _ _ ho) rfl hco hgen rfl (codeRec_of X' hcd) (hbind _ _ _ _ ?_)
  refine wpAny_newFunctionEnv_cells hk (kindsX hkind _) fun env' he s' x => ?_
  subst he
  refine ⟨T'.nolimit.keeps x.toInCall.keep, codeAny_func ?_⟩
  obtain ⟨h₁, tk, rfl, _⟩ := x.done
  have hk₁ := x.toInCall.keep
  obtain ⟨cells, NC, Y⟩ := Cl.news (h₀ := s.heap) (Nat.le_refl _) fun n c hm => ⟨x.cell n c (lookup_of_mem_nodup (cellsFrom_names scope.names 0 (s.heap.objs.size + 1) [] [] rfl ▸ hnd) hm), x.above n c hm⟩
  exact wpAny_mono (h s.heap.objs.size h₁ tk cells ⟨x.toInCall.ns, hk₁, Nat.le_refl _⟩ NC Y ⟨rfl, B₁.stays, B₁.frames⟩ X' T') (fun _ _ x => x) fun _ _ x => x.elim

/-- the same, with the names written out -/
theorem enterCC3 {prog : Program} {w : World} {s : Shared} {K : Frag} {mean : ExcName → Option Value} {mg mb : Str → Option Value} {p : Program} {loose : List Str} {Q E : Value → Shared → Prop} {name qual : Str} {params : Arguments} {body : List Stmt} {scope : Scope} {dV kV doc pm cdv ct oc : Value} {an od : Option Addr} {osl : Array (Option Value)} {f : Addr} {args : List Value}
    {dp un : Nat} {gd : Option (List Code)} {cn : Str} {cs : Scope} {a : Addr} {ccd : Value} {cl : List (Str × Addr)} {outer : List Env} {A₀ : Around} {base h₀ : Heap} {L : Addr} {m : Str → Option Value} (binds : List (Str × Value)) (m0 c0 : Str → Option Value)
    (B : Below A₀ base outer h₀) (F : Fr h₀ L s.heap m) (X : K.In h₀) (T : Top p loose mean mg mb h₀) (hck : cs.kind = .function)
    (ho : K.lookup f = some ⟨oc, od, .func (fnOf name qual params body scope dV kV doc pm an cdv ct), osl⟩) (hcd : codeIn K cdv qual = true) (hroom : dp < recursionLimit)
    (hbind : BindsTo s (fnOf name qual params body scope dV kV doc pm an cdv ct) ⟨args, []⟩ binds) (hkind : (binds.all fun y => scope.names.lookup y.1 == some .local || scope.names.lookup y.1 == some .cell) = true)
    (hnd : ((cellsFrom 0 scope.names []).map (·.1)).Nodup) (hm0 : bindL (fun x => scope.names.lookup x) binds (fun _ => none) = m0) (hc0 : bindC (fun x => scope.names.lookup x) binds (fun _ => none) = c0)
    (h : ∀ L' h₁ tk cells, Fr s.heap L' h₁ m0 → News s.heap L' h₁ cells →
      CellsAre c0 (cellsFrom (L' + 1) scope.names []) cells → Below (ktrTop dp un gd cn cs L a ccd cl outer) base (envX cn cs L a ccd cl :: outer) s.heap → K.In s.heap → Top p loose mean mg mb s.heap →
      wpAny (model prog w) ((ktrTop dp un gd cn cs L a ccd cl outer).deeper (envOfC qual scope L' f cdv)) (execs body (envOfC qual scope L' f cdv))
        (fun fl s' => Q (match fl with | .ret v => v | _ => .none) s')
        (fun _ _ => False)
        { s with heap := h₁, toks := tk })
    (hco : scope.isCoroutine = false) (hgen : scope.isGenerator = false) (hk : scope.kind = .function) : wpAny (model prog w) (ktrTop dp un gd cn cs L a ccd cl outer) (call (.ref f) args) Q E s :=
  enterCC B F X T hck ho hcd hroom hbind hkind hnd (fun L' h₁ tk cells F' N' Y' => h L' h₁ tk cells (hm0 ▸ F') N' (hc0 ▸ Y')) hco hgen hk
def Bd (n : Nat) (x : Int) : Prop := x.natAbs < 2 ^ n
theorem Bd.le {n k : Nat} {x : Int} (h : Bd n x) (hk : n ≤ k) : Bd k x := Nat.lt_of_lt_of_le h (Nat.pow_le_pow_right (by decide) hk)
theorem Bd.add {n k : Nat} {x y : Int} (h : Bd n x) (g : Bd k y) : Bd (max n k + 1) (x + y) := by
  have h1 := h.le (Nat.le_max_left n k)
  have h2 := g.le (Nat.le_max_right n k)
  unfold Bd at *
  rw [Nat.pow_succ]
  omega
theorem Bd.sub {n k : Nat} {x y : Int} (h : Bd n x) (g : Bd k y) : Bd (max n k + 1) (x - y) := by
  have h1 := h.le (Nat.le_max_left n k)
  have h2 := g.le (Nat.le_max_right n k)
  unfold Bd at *
  rw [Nat.pow_succ]
  omega
theorem Bd.mul {n k : Nat} {x y : Int} (h : Bd n x) (g : Bd k y) : Bd (n + k) (x * y) := by
  unfold Bd at *
  rw [Int.natAbs_mul, Nat.pow_add]
  exact Nat.mul_lt_mul'' h g
theorem Bd.sq {n : Nat} {x : Int} (h : Bd n x) : Bd (n + n) (x ^ Int.toNat 2) := by
  have e : x ^ Int.toNat 2 = x * x := by show x ^ 2 = _; rw [Int.pow_succ, Int.pow_succ, Int.pow_zero, Int.one_mul]
  rw [e]
  exact h.mul h
theorem Bd.cube {n : Nat} {x : Int} (h : Bd n x) : Bd (n + n + n) (x ^ Int.toNat 3) := by
  have e : x ^ Int.toNat 3 = x * x * x := by show x ^ 3 = _; rw [Int.pow_succ, Int.pow_succ, Int.pow_succ, Int.pow_zero, Int.one_mul]
  rw [e]
  exact (h.mul h).mul h
theorem Bd.of {n : Nat} {x : Int} (h : -(2 ^ n : Int) < x ∧ x < 2 ^ n) : Bd n x := by
  unfold Bd
  have e : ((2 ^ n : Nat) : Int) = (2 : Int) ^ n := by simp
  omega
theorem Bd.ite {n k : Nat} {c : Prop} [Decidable c] {x y : Int} (h : Bd n x) (g : Bd k y) : Bd (max n k) (if c then x else y) := by
  split
  · exact h.le (Nat.le_max_left n k)
  · exact g.le (Nat.le_max_right n k)
theorem Bd.neg {n : Nat} {x : Int} (h : Bd n x) : Bd n (-x) := by
  unfold Bd at *
  rw [Int.natAbs_neg]
  exact h
theorem Bd.lt64 {n : Nat} {x : Int} (h : Bd n x) (hn : n ≤ 64) : x.natAbs < 2 ^ 64 := h.le hn
theorem bd_mulL {n : Nat} {x y : Int} (h : Bd n x) (hn : n ≤ 64) : IntMulOk x y := .of_left (intBits_le (h.lt64 hn))

/-- a block over a range with a step -/
def StepSrc (prog : Program) (w : World) (A : Around) (h₀ : Heap) (L : Addr) (m : Str → Option Value) (env : Env) (elt : Expr) (x : Str) (scope : Scope) (cl : List (Str × Addr)) (Fin : Shared → List Value → List (Addr × Obj) → Prop) (xv : Value) (s₁ : Shared) : Prop :=
  ∃ r a b c t u v n news, xv = .ref r ∧ A.handled = none ∧ Fr h₀ L s₁.heap m ∧ News h₀ L s₁.heap news ∧ IsRange s₁.heap r a b c t u v ∧ Builtin.Range.small a b c = true ∧ Builtin.Range.rangeSize a b c = ((n : Nat) : Int) ∧ n ≤ sizeLine ∧
    ∀ s₂ : Shared, (∃ h, s₂ = { s₁ with heap := h }) → LCg.CompRest prog w A h₀ L m env elt x scope cl s₂ (fun _ => True) (fun i v => ∃ t, v = .int (a + (i : Int) * c) t) (Fin s₂) n 0 [] news
theorem StepSrc.mk {prog : Program} {w : World} {A : Around} {h₀ : Heap} {L : Addr} {m : Str → Option Value} {env : Env} {elt : Expr} {x : Str} {scope : Scope} {cl : List (Str × Addr)} {Fin : Shared → List Value → List (Addr × Obj) → Prop} {r : Addr} {a b c : Int} {t u v : Tok} (n : Nat) {news : List (Addr × Obj)} {s₁ : Shared}
    (hh : A.handled = none) (F : Fr h₀ L s₁.heap m) (N : News h₀ L s₁.heap news) (hr : IsRange s₁.heap r a b c t u v) (hsm : Builtin.Range.small a b c = true) (hn : Builtin.Range.rangeSize a b c = ((n : Nat) : Int)) (hsz : n ≤ sizeLine)
    (h : ∀ g, LCg.CompRest prog w A h₀ L m env elt x scope cl { s₁ with heap := g } (fun _ => True) (fun i v => ∃ t, v = .int (a + (i : Int) * c) t) (Fin { s₁ with heap := g }) n 0 [] news) :
    StepSrc prog w A h₀ L m env elt x scope cl Fin (.ref r) s₁ := ⟨r, a, b, c, t, u, v, n, news, rfl, hh, F, N, hr, hsm, hn, hsz, fun _ ⟨g, e⟩ => e ▸ h g⟩
theorem ListComp_step {prog : Program} {w : World} {A : Around} {E : Value → Shared → Prop} {s : Shared} {h₀ : Heap} {L : Addr} {m : Str → Option Value} {env : Env} {elt iter : Expr} {x : Str} {px : Pos} {scope : Scope} {cl : List (Str × Addr)} {pos : Pos} {Q : Value → Shared → Prop} (_F₀ : Fr h₀ L s.heap m)
    (hclos : closureFor scope env = pure cl) (hcell : ∀ y ∈ scope.names, y.2 ≠ .cell) (hkind : scope.kind = .function)
    (hnames : ∀ y ∈ scope.names, y.2 = .local → scope.names.lookup y.1 = some .local) (hx : scope.names.lookup x = some .local)
    (h : wpAny (model prog w) A (eval iter env) (StepSrc prog w A h₀ L m env elt x scope cl (fun s₂ => LCg.FinE h₀ L m s₂ Q)) E s)
    (hs : ∀ x, foldedSetIterable iter env x = pure x := by intro _; rfl) :
    wpAny (model prog w) A (eval (.ListComp elt [⟨.Name x px, iter, [], 0⟩] scope pos) env) Q E s := by
  rw [eval_ListComp]
  refine wpAny_comprehension_free (use := none) rfl hs hclos hkind hnames (wpAny_mono h (fun xv s₁ h₁ => ?_) fun _ _ e => e)
  obtain ⟨r, a, b, c, t, u, v, n, news, rfl, hh, F, N, hr, hsm, hn, hsz, R⟩ := h₁
  refine wpAny_pyIter_range hr hsm ?_
  refine LCg.block_U (Walks.range hh _ a c n) hsz (fun i h st => ⟨_, st⟩) (fun i h h' o nw st e e' _ _ _ => by
      have st' : h.get? _ = some _ := st
      show h'.get? _ = some _
      rw [e', ← e]; exact st') hcell hkind hx (by show IsRangeIter _ _ _ _ _; rw [hn]; simpa using Heap.get?_push_size _ rfl) (fun b hb => ?_)
    (F.keeps fun _ _ e => Heap.get?_push_of_some _ e) (N.grown fun _ _ e => Heap.get?_push_of_some _ e) (Nat.ne_of_lt F.ns.lt) (next_is_new F) (fun p hp => Nat.ne_of_lt (Heap.lt_size (N p hp).1)) trivial (R _ ⟨_, rfl⟩) ?_
  · rw [List.mem_singleton.mp hb]
    show s₁.heap.objs.size < (s₁.heap.push _).objs.size
    rw [Heap.size_push]; exact Nat.lt_succ_self _
  · intro D C h tk m' ys news' F' N' o1 hn hC₀ hD₀ hCL hDL hCD offC fin
    refine ⟨m', hn, fun h'' hs'' => fin D h'' tk (F'.change hs'' hCL hC₀) (fun p hp => ?_) o1⟩
    refine ⟨hs''.extBut _ _ ?_ (N' p hp).1, (N' p hp).2⟩
    rcases List.mem_cons.mp hp with rfl | hp
    · exact Ne.symm hCD
    · exact offC p hp

/-- a block with a test over things of any number, by what holds after i turns; what a turn makes besides is dropped -/
theorem compRestT_ind {prog : Program} {w : World} {A : Around} {h₀ : Heap} {L : Addr} {m : Str → Option Value} {env : Env} {ct elt : Expr} {x : Str} {scope : Scope} {cl : List (Str × Addr)} {s : Shared} {S : List (Addr × Obj) → Prop} {P : Nat → Value → Prop} {Fin : List Value → List (Addr × Obj) → Prop} {news : List (Addr × Obj)}
    (Inv : Nat → List Value → Prop) (n : Nat) (fin : ∀ ys, Inv n ys → Fin ys news)
    (step : ∀ i ys (R : List Value → List (Addr × Obj) → Prop), i < n → Inv i ys → (∀ ys', Inv (i + 1) ys' → R ys' news) → ∀ v I oI C oC D m₂ h tk (E' : Value → Shared → Prop), P i v → LCg.NsObj oC m₂ → m₂ x = some v → Fr h₀ L h m → News h₀ L h ((I, oI) :: (C, oC) :: (D, LCg.lst ys) :: news) → LCg.Off3 I C D news → ((@Ne Nat I C) ∧ (@Ne Nat I D) ∧ (@Ne Nat C D)) →
      wpAny (model prog w) A (isTrue ct (compEnvC scope cl C env) (eval ct (compEnvC scope cl C env))) (fun ok s' => if ok = true then
        wpAny (model prog w) A (eval elt (compEnvC scope cl C env)) (LCg.CompEnd h₀ L m { s with heap := h, toks := tk } I oI C oC D (LCg.lst ys) S (fun y news' => R (ys ++ [y]) news')) E' s'
        else LCg.CompEnd h₀ L m { s with heap := h, toks := tk } I oI C oC D (LCg.lst ys) S (fun _ news' => R ys news') Value.none s') E' { s with heap := h, toks := tk }) :
    ∀ k i ys, i + k = n → Inv i ys → LCt.CompRestT prog w A h₀ L m env ct elt x scope cl s S P Fin k i ys news := by
  intro k
  induction k with
  | zero => intro i ys e hi; exact LCt.CompRestT.zero (fin ys ((show i = n from e) ▸ hi))
  | succ k ih =>
    intro i ys e hi
    refine LCt.CompRestT.succ fun v I oI C oC D m₂ h tk E' hv hC hx F N off ne => ?_
    exact step i ys (fun ys' news' => LCt.CompRestT prog w A h₀ L m env ct elt x scope cl s S P Fin k (i + 1) ys' news') (by omega) hi (fun ys' h' => ih (i + 1) ys' (by omega) h') v I oI C oC D m₂ h tk E' hv hC hx F N off ne
theorem compRest_ind {prog : Program} {w : World} {A : Around} {h₀ : Heap} {L : Addr} {m : Str → Option Value} {env : Env} {elt : Expr} {x : Str} {scope : Scope} {cl : List (Str × Addr)} {s : Shared} {S : List (Addr × Obj) → Prop} {P : Nat → Value → Prop} {Fin : List Value → List (Addr × Obj) → Prop}
    (Inv : Nat → List Value → List (Addr × Obj) → Prop) (n : Nat) (fin : ∀ ys news, Inv n ys news → Fin ys news)
    (step : ∀ i ys news (R : List Value → List (Addr × Obj) → Prop), i < n → Inv i ys news → (∀ ys' news', Inv (i + 1) ys' news' → R ys' news') → ∀ v I oI C oC D m₂ h tk (E' : Value → Shared → Prop), P i v → LCg.NsObj oC m₂ → m₂ x = some v → Fr h₀ L h m → News h₀ L h ((I, oI) :: (C, oC) :: (D, LCg.lst ys) :: news) → LCg.Off3 I C D news → ((@Ne Nat I C) ∧ (@Ne Nat I D) ∧ (@Ne Nat C D)) →
      wpAny (model prog w) A (eval elt (compEnvC scope cl C env)) (LCg.CompEnd h₀ L m { s with heap := h, toks := tk } I oI C oC D (LCg.lst ys) S (fun y news' => R (ys ++ [y]) news')) E' { s with heap := h, toks := tk }) :
    ∀ k i ys news, i + k = n → Inv i ys news → LCg.CompRest prog w A h₀ L m env elt x scope cl s S P Fin k i ys news := by
  intro k
  induction k with
  | zero => intro i ys news e hi; exact LCg.CompRest.zero (fin ys news ((show i = n from e) ▸ hi))
  | succ k ih =>
    intro i ys news e hi
    refine LCg.CompRest.succ fun v I oI C oC D m₂ h tk E' hv hC hx F N off ne => ?_
    exact step i ys news (fun ys' news' => LCg.CompRest prog w A h₀ L m env elt x scope cl s S P Fin k (i + 1) ys' news') (by omega) hi (fun ys' news' h' => ih (i + 1) ys' news' (by omega) h') v I oI C oC D m₂ h tk E' hv hC hx F N off ne
theorem rangeSize_nat (n : Nat) : Builtin.Range.rangeSize 0 (n : Int) 1 = (n : Int) := by
  unfold Builtin.Range.rangeSize
  rw [if_pos (by decide)]
  split
  · rw [Int.ediv_one]; omega
  · omega
theorem filter_range_succ (f : Nat → Bool) (i : Nat) : ((List.range (i + 1)).filter f).map Int.ofNat = if f i then ((List.range i).filter f).map Int.ofNat ++ [(i : Int)] else ((List.range i).filter f).map Int.ofNat := by
  rw [List.range_succ, List.filter_append, List.map_append]
  cases h : f i <;> simp [h]
theorem intsAre_snoc {ys : List Value} {ns : List Int} (h : IntsAre ys ns) (i : Int) (t : Tok) : IntsAre (ys ++ [.int i t]) (ns ++ [i]) := by
  induction h with
  | nil => exact .cons i t .nil
  | cons a b r ih => exact .cons a b ih
local macro_rules | `(tactic| walk_at "MY_MEM") => `(tactic| first
  | assumption
  | exact List.Mem.head _
  | (refine List.Mem.tail _ ?_; walk_at "MY_MEM")
  | (refine List.mem_append.mpr (Or.inr ?_); walk_at "MY_MEM")
  | (refine List.mem_append.mpr (Or.inl ?_); walk_at "MY_MEM"))
local macro_rules | `(tactic| k_mem) => `(tactic| walk_at "MY_MEM")
local macro_rules | `(tactic| walk_at "MY_IN") => `(tactic| first
  | assumption
  | exact DatIn.int _ _
  | exact DatIn.str _ _
  | exact DatIn.bool _
  | (refine DatIn.mono ?kdM (by assumption); (case kdM => (intro p9 h9; first | walk_at "MY_MEM" | ((rcases List.mem_append.mp h9 with h9 | h9) <;> walk_at "MY_MEM"))))
  | (refine' DatIn.tuple (by walk_at "MY_MEM") ?kdT; (case kdT => walk_at "MY_ALL"))
  | (refine' DatIn.list (by walk_at "MY_MEM") ?kdT; (case kdT => walk_at "MY_ALL")))
local macro_rules | `(tactic| walk_at "MY_ALL") => `(tactic| first
  | assumption
  | exact DatAll.nil
  | (refine DatAll.mono ?kdM (by assumption); (case kdM => (intro p9 h9; first | walk_at "MY_MEM" | ((rcases List.mem_append.mp h9 with h9 | h9) <;> walk_at "MY_MEM"))))
  | (refine' DatAll.cons ?kd1 ?kd2; (case kd1 => walk_at "MY_IN"); (case kd2 => walk_at "MY_ALL")))
local macro_rules | `(tactic| walk_at "MY_USE") => `(tactic| ((case k1 => k_asm); (case k2 => k_asm); (case k3 => k_asm); (case k4 => k_asm); (case k5 => k_asm); (case kK => first | exact rfl | assumption); (case kD => walk_at "MY_ALL"); (case kb => walk_at "MY_HAS"); (case kd => ((try dsimp only [ktrTop, Around.deeper]); omega)); (case ku => ((try dsimp only [ktrTop, Around.deeper]); omega))))
local macro_rules | `(tactic| walk_at "MY_ENTER") => `(tactic| (refine' enterC ?k1 ?k2 ?k3 ?k5 ?kK ?k6 ?k7 ?k8 ?k9 ?kB ?_ ?c2 ?c3 ?c4 ?c5; (case k1 => k_asm); (case k2 => k_asm); (case k3 => k_asm); (case k5 => k_asm); (case kK => first | exact rfl | assumption); (case k6 => k_is); (case k7 => k_is); (case k8 => omega); (case k9 => exact BindsTo.of_eq rfl); (case c5 => decide); (case kB => exact locs rfl); (case c2 => exact rfl); (case c3 => exact rfl); (case c4 => exact rfl); k_whole; intro L' h' F' N' B' X' T'; (try dsimp only); (try k_fold)))
local macro_rules | `(tactic| walk_at "MY_ENTERB") => `(tactic| ((case k1 => k_asm); (case k2 => k_asm); (case k3 => k_asm); (case k5 => k_asm); (case kK => first | exact rfl | assumption); (case k6 => k_is); (case k7 => k_is); (case k8 => omega); (case k9 => first | exact BindsTo.of_eq rfl | exact binds_K (by k_in) rfl (by k_is) rfl rfl rfl); (case c5 => decide); (case kB => exact locs rfl); (case c2 => exact rfl); (case c3 => exact rfl); (case c4 => exact rfl); k_whole; intro L' h' F' N' B' X' T'; (try dsimp only [List.reverse_cons, List.reverse_nil, List.nil_append, List.cons_append] at F'); (try dsimp only); (try k_fold)))
local macro_rules | `(tactic| walk_at "MY_END") => `(tactic| ((try dsimp only); (try k_unfold); (try dsimp only); refine con_end (by assumption) (by assumption) (by assumption) ?_; (try dsimp only); walk_at "MY_IN"))
local macro_rules | `(tactic| k_all) => `(tactic| assumption)
local macro_rules | `(tactic| walk_at "MY_HAS") => `(tactic| first
  | assumption
  | exact has_news (by with_reducible assumption)
  | (refine has_app ?_ ?_ <;> walk_at "MY_HAS")
  | exact has_keep (by with_reducible assumption) (by with_reducible assumption)
  | exact has_sub (by with_reducible assumption) (by intro p9 h9; walk_at "MY_MEM"))
local macro_rules | `(tactic| walk_at "MY_TUP") => `(tactic| first
  | with_reducible assumption
  | exact Fr.tup (by with_reducible assumption) (by assumption)
  | exact News.isTup (by with_reducible assumption) (by walk_at "MY_MEM")
  | (refine' Has.tup ?hH ?hM; (case hM => assumption); (case hH => walk_at "MY_HAS")))
local macro_rules | `(tactic| walk_at "subscriptTail") => `(tactic| (k_here; (with_reducible show wpAny _ _ (subscriptTail _ _ (Value.ref _) (Value.int _ _)) _ _ _); k_dflt (refine' item_tupleT ?t ?a ?b ?c ?d ?_; (case t => walk_at "MY_TUP"); (case a => decide); (case b => decide); (case c => rfl); (case d => rfl); k_whole)))
local macro_rules | `(tactic| walk_at "assign Tuple") => `(tactic| (k_here; (with_reducible show wpAny _ _ (assign (Expr.Tuple _ _ _) _ (Value.ref _)) _ _ _); k_dflt (refine' unpackN_ ?F ?N ?t ?k1 ?k2 ?k3 ?_; (case F => with_reducible assumption); (case N => with_reducible assumption); (case t => walk_at "MY_TUP"); (case k1 => exact rfl); (case k2 => exact rfl); (case k3 => exact rfl); k_whole); intro h' F' N'; (try k_sweep)))
local macro_rules | `(tactic| walk_at "eval Name") => `(tactic| (k_here; (fail_if_success (with_reducible show wpAny _ _ (eval (Expr.Name _ _) (compEnvC _ _ _ _)) _ _ _)); k_dflt (first
  | (refine' nameX_L ?F ?v ?_ ?a ?b; (case F => with_reducible assumption); (case a => rfl); (case b => rfl); (case v => rfl); k_whole)
  | (refine' nameX_C ?N ?c ?m ?d ?_ ?a ?b; (case a => rfl); (case b => rfl); (case N => with_reducible assumption); (case c => rfl); (case m => walk_at "MY_MEM"); (case d => k_asm); k_whole)
  | (refine' nameX_K ?F ?X ?T ?e ?_ ?a ?b; (case F => with_reducible assumption); (case X => k_asm); (case T => k_asm); (case a => rfl); (case b => rfl); (case e => k_is); k_whole)
  | (refine' nameX_B ?F ?X ?T ?e ?v ?n ?_ ?a ?b; (case F => with_reducible assumption); (case X => k_asm); (case T => k_asm); (case a => rfl); (case b => rfl); (case e => k_is); (case v => boot_fast); (case n => decide); k_whole))))
local macro_rules | `(tactic| walk_at "eval Name") => `(tactic| (k_here; (with_reducible show wpAny _ _ (eval (Expr.Name _ _) (compEnvC _ _ _ _)) _ _ _); k_dflt (first
  | refine LCgL.ld_own (by k_asm) (by walk_at "MY_MEM") (by assumption) (by assumption) ?_
  | (refine' lcf_cell ?N ?c ?m ?d ?_ ?a ?b; (case a => rfl); (case b => rfl); (case N => k_asm); (case c => rfl); (case m => walk_at "MY_MEM"); (case d => k_asm); k_whole)
  | (refine' lcf_free ?N ?c ?m ?d ?_ ?a ?b; (case a => rfl); (case b => rfl); (case N => k_asm); (case c => rfl); (case m => walk_at "MY_MEM"); (case d => k_asm); k_whole)
  | refine LCgL.ld_global (by k_asm) (by k_asm) (by k_asm) (by k_is) ?_
  | refine LCgL.ld_built (by k_asm) (by k_asm) (by k_asm) (by k_is) (by boot_by_name) (by decide) ?_)))
local macro_rules | `(tactic| walk_at "call builtin:len") => `(tactic| (k_here; (with_reducible show wpAny _ _ (call (Value.builtin "len") [Value.ref _]) _ _ _); k_dflt (refine' PyProof.Rows.len_tuple ?t ?f ?_; (case t => walk_at "MY_TUP"); (case f => (simp only [List.size_toArray, List.length_cons, List.length_nil]; omega)); k_whole); (try simp only [List.size_toArray, List.length_cons, List.length_nil])))
local macro_rules | `(tactic| walk_at "MY_ENTERC") => `(tactic| (refine' enterCC ?k1 ?k2 ?k3 ?k5 ?kK ?k6 ?k7 ?k8 ?k9 ?kB ?kD ?_ ?c2 ?c3 ?c4; (case k1 => k_asm); (case k2 => k_asm); (case k3 => k_asm); (case k5 => k_asm); (case kK => first | exact rfl | assumption); (case k6 => k_is); (case k7 => k_is); (case k8 => omega); (case k9 => exact BindsTo.of_eq rfl); (case kB => exact rfl); (case kD => decide +kernel); (case c2 => exact rfl); (case c3 => exact rfl); (case c4 => exact rfl); k_whole; intro L' h' tk' cells' F' N' Y' B' X' T'; k_cells Y'; (try simp only [List.cons_append, List.nil_append] at N'); (try dsimp only); (try k_fold)))
local macro_rules | `(tactic| walk_at "MY_ENTER3") => `(tactic| ((case k1 => k_asm); (case k2 => k_asm); (case k3 => k_asm); (case k5 => k_asm); (case kK => first | exact rfl | assumption); (case k6 => k_is); (case k7 => k_is); (case k8 => omega); (case k9 => exact BindsTo.of_eq rfl); (case kB => exact rfl); (case kD => decide +kernel); (case kM => with_unfolding_all rfl); (case kC => with_unfolding_all rfl); (case c2 => exact rfl); (case c3 => exact rfl); (case c4 => exact rfl); k_whole; intro L' h' tk' cells' F' N' Y' B' X' T'; k_cells Y'; (try dsimp only at *); (try simp only [List.cons_append, List.nil_append] at N'); (try k_fold)))
local macro_rules | `(tactic| walk_at "MY_BD") => `(tactic| first
  | assumption
  | exact Bd.add (by walk_at "MY_BD") (by walk_at "MY_BD")
  | exact Bd.sub (by walk_at "MY_BD") (by walk_at "MY_BD")
  | exact Bd.mul (by walk_at "MY_BD") (by walk_at "MY_BD")
  | exact Bd.sq (by walk_at "MY_BD")
  | exact Bd.cube (by walk_at "MY_BD")
  | exact Bd.ite (by walk_at "MY_BD") (by walk_at "MY_BD")
  | exact Bd.neg (by walk_at "MY_BD")
  | exact Bd.of (n := 12) (by decide))
local macro_rules | `(tactic| walk_at "binaryOp Mult int int") => `(tactic| (refine mul_int ?_ (bd_mulL (by walk_at "MY_BD") (by decide))))
local macro_rules | `(tactic| walk_at "binaryOp Pow int int") => `(tactic| (refine pow_int_small (by decide) (by decide) (Bd.lt64 (by walk_at "MY_BD") (by decide)) ?_))
local macro_rules | `(tactic| walk_at "MY_LST") => `(tactic| first
  | with_reducible assumption
  | exact Fr.lst (by with_reducible assumption) (by assumption)
  | exact News.isList (by with_reducible assumption) (by walk_at "MY_MEM")
  | (refine' Has.list ?hH ?hM; (case hM => assumption); (case hH => walk_at "MY_HAS")))
local macro_rules | `(tactic| walk_at "call builtin:len") => `(tactic| (k_here; (with_reducible show wpAny _ _ (call (Value.builtin "len") [Value.ref _]) _ _ _); k_dflt (refine' PyProof.Rows.len_list ?t ?f ?_; (case t => walk_at "MY_LST"); (case f => (simp only [List.size_toArray, List.length_cons, List.length_nil]; omega)); k_whole); (try simp only [List.size_toArray, List.length_cons, List.length_nil])))
local macro_rules | `(tactic| walk_at "MY_BLOCKNAME") => `(tactic| first | refine name_own (by assumption) (by assumption) ?_ | refine name_cell (by assumption) rfl ?_ | refine name_free (by assumption) rfl ?_)
local macro_rules | `(tactic| k_room) => `(tactic| ((try simp only [depth_under_make, depth_under_kw, depth_in1, depth_deeper, depth_caller]); (try dsimp only [ktrTop, Around.deeper]); omega))
section
set_option maxRecDepth 100000 in
set_option maxHeartbeats 8000000 in
theorem half_con (p q : Pt) : Con 215 1 [ptD p, ptD q] (New (ptD (half p q))) := by
  unfold Con
  k_fill
  intro w mean mg mb dp un gd cn cs a ccd cl outer A₀ base h₀ L m olds s vs Q E B F X T hk hH hD hroom hunits hret
  obtain ⟨v1, v2, rfl, h1, h2⟩ := all2 hD
  obtain ⟨a1, n1, t1, t2, rfl, m1⟩ := pt_of h1
  obtain ⟨a2, n2, t3, t4, rfl, m2⟩ := pt_of h2
  clear h1 h2 hD
  have b1 := hH.tup m1
  have b2 := hH.tup m2
  k_dflt walk_at "MY_ENTER"
  k_steps
  walk_at "MY_END"

local macro_rules | `(tactic| walk_at "call ref") => `(tactic| (k_here; (with_reducible show wpAny _ _ (call (Value.ref 215) _) _ _ _); k_dflt (refine' con_use (half_con (_, _) (_, _)) ?k1 ?k2 ?k3 ?k4 ?k5 ?kK ?kb ?kD ?kd ?ku ?_; walk_at "MY_USE"); intro r9 tl9 h9 tk9 F9 N9 hl9 ho9; (obtain ⟨a9, n9, u9, v9, e9, m9⟩ := pt_of ho9); subst e9; clear ho9; (replace N9 := news_pick N9 m9); (have l9 := allNe_of (fun q hq => hl9 q hq _ m9)); (try simp only [AllNe, and_true] at l9); clear hl9 m9; (try dsimp only); (try k_fold); walk_say "HALF"))

set_option maxRecDepth 100000 in
set_option maxHeartbeats 8000000 in
theorem halves_con (q : Quad) : Con 222 2 [quadD q] (Mix (.tuple [quadD (half1 q), quadD (half2 q)])) := by
  unfold Con
  k_fill
  intro w mean mg mb dp un gd cn cs a ccd cl outer A₀ base h₀ L m olds s vs Q E B F X T hk hH hD hroom hunits hret
  obtain ⟨v1, rfl, h0⟩ := all1 hD
  obtain ⟨a1, n1, v1, v2, v3, v4, rfl, m1, h1, h2, h3, h4⟩ := quad_of h0
  obtain ⟨a2, n2, t1, t2, rfl, m2⟩ := pt_of h1
  obtain ⟨a3, n3, t3, t4, rfl, m3⟩ := pt_of h2
  obtain ⟨a4, n4, t5, t6, rfl, m4⟩ := pt_of h3
  obtain ⟨a5, n5, t7, t8, rfl, m5⟩ := pt_of h4
  clear h0 h1 h2 h3 h4 hD
  have b1 := hH.tup m1
  have b2 := hH.tup m2
  have b3 := hH.tup m3
  have b4 := hH.tup m4
  have b5 := hH.tup m5
  k_dflt walk_at "MY_ENTER"
  k_steps
  walk_at "MY_END"
end
section
set_option maxRecDepth 100000 in
set_option maxHeartbeats 8000000 in
theorem flat_con (q : Quad) (f : Int) (hq : QB 1000000 q) (hf : -1000000 ≤ f ∧ f ≤ 1000000) : Con 229 2 [quadD q, .int f] (New (.bool (isFlat q f))) := by
  unfold Con
  k_fill
  intro w mean mg mb dp un gd cn cs a ccd cl outer A₀ base h₀ L m olds s vs Q E B F X T hk hH hD hroom hunits hret
  obtain ⟨v1, v0, rfl, h0, hi⟩ := all2 hD
  obtain ⟨t0, rfl⟩ := int_of hi
  obtain ⟨⟨q1, q2, q3, q4⟩, ⟨q5, q6, q7, q8⟩, ⟨q9, q10, q11, q12⟩, ⟨q13, q14, q15, q16⟩⟩ := hq
  have z1 : Bd 20 q.1.1 := Bd.of (by omega)
  have z2 : Bd 20 q.1.2 := Bd.of (by omega)
  have z3 : Bd 20 q.2.1.1 := Bd.of (by omega)
  have z4 : Bd 20 q.2.1.2 := Bd.of (by omega)
  have z5 : Bd 20 q.2.2.1.1 := Bd.of (by omega)
  have z6 : Bd 20 q.2.2.1.2 := Bd.of (by omega)
  have z7 : Bd 20 q.2.2.2.1 := Bd.of (by omega)
  have z8 : Bd 20 q.2.2.2.2 := Bd.of (by omega)
  have z9 : Bd 20 f := Bd.of (by omega)
  obtain ⟨a1, n1, v1, v2, v3, v4, rfl, m1, h1, h2, h3, h4⟩ := quad_of h0
  obtain ⟨a2, n2, t1, t2, rfl, m2⟩ := pt_of h1
  obtain ⟨a3, n3, t3, t4, rfl, m3⟩ := pt_of h2
  obtain ⟨a4, n4, t5, t6, rfl, m4⟩ := pt_of h3
  obtain ⟨a5, n5, t7, t8, rfl, m5⟩ := pt_of h4
  clear hi h0 h1 h2 h3 h4 hD
  have b1 := hH.tup m1
  have b2 := hH.tup m2
  have b3 := hH.tup m3
  have b4 := hH.tup m4
  have b5 := hH.tup m5
  k_dflt walk_at "MY_ENTER"
  k_steps
  walk_at "MY_END"
end
section
local macro_rules | `(tactic| walk_at "call ref") => `(tactic| (k_here; (with_reducible show wpAny _ _ (call (Value.ref 229) _) _ _ _); k_dflt (refine' con_useG (flat_con _ _ ?q1 ?q2) ?k1 ?k2 ?k3 ?k4 ?k5 ?kK ?kb ?kD ?kd ?ku ?_; walk_at "MY_USE"; (case q1 => assumption); (case q2 => assumption)); intro r9 tl9 h9 tk9 F9 N9 hl9 ho9; (replace N9 := News.right N9); (replace ho9 := bool_of ho9); subst ho9; clear hl9; (try dsimp only); (try k_fold); walk_say "FLAT"))
local macro_rules | `(tactic| walk_at "call ref") => `(tactic| (k_here; (with_reducible show wpAny _ _ (call (Value.ref 222) _) _ _ _); k_dflt (refine' con_useG (halves_con _) ?k1 ?k2 ?k3 ?k4 ?k5 ?kK ?kb ?kD ?kd ?ku ?_; walk_at "MY_USE"); intro r9 tl9 h9 tk9 F9 N9 hl9 ho9; (obtain ⟨a9, n9, u9, v9, e9, m9, x9, y9⟩ := tup2_of ho9); subst e9; clear ho9; (replace N9 := news_back3 N9); (have s9 := sep_app hl9 (List.Mem.tail _ (List.Mem.head _)) (by assumption)); (have t9 := sep_app hl9 (List.Mem.tail _ (List.Mem.tail _ (List.Mem.head _))) (by assumption)); (try dsimp only); (try k_fold); walk_say "HALVES"))
local macro_rules | `(tactic| walk_at "exec While Compare cons nil") => `(tactic| (refine stop_here ?_))
local macro_rules | `(tactic| walk_at "compareOp NotEq ref ref") => `(tactic| (k_here; k_dflt (first
  | (refine' ne_nil1 ?H ?ma ?mb ?Da ?ha ?hu ?_; (case H => exact has_app (has_news (by with_reducible assumption)) (has_keep (by with_reducible assumption) (by with_reducible assumption))); (case ma => walk_at "MY_MEM"); (case mb => walk_at "MY_MEM"); (case Da => walk_at "MY_ALL"); (case ha => assumption); (case hu => ((try dsimp only [ktrTop, Around.deeper]); omega)); k_whole)
  | (refine' ne_nil0 ?H ?ma ?mb ?hu ?_; (case H => exact has_news (by with_reducible assumption)); (case ma => walk_at "MY_MEM"); (case mb => exact List.Mem.head _); (case hu => ((try dsimp only [ktrTop, Around.deeper]); omega)); k_whole)); (try dsimp only)))
local macro_rules | `(tactic| walk_at "call builtin:list.pop") => `(tactic| (k_here; (with_reducible show wpAny _ _ (call (Value.builtin _) [Value.ref _]) _ _ _); k_dflt (refine' kl_pop ?F ?N ?e ?U ?z ?_; (case F => with_reducible assumption); (case N => with_reducible assumption); (case U => k_upd); (case e => exact kpa_last _ _); (case z => (rw [sizeLine_eq]; simp only [List.length_append, List.length_singleton]; omega)); k_whole); intro h' F' N'; (try dsimp only); (try k_sweep)))
local macro_rules | `(tactic| walk_at "call builtin:list.append") => `(tactic| (k_here; (with_reducible show wpAny _ _ (call (Value.builtin _) [Value.ref _, _]) _ _ _); k_dflt (refine' append_K ?k1 ?k2 ?k3 ?_ ?z; (case k1 => k_asm); (case k2 => k_asm); (case k3 => k_upd); (case z => (rw [sizeLine_eq]; simp only [List.size_toArray, Array.size_push]; omega)); k_whole); intro h' F' N'; (try k_sweep)))

local macro_rules | `(tactic| walk_at "KswEnd") => `(tactic| (refine stop_here ?_))

/-- the ends of the lines, with so many halvings left -/
def ends (f : Int) : Nat → Quad → List Pt
  | 0, q => [q.2.2.2]
  | n + 1, q => if isFlat q f then [q.2.2.2] else ends f n (half1 q) ++ ends f n (half2 q)
theorem ends_length (f : Int) : ∀ (n : Nat) (q : Quad), 1 ≤ (ends f n q).length ∧ (ends f n q).length ≤ 2 ^ n
  | 0, q => by simp [ends]
  | n + 1, q => by
    have h1 := ends_length f n (half1 q)
    have h2 := ends_length f n (half2 q)
    rw [ends]
    split
    · simp; exact Nat.one_le_two_pow
    · rw [List.length_append, Nat.pow_succ]; omega
/-- what a stack of parts stands for, its last part first -/
def pend (f : Int) (st : List (Quad × Nat)) : List Pt := st.reverse.flatMap fun x => ends f (10 - x.2) x.1
theorem pend_nil (f : Int) : pend f [] = [] := rfl
theorem pend_snoc (f : Int) (st : List (Quad × Nat)) (x : Quad × Nat) : pend f (st ++ [x]) = ends f (10 - x.2) x.1 ++ pend f st := by simp [pend]
theorem flatMap_length {α β : Type} (g : α → List β) (h : ∀ x, 1 ≤ (g x).length) : ∀ l : List α, l.length ≤ (l.flatMap g).length
  | [] => by simp
  | x :: l => by
    have h1 := h x
    have h2 := flatMap_length g h l
    rw [List.flatMap_cons, List.length_append, List.length_cons]
    omega
theorem pend_length (f : Int) (st : List (Quad × Nat)) : st.length ≤ (pend f st).length := by
  have h := flatMap_length (fun x : Quad × Nat => ends f (10 - x.2) x.1) (fun x => (ends_length f _ _).1) st.reverse
  rw [List.length_reverse] at h
  exact h
def stD (x : Quad × Nat) : Dat := .tuple [quadD x.1, .int x.2]
theorem stD_ok (st : List (Quad × Nat)) : ∀ d ∈ st.map stD, kqdOk 8 d = true := by
  intro d hd
  obtain ⟨x, _, rfl⟩ := List.mem_map.mp hd
  simp [stD, quadD, ptD, kqdOk]
theorem PB.half {B : Int} {p q : Pt} (h : PB B p) (k : PB B q) : PB B (half p q) := by
  obtain ⟨h1, h2, h3, h4⟩ := h
  obtain ⟨k1, k2, k3, k4⟩ := k
  simp only [PB, Mine.half, Int.fdiv_eq_ediv_of_nonneg _ (show (0 : Int) ≤ 2 by decide)]
  omega
theorem QB.half1 {B : Int} {q : Quad} (h : QB B q) : QB B (half1 q) :=
  ⟨h.1, h.1.half h.2.1, (h.1.half h.2.1).half (h.2.1.half h.2.2.1), ((h.1.half h.2.1).half (h.2.1.half h.2.2.1)).half ((h.2.1.half h.2.2.1).half (h.2.2.1.half h.2.2.2))⟩
theorem QB.half2 {B : Int} {q : Quad} (h : QB B q) : QB B (half2 q) :=
  ⟨((h.1.half h.2.1).half (h.2.1.half h.2.2.1)).half ((h.2.1.half h.2.2.1).half (h.2.2.1.half h.2.2.2)), (h.2.1.half h.2.2.1).half (h.2.2.1.half h.2.2.2), h.2.2.1.half h.2.2.2, h.2.2.2⟩

theorem ends_flat {f : Int} {q : Quad} (h : isFlat q f = true) : ∀ n, ends f n q = [q.2.2.2]
  | 0 => rfl
  | n + 1 => by rw [ends, if_pos h]
theorem ends_halves {f : Int} {q : Quad} (h : isFlat q f = false) (n : Nat) : ends f (n + 1) q = ends f n (half1 q) ++ ends f n (half2 q) := by
  rw [ends, if_neg (by rw [h]; exact Bool.false_ne_true)]
theorem nil_or_snoc {α : Type} (l : List α) : l = [] ∨ ∃ l' x, l = l' ++ [x] := by
  rcases List.eq_nil_or_concat l with h | ⟨l', x, h⟩
  · exact .inl h
  · exact .inr ⟨l', x, by rw [h, List.concat_eq_append]⟩
theorem stored4 {z : Str} (h : [Str.ofString "part", Str.ofString "depth", Str.ofString "ahead", Str.ofString "behind"].contains z = false) :
    z ≠ Str.ofString "part" ∧ z ≠ Str.ofString "depth" ∧ z ≠ Str.ofString "ahead" ∧ z ≠ Str.ofString "behind" := by
  simpa [List.contains_cons, Bool.or_eq_false_iff, beq_eq_false_iff_ne] using h

structure LoopS where
  fs : List Value
  ws : List Value
  n1 : Nat
  n2 : Nat
  T : List (Addr × Obj)
  st : List (Quad × Nat)
  fd : List Pt
def LoopS.led (lw lf : Addr) (c : LoopS) : List (Addr × Obj) := (lw, listOf c.ws.toArray c.n2) :: (lf, listOf c.fs.toArray c.n1) :: c.T
def LoopS.facts (olds : List (Addr × Obj)) (lw lf : Addr) (c : LoopS) : Prop :=
  DatAll (c.T ++ olds) c.fs (c.fd.map ptD) ∧ DatAll (c.T ++ olds) c.ws (c.st.map stD) ∧ (∀ p ∈ c.T, p.1 ≠ lw) ∧ (∀ p ∈ c.T, p.1 ≠ lf)
def LoopS.good (f : Int) (q : Quad) (c : LoopS) : Prop := c.fd ++ pend f c.st = ends f 10 q ∧ ∀ x ∈ c.st, QB 1000000 x.1 ∧ x.2 ≤ 10
def LoopS.mu (c : LoopS) : Nat := (c.st.map fun x => 3 ^ (10 - x.2)).sum

theorem mu_drop (st : List (Quad × Nat)) (x : Quad × Nat) : (st.map fun x => 3 ^ (10 - x.2)).sum < ((st ++ [x]).map fun x => 3 ^ (10 - x.2)).sum := by
  have h : 0 < 3 ^ (10 - x.2) := Nat.pow_pos (by decide)
  simp only [List.map_append, List.map_cons, List.map_nil, List.sum_append, List.sum_cons, List.sum_nil]
  omega
theorem mu_halve (st : List (Quad × Nat)) (x : Quad × Nat) (a b : Quad) (h : x.2 < 10) : ((st ++ [(a, x.2 + 1)] ++ [(b, x.2 + 1)]).map fun x => 3 ^ (10 - x.2)).sum < ((st ++ [x]).map fun x => 3 ^ (10 - x.2)).sum := by
  have h0 : 0 < 3 ^ (10 - (x.2 + 1)) := Nat.pow_pos (by decide)
  have e : 10 - x.2 = (10 - (x.2 + 1)) + 1 := by omega
  simp only [List.map_append, List.map_cons, List.map_nil, List.sum_append, List.sum_cons, List.sum_nil]
  rw [e, Nat.pow_succ]
  omega
theorem good_found {f : Int} {q : Quad} {fd : List Pt} {st : List (Quad × Nat)} {x : Quad × Nat} (h : x.2 = 10 ∨ isFlat x.1 f = true) (g : fd ++ pend f (st ++ [x]) = ends f 10 q) : fd ++ [x.1.2.2.2] ++ pend f st = ends f 10 q := by
  rw [← g, pend_snoc, List.append_assoc]
  congr 2
  rcases h with h | h
  · rw [h]; rfl
  · rw [ends_flat h]
theorem good_halve {f : Int} {q : Quad} {fd : List Pt} {st : List (Quad × Nat)} {x : Quad × Nat} (hn : x.2 < 10) (h : isFlat x.1 f = false) (g : fd ++ pend f (st ++ [x]) = ends f 10 q) :
    fd ++ pend f (st ++ [(half2 x.1, x.2 + 1)] ++ [(half1 x.1, x.2 + 1)]) = ends f 10 q := by
  rw [← g, pend_snoc, pend_snoc, pend_snoc, ← List.append_assoc, ← List.append_assoc]
  have e : 10 - x.2 = (10 - (x.2 + 1)) + 1 := by omega
  rw [e, ends_halves h, ← List.append_assoc, ← List.append_assoc]

set_option maxRecDepth 100000 in
set_option maxHeartbeats 8000000 in
theorem ends_con (q : Quad) (f : Int) (hq : QB 1000000 q) (hf : -1000000 ≤ f ∧ f ≤ 1000000) : Con 236 12 [quadD q, .int f] (Mix (.list ((ends f 10 q).map ptD))) := by
  unfold Con
  k_fill
  intro w mean mg mb dp un gd cn cs a ccd cl outer A₀ base h₀ L m olds s vs Q E B F X T hk hH hD hroom hunits hret
  obtain ⟨v1, v0, rfl, h0, hi⟩ := all2 hD
  obtain ⟨t0, rfl⟩ := int_of hi
  obtain ⟨a1, n1, v1, v2, v3, v4, rfl, m1, h1, h2, h3, h4⟩ := quad_of h0
  k_dflt walk_at "MY_ENTER"
  k_steps
  rename_i tk0 lf _ _ d0 _ hl0 lw _ hl1 dt _ hl2 _ _ hh lF lN
  refine Stop.mk ?_
  refine ksw_while (σ := LoopS) (LoopS.led lw lf) (fun _ => []) (LoopS.facts olds lw lf) [Str.ofString "part", Str.ofString "depth", Str.ofString "ahead", Str.ofString "behind"] (LoopS.good f q) LoopS.mu ⟨[], [.ref d0], 0, 0, [(d0, tupO [.ref a1, .int 0 tk0] 0)], [(q, 0)], []⟩ lF ?kn ?kf ?kk ?kp ?turn
  case kn => exact fun p hp => lN p (List.mem_cons_of_mem _ (by
    simp only [LoopS.led, List.mem_cons, List.not_mem_nil, or_false] at hp ⊢
    rcases hp with h | h | h
    · exact .inl h
    · exact .inr (.inr h)
    · exact .inr (.inl h)))
  case kf =>
    refine ⟨.nil, .cons (.tuple (List.Mem.head _) (.cons (h0.mono fun p hp => List.mem_append.mpr (.inr hp)) (.cons (.int _ _) .nil))) .nil, fun p hp => ?_, fun p hp => ?_⟩
    · rw [List.mem_singleton.mp hp]; exact Nat.ne_of_lt hl1.1
    · rw [List.mem_singleton.mp hp]; exact fun e => Nat.lt_irrefl _ (e ▸ (hl0 : @LT.lt Nat _ lf d0))
  case kk => exact fun p hp => nomatch hp
  case kp => exact ⟨by simp [pend], fun x hx => by rw [List.mem_singleton.mp hx]; exact ⟨hq, Nat.zero_le _⟩⟩
  case turn =>
    have hlt : @LT.lt Nat _ lf lw := hl1.2
    clear lF lN hl1 hl2
    rintro ⟨fs, ws, n1', n2', Tl, st, fd⟩ u hh tk ⟨k1, k2, k3, k4⟩ ⟨g1, g2⟩ kF kN
    dsimp only [LoopS.led] at k1 k2 k3 k4 g1 g2 kF kN
    rcases nil_or_snoc st with rfl | ⟨st, x, rfl⟩
    · cases k2
      (try k_fold)
      k_steps
      (try dsimp only); (try k_unfold); (try dsimp only)
      refine con_end hret (by assumption) (by assumption) ?_
      have e : fd = ends f 10 q := by simpa [pend] using g1
      subst e
      exact DatIn.list (List.mem_append.mpr (.inl (List.mem_cons_of_mem _ (List.mem_cons_of_mem _ List.mem_cons_self)))) (k1.mono fun p hp => by
        rcases List.mem_append.mp hp with h | h
        · exact List.mem_append.mpr (.inl (List.mem_cons_of_mem _ (List.mem_cons_of_mem _ (List.mem_cons_of_mem _ h))))
        · exact List.mem_append.mpr (.inr h))
    · have hlf : fs.length ≤ 1024 := by
        have h1 := k1.length
        have h2 := congrArg List.length g1
        have h3 := (ends_length f 10 q).2
        rw [List.length_map] at h1
        rw [List.length_append] at h2
        omega
      have hlw : ws.length ≤ 1024 := by
        have h1 := k2.length
        have h2 := congrArg List.length g1
        have h3 := (ends_length f 10 q).2
        have h4 := pend_length f (st ++ [x])
        rw [List.length_map] at h1
        rw [List.length_append] at h2
        omega
      have hok := stD_ok (st ++ [x])
      rw [List.map_append] at k2 hok
      obtain ⟨ws, v, rfl, k6, k5⟩ := datAll_concat k2
      obtain ⟨av, nv, pv, dv, rfl, mv, kp, kd⟩ := tup2_of k5
      obtain ⟨td, rfl⟩ := int_of kd
      have kp' := kp
      obtain ⟨ap, np, p1, p2, p3, p4, rfl, mp, kp1, kp2, kp3, kp4⟩ := quad_of kp'
      obtain ⟨hxq, hx10⟩ := g2 x (List.mem_append.mpr (.inr (List.mem_singleton.mpr rfl)))
      rw [List.length_append, List.length_singleton] at hlw
      clear kp' k5 kd
      (try k_fold)
      k_steps
      · rename_i hx _ F' N'
        refine Stop.mk ?_
        refine ksw_end ⟨fs ++ [p4], ws, n1' + 1, n2' + 1, Tl, st, fd ++ [x.1.2.2.2]⟩ F' N' (fun p hp => ?_) ⟨?_, k6, k3, k4⟩ (fun p hp => nomatch hp) ?same ⟨good_found (.inl (by omega)) g1, fun y hy => g2 y (List.mem_append.mpr (.inl hy))⟩ (mu_drop st x)
        case same =>
          intro z _ h3
          obtain ⟨e1, e2, e3, e4⟩ := stored4 h3
          simp only [if_neg e1, if_neg e2, if_neg e3, if_neg e4]
          show (if _ = true then _ else _) = _
          rw [h3]
          rfl
        · rw [List.push_toArray] at *
          exact List.mem_cons_of_mem _ hp
        · rw [List.map_append]; exact k1.append (.cons kp4 .nil)
      · rename_i hx _ F' N'
        refine Stop.mk ?_
        refine ksw_end ⟨fs ++ [p4], ws, n1' + 1, n2' + 1, Tl, st, fd ++ [x.1.2.2.2]⟩ F' N' (fun p hp => ?_) ⟨?_, k6, k3, k4⟩ (fun p hp => nomatch hp) ?same ⟨good_found (.inr hx) g1, fun y hy => g2 y (List.mem_append.mpr (.inl hy))⟩ (mu_drop st x)
        case same =>
          intro z _ h3
          obtain ⟨e1, e2, e3, e4⟩ := stored4 h3
          simp only [if_neg e1, if_neg e2, if_neg e3, if_neg e4]
          show (if _ = true then _ else _) = _
          rw [h3]
          rfl
        · rw [List.push_toArray] at *
          exact List.mem_cons_of_mem _ hp
        · rw [List.map_append]; exact k1.append (.cons kp4 .nil)
      · rename_i l' _ _ _ _ _ _ _ hx _ _ _ hfl tl _ _ _ a9 n9 u9 v9 m9 x9 y9 s9 t9 _ _ _ tk1 D1 _ l1 _ tk2 D2 _ l2 _ F' N'
        refine Stop.mk ?_
        have hsub : ∀ p ∈ tl ++ (Tl ++ olds), p ∈ ((D2, tupO [u9, Value.int (↑x.snd + 1) (tk2 + 1)] 0) :: (D1, tupO [v9, Value.int (↑x.snd + 1) (tk1 + 1)] 0) :: (tl ++ Tl)) ++ olds := fun p hp =>
          List.mem_append.mpr ((List.mem_append.mp hp).elim (fun h => .inl (List.mem_cons_of_mem _ (List.mem_cons_of_mem _ (List.mem_append.mpr (.inl h))))) fun h => (List.mem_append.mp h).elim (fun h => .inl (List.mem_cons_of_mem _ (List.mem_cons_of_mem _ (List.mem_append.mpr (.inr h))))) .inr)
        have hsub' : ∀ p ∈ Tl ++ olds, p ∈ ((D2, tupO [u9, Value.int (↑x.snd + 1) (tk2 + 1)] 0) :: (D1, tupO [v9, Value.int (↑x.snd + 1) (tk1 + 1)] 0) :: (tl ++ Tl)) ++ olds := fun p hp => hsub p (List.mem_append.mpr (.inr hp))
        refine ksw_end ⟨fs, ws ++ [.ref D1] ++ [.ref D2], n1', n2' + 1 + 1 + 1, (D2, tupO [u9, Value.int (↑x.snd + 1) (tk2 + 1)] 0) :: (D1, tupO [v9, Value.int (↑x.snd + 1) (tk1 + 1)] 0) :: (tl ++ Tl), st ++ [(half2 x.1, x.2 + 1)] ++ [(half1 x.1, x.2 + 1)], fd⟩ F' N' (fun p hp => ?_) ⟨k1.mono hsub', ?_, ?_, ?_⟩ (fun p hp => nomatch hp) ?same ⟨good_halve (by omega) hfl g1, ?_⟩ (mu_halve st x _ _ (by omega))
        case same =>
          intro z _ h3
          obtain ⟨e1, e2, e3, e4⟩ := stored4 h3
          simp only [if_neg e1, if_neg e2, if_neg e3, if_neg e4]
          show (if _ = true then _ else _) = _
          rw [h3]
          rfl
        · rw [List.push_toArray, List.push_toArray]
          simp only [LoopS.led, List.mem_cons] at hp ⊢
          rcases hp with h | h | h | h | h
          · exact .inr (.inr (.inr (.inl h)))
          · exact .inr (.inr (.inr (.inr (.inl h))))
          · exact .inl h
          · exact .inr (.inl h)
          · exact .inr (.inr (.inr (.inr (.inr h))))
        · rw [List.map_append, List.map_append]
          exact ((k6.mono hsub').append (.cons (.tuple (List.mem_append.mpr (.inl (List.mem_cons_of_mem _ List.mem_cons_self))) (.cons (y9.mono hsub) (.cons (.int _ _) .nil))) .nil)).append (.cons (.tuple (List.mem_append.mpr (.inl List.mem_cons_self)) (.cons (x9.mono hsub) (.cons (.int _ _) .nil))) .nil)
        · intro p hp
          rcases List.mem_cons.mp hp with rfl | hp
          · exact Nat.ne_of_gt l2.2.2.1
          · rcases List.mem_cons.mp hp with rfl | hp
            · exact Nat.ne_of_gt l1.2.1
            · exact s9 p hp
        · intro p hp
          rcases List.mem_cons.mp hp with rfl | hp
          · exact Nat.ne_of_gt l2.2.2.2.1
          · rcases List.mem_cons.mp hp with rfl | hp
            · exact Nat.ne_of_gt l1.2.2.1
            · exact t9 p hp
        · intro y hy
          rcases List.mem_append.mp hy with hy | hy
          · rcases List.mem_append.mp hy with hy | hy
            · exact g2 y (List.mem_append.mpr (.inl hy))
            · rw [List.mem_singleton.mp hy]; exact ⟨hxq.half2, by dsimp only; omega⟩
          · rw [List.mem_singleton.mp hy]; exact ⟨hxq.half1, by dsimp only; omega⟩
end
section
local macro_rules | `(tactic| walk_at "eval ListComp") => `(tactic| (k_here; k_dflt (refine ListComp_step (by with_reducible assumption) (by with_unfolding_all rfl) (by decide) (by rfl) (by decide) (by rfl) ?_)))
local macro_rules | `(tactic| walk_at "StepSrc") => `(tactic| ((k_dflt (first
  | (refine' StepSrc.mk 1 ?k1 ?k2 ?k3 ?k4 ?k5 ?k6 ?k7 ?_; (case k1 => rfl); (case k2 => k_asm); (case k3 => k_asm); (case k4 => assumption); (case k5 => rfl); (case k6 => rfl); (case k7 => exact Nat.le_of_ble_eq_true rfl))
  | (refine' StepSrc.mk 3 ?k1 ?k2 ?k3 ?k4 ?k5 ?k6 ?k7 ?_; (case k1 => rfl); (case k2 => k_asm); (case k3 => k_asm); (case k4 => assumption); (case k5 => rfl); (case k6 => rfl); (case k7 => exact Nat.le_of_ble_eq_true rfl)))); intro g'))
set_option maxRecDepth 100000 in
set_option maxHeartbeats 8000000 in
theorem points1_con (c : Str) (p : Pt) : Con 201 12 [.tuple [.str c, .int p.1, .int p.2]] (New (.list [ptD p])) := by
  unfold Con
  k_fill
  intro w mean mg mb dp un gd cn cs a ccd cl outer A₀ base h₀ L m olds s vs Q E B F X T hk hH hD hroom hunits hret
  obtain ⟨v1, rfl, h1⟩ := all1 hD
  cases h1 with | tuple m1 h1 =>
  obtain ⟨v1, v2, v3, rfl, h1, h2, h3⟩ := all3 h1
  obtain ⟨t1, rfl⟩ := str_of h1
  obtain ⟨t2, rfl⟩ := int_of h2
  obtain ⟨t3, rfl⟩ := int_of h3
  clear h1 h2 h3 hD
  have b1 := hH.tup m1
  k_dflt walk_at "MY_ENTERC"
  k_steps
  walk_at "MY_END"
set_option maxRecDepth 100000 in
set_option maxHeartbeats 8000000 in
theorem points3_con (c : Str) (p q r : Pt) : Con 201 12 [.tuple [.str c, .int p.1, .int p.2, .int q.1, .int q.2, .int r.1, .int r.2]] (New (.list [ptD p, ptD q, ptD r])) := by
  unfold Con
  k_fill
  intro w mean mg mb dp un gd cn cs a ccd cl outer A₀ base h₀ L m olds s vs Q E B F X T hk hH hD hroom hunits hret
  obtain ⟨v1, rfl, h1⟩ := all1 hD
  cases h1 with | tuple m1 h1 =>
  cases h1 with | cons h1 hd =>
  cases hd with | cons h2 hd =>
  cases hd with | cons h3 hd =>
  obtain ⟨v4, v5, v6, v7, rfl, h4, h5, h6, h7⟩ := all4 hd
  obtain ⟨t1, rfl⟩ := str_of h1
  obtain ⟨t2, rfl⟩ := int_of h2
  obtain ⟨t3, rfl⟩ := int_of h3
  obtain ⟨t4, rfl⟩ := int_of h4
  obtain ⟨t5, rfl⟩ := int_of h5
  obtain ⟨t6, rfl⟩ := int_of h6
  obtain ⟨t7, rfl⟩ := int_of h7
  clear h1 h2 h3 h4 h5 h6 h7 hD hd
  have b1 := hH.tup m1
  k_dflt walk_at "MY_ENTERC"
  k_steps
  walk_at "MY_END"
end
section
/-- is a point so near to a stretch -/
def isNear (p b e : Pt) (most times : Int) : Bool :=
  let px := p.1 - times * b.1
  let py := p.2 - times * b.2
  let ex := times * (e.1 - b.1)
  let ey := times * (e.2 - b.2)
  let long := ex * ex + ey * ey
  let along := px * ex + py * ey
  let far := (times * most) ^ Int.toNat 2
  if long = 0 ∨ along ≤ 0 then decide (px * px + py * py ≤ far)
  else if along ≥ long then decide ((px - ex) ^ Int.toNat 2 + (py - ey) ^ Int.toNat 2 ≤ far)
  else decide ((px * ey - py * ex) ^ Int.toNat 2 ≤ far * long)
theorem near1 {p b e : Pt} {most times : Int} (h : times * (e.1 - b.1) * (times * (e.1 - b.1)) + times * (e.2 - b.2) * (times * (e.2 - b.2)) = 0) :
    isNear p b e most times = decide ((p.1 - times * b.1) * (p.1 - times * b.1) + (p.2 - times * b.2) * (p.2 - times * b.2) ≤ (times * most) ^ Int.toNat 2) := if_pos (.inl h)
theorem near2 {p b e : Pt} {most times : Int} (h : (p.1 - times * b.1) * (times * (e.1 - b.1)) + (p.2 - times * b.2) * (times * (e.2 - b.2)) ≤ 0) :
    isNear p b e most times = decide ((p.1 - times * b.1) * (p.1 - times * b.1) + (p.2 - times * b.2) * (p.2 - times * b.2) ≤ (times * most) ^ Int.toNat 2) := if_pos (.inr h)
theorem near3 {p b e : Pt} {most times : Int} (h0 : times * (e.1 - b.1) * (times * (e.1 - b.1)) + times * (e.2 - b.2) * (times * (e.2 - b.2)) ≠ 0)
    (h1 : ¬ (p.1 - times * b.1) * (times * (e.1 - b.1)) + (p.2 - times * b.2) * (times * (e.2 - b.2)) ≤ 0)
    (h2 : (p.1 - times * b.1) * (times * (e.1 - b.1)) + (p.2 - times * b.2) * (times * (e.2 - b.2)) ≥ times * (e.1 - b.1) * (times * (e.1 - b.1)) + times * (e.2 - b.2) * (times * (e.2 - b.2))) :
    isNear p b e most times = decide ((p.1 - times * b.1 - times * (e.1 - b.1)) ^ Int.toNat 2 + (p.2 - times * b.2 - times * (e.2 - b.2)) ^ Int.toNat 2 ≤ (times * most) ^ Int.toNat 2) :=
  (if_neg (fun h => h.elim h0 h1)).trans (if_pos h2)
theorem near4 {p b e : Pt} {most times : Int} (h0 : times * (e.1 - b.1) * (times * (e.1 - b.1)) + times * (e.2 - b.2) * (times * (e.2 - b.2)) ≠ 0)
    (h1 : ¬ (p.1 - times * b.1) * (times * (e.1 - b.1)) + (p.2 - times * b.2) * (times * (e.2 - b.2)) ≤ 0)
    (h2 : ¬ (p.1 - times * b.1) * (times * (e.1 - b.1)) + (p.2 - times * b.2) * (times * (e.2 - b.2)) ≥ times * (e.1 - b.1) * (times * (e.1 - b.1)) + times * (e.2 - b.2) * (times * (e.2 - b.2))) :
    isNear p b e most times = decide (((p.1 - times * b.1) * (times * (e.2 - b.2)) - (p.2 - times * b.2) * (times * (e.1 - b.1))) ^ Int.toNat 2 ≤ (times * most) ^ Int.toNat 2 * (times * (e.1 - b.1) * (times * (e.1 - b.1)) + times * (e.2 - b.2) * (times * (e.2 - b.2)))) :=
  (if_neg (fun h => h.elim h0 h1)).trans (if_neg h2)
set_option maxRecDepth 100000 in
set_option maxHeartbeats 8000000 in
theorem near_con (p b e : Pt) (most times : Int) (hp1 : Bd 21 p.1) (hp2 : Bd 21 p.2) (hb1 : Bd 21 b.1) (hb2 : Bd 21 b.2) (he1 : Bd 21 e.1) (he2 : Bd 21 e.2) (htb1 : Bd 21 (times * b.1)) (htb2 : Bd 21 (times * b.2)) (hm : Bd 15 most) (ht : Bd 10 times) :
    Con 255 2 [ptD p, ptD b, ptD e, .int most, .int times] (New (.bool (isNear p b e most times))) := by
  unfold Con
  k_fill
  intro w mean mg mb dp un gd cn cs a ccd cl outer A₀ base h₀ L m olds s vs Q E B F X T hk hH hD hroom hunits hret
  obtain ⟨v1, v2, v3, v4, v5, rfl, h1, h2, h3, h4, h5⟩ := all5 hD
  obtain ⟨t0, rfl⟩ := int_of h4
  obtain ⟨t01, rfl⟩ := int_of h5
  obtain ⟨a2, n2, t1, t2, rfl, m2⟩ := pt_of h1
  obtain ⟨a3, n3, t3, t4, rfl, m3⟩ := pt_of h2
  obtain ⟨a4, n4, t5, t6, rfl, m4⟩ := pt_of h3
  clear h1 h2 h3 h4 h5 hD
  have b2 := hH.tup m2
  have b3 := hH.tup m3
  have b4 := hH.tup m4
  k_dflt walk_at "MY_ENTER"
  k_steps
  all_goals ((try dsimp only); (try k_unfold); (try dsimp only); refine con_end hret (by assumption) (by assumption) ?_; show DatIn _ _ (.bool (isNear p b e most times)))
  · rw [near1 (by assumption)]; exact .bool _
  · rw [near2 (by assumption)]; exact .bool _
  · rw [near3 (by assumption) (by assumption) (by assumption)]; exact .bool _
  · rw [near4 (by assumption) (by assumption) (by assumption)]; exact .bool _
end
section
local macro_rules | `(tactic| walk_at "eval ListComp") => `(tactic| (k_here; (with_reducible show wpAny _ _ (eval (Expr.ListComp _ [⟨_, _, [_], _⟩] _ _) _) _ _ _); k_dflt (refine LCt.ListComp_T (F₀ := by k_asm) (by with_unfolding_all rfl) (by decide) (by rfl) (by decide) (by rfl) ?_)))
local macro_rules | `(tactic| walk_at "CompSrcT") => `(tactic| (k_here; (refine stop_here ?_)))
local macro_rules | `(tactic| walk_at "CompEnd") => `(tactic| (refine stop_here ?_))
local macro_rules | `(tactic| walk_at "call ref") => `(tactic| (k_here; (with_reducible show wpAny _ _ (call (Value.ref 255) _) _ _ _); k_dflt (refine' con_useG (near_con _ _ _ _ _ ?q1 ?q2 ?q3 ?q4 ?q5 ?q6 ?q7 ?q8 ?q9 ?q10) ?k1 ?k2 ?k3 ?k4 ?k5 ?kK ?kb ?kD ?kd ?ku ?_; walk_at "MY_USE"; (case q1 => assumption); (case q2 => assumption); (case q3 => assumption); (case q4 => assumption); (case q5 => assumption); (case q6 => assumption); (case q7 => assumption); (case q8 => assumption); (case q9 => assumption); (case q10 => assumption)); intro r9 tl9 h9 tk9 F9 N9 hl9 ho9; (replace N9 := News.right N9); (replace ho9 := bool_of ho9); subst ho9; clear hl9; (try dsimp only); (try k_fold); walk_say "NEAR"))
local macro_rules | `(tactic| walk_at "subscriptTail") => `(tactic| (k_here; (with_reducible show wpAny _ _ (subscriptTail _ _ (Value.ref _) (Value.int _ _)) _ _ _); k_dflt (refine' item_list ?l ?a ?b ?c ?_ ?s ?g; (case l => walk_at "MY_LST"); (case c => assumption); (case a => omega); (case b => omega); (case s => with_unfolding_all rfl); (case g => (intro _; with_unfolding_all rfl)); k_whole)))
/-- the k-th stretch of a line of points is near -/
def nearAt (p : Pt) (es : List Pt) (most times : Int) (k : Nat) : Bool := isNear p (es.getD k (0, 0)) (es.getD (k + 1) (0, 0)) most times
def isOn (p : Pt) (es : List Pt) (most times : Int) : Bool := !decide ((((List.range (es.length - 1)).filter (nearAt p es most times)).map Int.ofNat) = [])
set_option maxRecDepth 100000 in
set_option maxHeartbeats 8000000 in
theorem on_con (p : Pt) (es : List Pt) (most times : Int) (hp1 : Bd 21 p.1) (hp2 : Bd 21 p.2) (hes : ∀ e ∈ es, Bd 21 e.1 ∧ Bd 21 e.2 ∧ Bd 21 (times * e.1) ∧ Bd 21 (times * e.2)) (hm : Bd 15 most) (ht : Bd 10 times) (hl1 : 1 ≤ es.length) (hl2 : es.length ≤ 2000) :
    Con 260 14 [ptD p, .list (es.map ptD), .int most, .int times] (New (.bool (isOn p es most times))) := by
  unfold Con
  k_fill
  intro w mean mg mb dp un gd cn cs a ccd cl outer A₀ base h₀ L m olds s vs Q E B F X T hk hH hD hroom hunits hret
  obtain ⟨vp, v2, v4, v5, rfl, h1, h2, h4, h5⟩ := all4 hD
  obtain ⟨t0, rfl⟩ := int_of h4
  obtain ⟨t01, rfl⟩ := int_of h5
  obtain ⟨al, vs, nl, rfl, ml, hd⟩ := list_of h2
  clear h2 hD
  have b1 := hH.list ml
  have hlen := hd.length
  rw [List.length_map] at hlen
  k_dflt walk_at "MY_ENTERC"
  k_steps
  refine Stop.mk ?_
  have en : ((vs.length : Int) - 1) = ((es.length - 1 : Nat) : Int) := by omega
  refine LCt.CompSrcT.range (n := es.length - 1) (by rfl) (by k_asm) (by k_asm) (by assumption) (small_one (by decide) (by decide) (by omega) (by omega)) (by rw [en]; exact rangeSize_nat _) (by rw [sizeLine_eq]; omega) ?_
  intro g'
  refine compRestT_ind (fun i ys => IntsAre ys (((List.range i).filter (nearAt p es most times)).map Int.ofNat)) (es.length - 1) ?fin ?step (es.length - 1) 0 [] (by omega) .nil
  case fin =>
    intro ys hi
    k_steps
    refine con_end hret (by assumption) (by assumption) ?_
    exact DatIn.bool _
  case step =>
    intro i ys R hi hI hR v I oI C oC D m₂ hh tk E' hv hC hx FF NN off ne
    obtain ⟨t9, rfl⟩ := hv
    obtain ⟨x1, hx1, hd1⟩ := hd.get (k := i) (by rw [List.length_map]; omega)
    obtain ⟨x2, hx2, hd2⟩ := hd.get (k := i + 1) (by rw [List.length_map]; omega)
    rw [List.getElem_map] at hd1 hd2
    obtain ⟨z1, z2, z3, z4⟩ := hes _ (List.getElem_mem (l := es) (n := i) (by omega))
    obtain ⟨z5, z6, z7, z8⟩ := hes _ (List.getElem_mem (l := es) (n := i + 1) (by omega))
    have e1 : nearAt p es most times i = isNear p (es[i]'(by omega)) (es[i + 1]'(by omega)) most times := by
      unfold nearAt
      rw [List.getD_eq_getElem?_getD, List.getD_eq_getElem?_getD, List.getElem?_eq_getElem (by omega), List.getElem?_eq_getElem (by omega)]
      rfl
    generalize (es[i]'(by omega)) = q1 at *
    generalize (es[i + 1]'(by omega)) = q2 at *
    have hy1 : vs.toArray[((0 : Int) + (i : Int)).toNat]? = some x1 := by
      rw [show ((0 : Int) + (i : Int)).toNat = i by omega, List.getElem?_toArray]; exact hx1
    have hy2 : vs.toArray[((0 : Int) + (i : Int) + 1).toNat]? = some x2 := by
      rw [show ((0 : Int) + (i : Int) + 1).toNat = i + 1 by omega, List.getElem?_toArray]; exact hx2
    k_steps
    · rename_i hb
      refine Stop.mk ?_
      refine LCg.CompEnd.intro (by with_reducible assumption) (by with_reducible assumption) _ (fun _ h => h) off trivial (hR _ ?_)
      rw [filter_range_succ, if_pos (e1.trans hb), Int.zero_add]
      exact intsAre_snoc hI _ _
    · rename_i hb
      refine Stop.mk ?_
      refine LCg.CompEnd.intro (by with_reducible assumption) (by with_reducible assumption) _ (fun _ h => h) off trivial (hR _ ?_)
      rw [filter_range_succ, if_neg (by rw [e1, hb]; exact Bool.false_ne_true)]
      exact hI
end
section
section
variable {prog : Program} {w : World} {A : Around} {E : Value → Shared → Prop} {s : Shared}
theorem nextOf_tup_item {it t : Addr} {i : Nat} {items : Array Value} {x : Value} {Q : Value → Shared → Prop} (hit : IsTupIter s.heap it t i) (ht : IsTup s.heap t items) (hx : items[i]? = some x)
    (hQ : ∀ h', IsTupIter h' it t (i + 1) → Heap.SameBut it s.heap h' → Q x { s with heap := h' }) : wpAny (model prog w) A (Builtin.SmallTypes.nextOf (.ref it)) Q E s := by
  obtain ⟨o, ho, hc, hd⟩ := id hit
  obtain ⟨ol, hol, _, nl, hdl⟩ := ht
  unfold Builtin.SmallTypes.nextOf
  refine wpAny_bind (wpAny_callSpecial?_slot (name := Str.ofString "__next__") hit.typeIs slot_tupleiter_next
    (wpAny_call_entry slot_tupleiter_next hit.typeIs entry_tupleiter_next ?_ (args_tupleiter_next _)))
  show wpAny _ _ (field (.ref it) 0 >>= _) _ _ s
  refine wpAny_bind (wpAny_field ho hd (x := .ref t) rfl ?_)
  show wpAny _ _ (if (Value.ref t == Value.none) = true then _ else _) _ _ s
  rw [if_neg (show ¬ ((Value.ref t == Value.none) = true) from Bool.false_ne_true)]
  show wpAny _ _ (field (.ref it) 1 >>= _) _ _ s
  refine wpAny_bind (wpAny_field ho hd (x := .int i 0) rfl ?_)
  show wpAny _ _ (seqItems? (.ref t) >>= _) _ _ s
  refine wpAny_bind (wpAny_seqItems hol hdl ?_)
  simp only [Int.toNat_natCast, hx]
  refine wpAny_bind (wpAny_setField ho hd (by simp) (wpAny_pure ⟨x, rfl, wpAny_pure (hQ _ ?_ (Heap.SameBut.update ..))⟩))
  exact ⟨_, Heap.get?_update_self _ ho (Obj.isFreed_of_fields (Obj.data_mapFields hd _)), (Obj.cls_mapFields ..).trans hc, by
    rw [Obj.data_mapFields hd]; simp [rawInt]⟩
theorem nextOf_tup_end {it t : Addr} {i : Nat} {items : Array Value} {Q : Value → Shared → Prop} (hh : A.handled = none) (hit : IsTupIter s.heap it t i) (ht : IsTup s.heap t items) (hx : items[i]? = none)
    (hE : ∀ h' e, Heap.ExtBut it s.heap h' → (∃ o, h'.get? e = some o ∧ o.cls = .type "StopIteration") → E (.ref e) { s with heap := h' }) : wpAny (model prog w) A (Builtin.SmallTypes.nextOf (.ref it)) Q E s := by
  obtain ⟨o, ho, hc, hd⟩ := id hit
  obtain ⟨ol, hol, _, nl, hdl⟩ := ht
  unfold Builtin.SmallTypes.nextOf
  refine wpAny_bind (wpAny_callSpecial?_slot (name := Str.ofString "__next__") hit.typeIs slot_tupleiter_next
    (wpAny_call_entry slot_tupleiter_next hit.typeIs entry_tupleiter_next ?_ (args_tupleiter_next _)))
  show wpAny _ _ (field (.ref it) 0 >>= _) _ _ s
  refine wpAny_bind (wpAny_field ho hd (x := .ref t) rfl ?_)
  show wpAny _ _ (if (Value.ref t == Value.none) = true then _ else _) _ _ s
  rw [if_neg (show ¬ ((Value.ref t == Value.none) = true) from Bool.false_ne_true)]
  show wpAny _ _ (field (.ref it) 1 >>= _) _ _ s
  refine wpAny_bind (wpAny_field ho hd (x := .int i 0) rfl ?_)
  show wpAny _ _ (seqItems? (.ref t) >>= _) _ _ s
  refine wpAny_bind (wpAny_seqItems hol hdl ?_)
  simp only [Int.toNat_natCast, hx]
  refine wpAny_bind (wpAny_rule (wpAny_bind (wpAny_setField ho hd (by simp) ?_)))
  show wpAny _ _ (newExc (.type "StopIteration") [] >>= _) _ _ _
  refine wpAny_bind ?_
  simp only [newExc, newTuple]
  refine wpAny_bind (wpAny_newObj_type ?_ (by size_fits))
  refine wpAny_bind (m := firstArgMember _ _) (wpAny_of_eq (a := Value.none) (by first | rfl | (simp only [firstArgMember]; rfl)) ?_)
  refine wpAny_newObj_type ?_ (by size_fits)
  simp only [raiseNew]
  refine wpAny_bind (wpAny_handled ?_)
  first | rw [show A.in1.handled = none from hh] | rw [hh]
  refine wpAny_bind (wpAny_pure (wpAny_throw ?_))
  exact hE _ _ (((Heap.SameBut.update ..).extBut.push _).push _) ⟨_, Heap.get?_push_size _ rfl, rfl⟩

abbrev tzH1 (h : Heap) (t : Addr) : Heap := h.push { cls := .type "tuple_iterator", data := .fields #[.ref t, .int 0 0] }
abbrev tzH2 (h : Heap) (t l : Addr) : Heap := (tzH1 h t).push { cls := .type "list_iterator", data := .fields #[.ref l, .int 0 0] }
abbrev tzH3 (h : Heap) (t l : Addr) : Heap := (tzH2 h t l).push { cls := .type "tuple", data := .seq #[.ref h.objs.size, .ref (tzH1 h t).objs.size] }
abbrev tzH4 (h : Heap) (t l : Addr) : Heap := (tzH3 h t l).push { cls := .type "tuple", data := .seq #[.none, .none] }
abbrev tzH5 (h : Heap) (t l : Addr) : Heap := (tzH4 h t l).push { cls := .type "zip", data := .fields #[.none, .bool false, .bool false, .ref (tzH2 h t l).objs.size, .ref (tzH3 h t l).objs.size] }
theorem meets_tz (t l : Addr) (xs ys : Array Value) :
    Meets (Builtin.«zip.__new__» ⟨[.type "zip", .ref t, .ref l], []⟩) (fun _ R s => IsTup s.heap t xs ∧ s.heap.IsList l ys ∧
      R (.ok (.ret (.ref (tzH4 s.heap t l).objs.size))) { s with heap := tzH5 s.heap t l }) :=
  .of_wp fun prog w A R s h => by
    obtain ⟨hp, g, d, tk, os⟩ := s; obtain ⟨hl1, hl2, h⟩ := h
    have hsub := sub_zip
    have hL1 : IsTup (Shared.heap ⟨hp, g, d, tk, os⟩) t xs := hl1
    have hL2 : Heap.IsList (Shared.heap ⟨hp.push { cls := .type "tuple_iterator", data := .fields #[.ref t, .int 0 0] }, g, d, tk, os⟩) l ys := Heap.IsList.push hl2 _
    wp_walk using iter_tuple hL1, wpAny_pyIter_list hL2
    exact ⟨_, rfl, h⟩

/-- the state of a zip over a tuple t and a list l after i turns -/
structure ZSt (n : Nat) (t l : Nat) (xs ys : Array Value) (f0 : Value) (i : Nat) (h : Heap) : Prop where
  z : IsZip h (n + 4) (n + 2) (n + 3) f0
  ti : IsPair h (n + 2) (.ref n) (.ref (n + 1))
  to : ∃ a b, IsPair h (n + 3) a b
  i1 : IsTupIter h n t i
  i2 : h.IsListIter (n + 1) l i
  l1 : IsTup h t xs
  l2 : h.IsList l ys
  lt1 : t < n
  lt2 : l < n

theorem tz_new {t l : Nat} {xs ys : Array Value} {Q : Value → Shared → Prop} (ht : IsTup s.heap t xs) (hl : s.heap.IsList l ys)
    (h : ∀ h', ZSt s.heap.objs.size t l xs ys .none 0 h' → h'.objs.size = s.heap.objs.size + 5 → (∀ c o, s.heap.get? c = some o → h'.get? c = some o) → Q (.ref (s.heap.objs.size + 4)) { s with heap := h' }) :
    wpAny (model prog w) A (call (.type "zip") [.ref t, .ref l]) Q E s := by
  refine callType_new F.called_zip (by decide) (F.typeCall_zip_2 _ _) (F.newCall_zip_2 _ _) (fun obj => F.args_object_init_3 obj _ _) F.entry_zip_new
    (meets_tz t l xs ys) ⟨ht, hl, ?_⟩
  have z1 : (tzH1 s.heap t).objs.size = s.heap.objs.size + 1 := Heap.size_push ..
  have z2 : (tzH2 s.heap t l).objs.size = s.heap.objs.size + 2 := by rw [Heap.size_push, z1]
  have z3 : (tzH3 s.heap t l).objs.size = s.heap.objs.size + 3 := by rw [Heap.size_push, z2]
  have z4 : (tzH4 s.heap t l).objs.size = s.heap.objs.size + 4 := by rw [Heap.size_push, z3]
  have z5 : (tzH5 s.heap t l).objs.size = s.heap.objs.size + 5 := by rw [Heap.size_push, z4]
  have up : ∀ c o, s.heap.get? c = some o → (tzH5 s.heap t l).get? c = some o := fun c o x =>
    Heap.get?_push_of_some _ (Heap.get?_push_of_some _ (Heap.get?_push_of_some _ (Heap.get?_push_of_some _ (Heap.get?_push_of_some _ x))))
  have g5 : (tzH5 s.heap t l).get? (tzH4 s.heap t l).objs.size = some _ := Heap.get?_push_size _ rfl
  have g4 : (tzH5 s.heap t l).get? (tzH3 s.heap t l).objs.size = some _ := Heap.get?_push_of_some _ (Heap.get?_push_size _ rfl)
  have g3 : (tzH5 s.heap t l).get? (tzH2 s.heap t l).objs.size = some _ := Heap.get?_push_of_some _ (Heap.get?_push_of_some _ (Heap.get?_push_size _ rfl))
  have g2 : (tzH5 s.heap t l).get? (tzH1 s.heap t).objs.size = some _ := Heap.get?_push_of_some _ (Heap.get?_push_of_some _ (Heap.get?_push_of_some _ (Heap.get?_push_size _ rfl)))
  have g1 : (tzH5 s.heap t l).get? s.heap.objs.size = some _ := Heap.get?_push_of_some _ (Heap.get?_push_of_some _ (Heap.get?_push_of_some _ (Heap.get?_push_of_some _ (Heap.get?_push_size _ rfl))))
  show _ ∧ _
  rw [z2, z3, z4] at g5
  rw [z1, z2] at g3
  rw [z3] at g4
  rw [z1] at g2
  rw [z4]
  exact ⟨⟨_, g5, rfl⟩, h _ ⟨g5, g3, ⟨_, _, g4⟩, ⟨_, g1, rfl, rfl⟩, ⟨_, g2, rfl, rfl⟩, ht.keeps up, (let ⟨o, ho, r⟩ := hl; ⟨o, up _ _ ho, r⟩), ht.lt, (let ⟨_, ho, _⟩ := hl; Heap.lt_size ho)⟩ z5 up⟩

theorem tz_item {n : Nat} {t l : Nat} {xs ys : Array Value} {i : Nat} {x y : Value} {Q : Option Value → Shared → Prop} (Z : ZSt n t l xs ys .none i s.heap) (hx : xs[i]? = some x) (hy : ys[i]? = some y)
    (hQ : ∀ h' (T : Nat), ZSt n t l xs ys (rawInt T) (i + 1) h' → IsPair h' T x y → n + 4 < T → s.heap.get? T = none → (∀ c o, c ≠ n + 4 → c ≠ n + 3 → c ≠ n → c ≠ n + 1 → s.heap.get? c = some o → h'.get? c = some o) → Q (some (.ref T)) { s with heap := h' }) :
    wpAny (model prog w) A (pyNext (.ref (n + 4))) Q E s := by
  obtain ⟨hz, hTI, ⟨a, b, hTO⟩, h1, h2, hl1, hl2, lt1, lt2⟩ := Z
  have hT : s.TypeIs (.ref (n + 4)) "zip" := ⟨_, hz, rfl⟩
  have e0 : ∀ {a b : Nat}, a < b → (@Ne Nat a b) := fun h => Nat.ne_of_lt h
  have e1 : ∀ {a b : Nat}, b < a → (@Ne Nat a b) := fun h => Nat.ne_of_gt h
  unfold pyNext
  refine wpAny_bind (wpAny_attempt (wpAny_callSpecial?_slot (name := Str.ofString "__next__") hT F.slot_zip_next
    (wpAny_call_entry F.slot_zip_next hT F.entry_zip_next ?_ (F.args_zip_next_1 _))))
  show wpAny _ _ (field (.ref (n + 4)) 2 >>= _) _ _ _
  refine wpAny_bind (wpAny_field hz rfl (x := .bool false) rfl ?_)
  show wpAny _ _ (field (.ref (n + 4)) 3 >>= _) _ _ _
  refine wpAny_bind (wpAny_field hz rfl (x := .ref (n + 2)) rfl ?_)
  refine wpAny_bind (wpAny_seqItems hTI rfl ?_)
  show wpAny _ _ (Builtin.SmallTypes.ownedTupleIsFree (.ref (n + 4)) >>= _) _ _ _
  refine wpAny_bind ?_
  unfold Builtin.SmallTypes.ownedTupleIsFree
  refine wpAny_bind (wpAny_field hz rfl (x := .none) rfl (wpAny_pure ?_))
  simp only [if_true]
  refine wpAny_bind (wpAny_rule ?_)
  refine wpAny_bind (wpAny_field hz rfl (x := .ref (n + 3)) rfl ?_)
  refine wpAny_bind (wpAny_setField_rec hz (by simp) fun h₁ hz₁ hs₁ => ?_)
  replace hz₁ : IsZip h₁ (n + 4) (n + 2) (n + 3) .ellipsis := hz₁
  refine wpAny_bind ?_
  simp only [List.zipIdx_cons, List.zipIdx_nil, List.forIn_cons, List.forIn_nil]
  refine wpAny_bind (wpAny_bind (wpAny_onRaise ?_))
  show wpAny _ _ (Builtin.SmallTypes.nextOf (.ref n) >>= _) _ _ _
  refine wpAny_bind (nextOf_tup_item (h1.extBut hs₁.extBut (e0 (by omega))) (hl1.extBut hs₁.extBut (e0 (by omega))) hx fun h₂ h1₂ hs₂ => wpAny_pure ?_)
  have hTO₂ : IsPair h₂ (n + 3) a b := hs₂.extBut _ _ (e1 (by omega)) (hs₁.extBut _ _ (e0 (by omega)) hTO)
  refine wpAny_bind (wpAny_seqItems hTO₂ rfl ?_)
  refine wpAny_bind (wpAny_updateSeq_pair hTO₂ fun h₃ hTO₃ hs₃ => ?_)
  replace hTO₃ : IsPair h₃ (n + 3) x b := hTO₃
  refine wpAny_bind (wpAny_letGo (wpAny_pure ?_))
  refine wpAny_bind (wpAny_bind (wpAny_onRaise ?_))
  show wpAny _ _ (Builtin.SmallTypes.nextOf (.ref (n + 1)) >>= _) _ _ _
  refine wpAny_bind (wpAny_nextOf_list_item (((h2.extBut hs₁.extBut (e0 (by omega))).extBut hs₂.extBut (e1 (by omega))).extBut hs₃.extBut (e0 (by omega)))
    (((hl2.extBut hs₁.extBut (e0 (by omega))).extBut hs₂.extBut (e0 (by omega))).extBut hs₃.extBut (e0 (by omega))) hy fun h₄ h2₄ hs₄ => wpAny_pure ?_)
  have hTO₄ : IsPair h₄ (n + 3) x b := hs₄.extBut _ _ (e1 (by omega)) hTO₃
  refine wpAny_bind (wpAny_seqItems hTO₄ rfl ?_)
  refine wpAny_bind (wpAny_updateSeq_pair hTO₄ fun h₅ hTO₅ hs₅ => ?_)
  replace hTO₅ : IsPair h₅ (n + 3) x y := hTO₅
  refine wpAny_bind (wpAny_letGo (wpAny_pure (wpAny_pure ?_)))
  refine wpAny_bind (wpAny_seqItems hTO₅ rfl ?_)
  refine wpAny_bind (wpAny_newTuple ?_)
  have hsz : h₅.objs.size = s.heap.objs.size := by rw [hs₅.1, hs₄.1, hs₃.1, hs₂.1, hs₁.1]
  have hz₅ : IsZip h₅ (n + 4) (n + 2) (n + 3) .ellipsis := hs₅.extBut _ _ (e1 (by omega)) (hs₄.extBut _ _ (e1 (by omega)) (hs₃.extBut _ _ (e1 (by omega)) (hs₂.extBut _ _ (e1 (by omega)) hz₁)))
  have hk₅ : ∀ c o, c ≠ n + 4 → c ≠ n + 3 → c ≠ n → c ≠ n + 1 → s.heap.get? c = some o → h₅.get? c = some o := fun c o c1 c2 c3 c4 e =>
    hs₅.extBut _ _ c2 (hs₄.extBut _ _ c4 (hs₃.extBut _ _ c2 (hs₂.extBut _ _ c3 (hs₁.extBut _ _ c1 e))))
  have h1₅ : IsTupIter h₅ n t (i + 1) := ((h1₂.extBut hs₃.extBut (e0 (by omega))).extBut hs₄.extBut (e0 (by omega))).extBut hs₅.extBut (e0 (by omega))
  have h2₅ : h₅.IsListIter (n + 1) l (i + 1) := h2₄.extBut hs₅.extBut (e0 (by omega))
  have hzlt : n + 4 < h₅.objs.size := Heap.lt_size hz₅
  show wpAny _ _ (Builtin.SmallTypes.ownedTupleHandOut (.ref (n + 4)) (.ref h₅.objs.size) >>= _) _ _ _
  refine wpAny_bind ?_
  unfold Builtin.SmallTypes.ownedTupleHandOut
  have hz₆ : IsZip (h₅.push { cls := .type "tuple", data := .seq #[x, y] }) (n + 4) (n + 2) (n + 3) .ellipsis := Heap.get?_push_of_some _ hz₅
  refine wpAny_bind (wpAny_setField_rec hz₆ (by simp) fun h₇ hz₇ hs₇ => ?_)
  replace hz₇ : IsZip h₇ (n + 4) (n + 2) (n + 3) (rawInt h₅.objs.size) := hz₇
  refine wpAny_setField_rec hz₇ (by simp) fun h₈ hz₈ hs₈ => ?_
  replace hz₈ : IsZip h₈ (n + 4) (n + 2) (n + 3) (rawInt h₅.objs.size) := hz₈
  have up : ∀ c o, c ≠ n + 4 → h₅.get? c = some o → h₈.get? c = some o := fun c o c1 e => hs₈.extBut _ _ c1 (hs₇.extBut _ _ c1 (Heap.get?_push_of_some _ e))
  have hT₈ : IsPair h₈ h₅.objs.size x y := hs₈.extBut _ _ (Nat.ne_of_gt hzlt) (hs₇.extBut _ _ (Nat.ne_of_gt hzlt) (Heap.get?_push_size _ rfl))
  refine wpAny_pure ⟨_, rfl, wpAny_pure ?_⟩
  refine hQ h₈ h₅.objs.size ⟨hz₈, ?_, ⟨_, _, up _ _ (e0 (by omega)) hTO₅⟩, h1₅.extBut (fun c o c1 e => up c o c1 e) (e0 (by omega)), h2₅.extBut (b := n + 4) (fun c o c1 e => up c o c1 e) (e0 (by omega)), ?_, ?_, lt1, lt2⟩ hT₈ hzlt ?_ fun c o c1 c2 c3 c4 e => up c o c1 (hk₅ c o c1 c2 c3 c4 e)
  · exact up _ _ (e0 (by omega)) (hk₅ _ _ (e0 (by omega)) (e0 (by omega)) (e1 (by omega)) (e1 (by omega)) hTI)
  · obtain ⟨o, ho, r⟩ := hl1
    exact ⟨o, up _ _ (e0 (by omega)) (hk₅ _ _ (e0 (by omega)) (e0 (by omega)) (e0 (by omega)) (e0 (by omega)) ho), r⟩
  · obtain ⟨o, ho, r⟩ := hl2
    exact ⟨o, up _ _ (e0 (by omega)) (hk₅ _ _ (e0 (by omega)) (e0 (by omega)) (e0 (by omega)) (e0 (by omega)) ho), r⟩
  · rw [hsz]; exact Heap.get?_none_of_le (Nat.le_refl _)

theorem tz_end {n : Nat} {t l : Nat} {xs ys : Array Value} {i : Nat} {Q : Option Value → Shared → Prop} (hh : A.handled = none) (Z : ZSt n t l xs ys .none i s.heap) (hx : xs[i]? = none)
    (hQ : ∀ h', (∀ c o, c ≠ n + 4 → c ≠ n + 3 → c ≠ n → c ≠ n + 1 → s.heap.get? c = some o → h'.get? c = some o) → Q none { s with heap := h' }) :
    wpAny (model prog w) A (pyNext (.ref (n + 4))) Q E s := by
  obtain ⟨hz, hTI, ⟨a, b, hTO⟩, h1, h2, hl1, hl2, lt1, lt2⟩ := Z
  have hT : s.TypeIs (.ref (n + 4)) "zip" := ⟨_, hz, rfl⟩
  have e0 : ∀ {a b : Nat}, a < b → (@Ne Nat a b) := fun h => Nat.ne_of_lt h
  have e1 : ∀ {a b : Nat}, b < a → (@Ne Nat a b) := fun h => Nat.ne_of_gt h
  unfold pyNext
  refine wpAny_bind (wpAny_attempt (wpAny_callSpecial?_slot (name := Str.ofString "__next__") hT F.slot_zip_next
    (wpAny_call_entry F.slot_zip_next hT F.entry_zip_next ?_ (F.args_zip_next_1 _))))
  show wpAny _ _ (field (.ref (n + 4)) 2 >>= _) _ _ _
  refine wpAny_bind (wpAny_field hz rfl (x := .bool false) rfl ?_)
  show wpAny _ _ (field (.ref (n + 4)) 3 >>= _) _ _ _
  refine wpAny_bind (wpAny_field hz rfl (x := .ref (n + 2)) rfl ?_)
  refine wpAny_bind (wpAny_seqItems hTI rfl ?_)
  show wpAny _ _ (Builtin.SmallTypes.ownedTupleIsFree (.ref (n + 4)) >>= _) _ _ _
  refine wpAny_bind ?_
  unfold Builtin.SmallTypes.ownedTupleIsFree
  refine wpAny_bind (wpAny_field hz rfl (x := .none) rfl (wpAny_pure ?_))
  simp only [if_true]
  refine wpAny_bind (wpAny_rule ?_)
  refine wpAny_bind (wpAny_field hz rfl (x := .ref (n + 3)) rfl ?_)
  refine wpAny_bind (wpAny_setField_rec hz (by simp) fun h₁ hz₁ hs₁ => ?_)
  replace hz₁ : IsZip h₁ (n + 4) (n + 2) (n + 3) .ellipsis := hz₁
  refine wpAny_bind ?_
  simp only [List.zipIdx_cons, List.zipIdx_nil, List.forIn_cons, List.forIn_nil]
  refine wpAny_bind (wpAny_bind (wpAny_onRaise ?_))
  show wpAny _ _ (Builtin.SmallTypes.nextOf (.ref n) >>= _) _ _ _
  refine wpAny_bind (nextOf_tup_end hh (h1.extBut hs₁.extBut (e0 (by omega))) (hl1.extBut hs₁.extBut (e0 (by omega))) hx fun h₂ e hs₂ he => ?_)
  obtain ⟨oe, hoe, hce⟩ := he
  have hz₂ : IsZip h₂ (n + 4) (n + 2) (n + 3) .ellipsis := hs₂ _ _ (e1 (by omega)) hz₁
  have hez : e ≠ n + 4 := fun x => by subst x; rw [hz₂] at hoe; cases hoe; simp at hce
  refine wpAny_setField_rec hz₂ (by simp) fun h₃ _ hs₃ => ?_
  refine wpAny_bind (wpAny_isInstance (T := "StopIteration") (b := true) ⟨oe, hs₃.extBut _ _ hez hoe, hce⟩ isSubtype_stop ?_)
  exact wpAny_pure (hQ _ fun c o c1 _ c3 _ x => hs₃.extBut _ _ c1 (hs₂ _ _ c3 (hs₁.extBut _ _ c1 x)))
end
theorem ZSt.keep {n : Nat} {t l : Nat} {xs ys : Array Value} {f0 : Value} {i : Nat} {h h' : Heap} (Z : ZSt n t l xs ys f0 i h) (hk : ∀ (c : Nat) o, c < n + 5 → h.get? c = some o → h'.get? c = some o) : ZSt n t l xs ys f0 i h' := by
  obtain ⟨hz, hTI, ⟨a, b, hTO⟩, ⟨o1, g1, r1⟩, ⟨o2, g2, r2⟩, ⟨o3, g3, r3⟩, ⟨o4, g4, r4⟩, lt1, lt2⟩ := Z
  exact ⟨hk _ _ (by omega) hz, hk _ _ (by omega) hTI, ⟨a, b, hk _ _ (by omega) hTO⟩, ⟨o1, hk _ _ (by omega) g1, r1⟩, ⟨o2, hk _ _ (by omega) g2, r2⟩, ⟨o3, hk _ _ (by omega) g3, r3⟩, ⟨o4, hk _ _ (by omega) g4, r4⟩, lt1, lt2⟩
section
variable {prog : Program} {w : World} {A : Around} {E : Value → Shared → Prop} {s : Shared}
theorem zip_comp {t l : Nat} {xs ys : Array Value} {k : Nat} {env : Env} {elt iter : Expr} {a b : Str} {pa pb tp : Pos} {kk : Nat} {scope : Scope} {cl : List (Str × Addr)} {pos : Pos} {Q : Value → Shared → Prop} (F : Nat → Value → Prop)
    (hh : A.handled = none) (hxs : xs.size = k) (hys : ys.size = k) (hsz : k ≤ sizeLine)
    (hclos : closureFor scope env = pure cl) (hcell : ∀ y ∈ scope.names, y.2 ≠ .cell) (hkind : scope.kind = .function)
    (hnames : ∀ y ∈ scope.names, y.2 = .local → scope.names.lookup y.1 = some .local) (hxa : scope.names.lookup a = some .local) (hxb : scope.names.lookup b = some .local) (hab : ¬ a = b)
    (ht : IsTup s.heap t xs) (hl : s.heap.IsList l ys)
    (hiter : ∀ R, wpAny (model prog w) A (call (.type "zip") [.ref t, .ref l]) R E s → wpAny (model prog w) A (eval iter env) R E s)
    (helt : ∀ i x y C m h tk E', xs[i]? = some x → ys[i]? = some y → h.Ns C m → m a = some x → m b = some y → (∀ c o, s.heap.get? c = some o → h.get? c = some o) →
      wpAny (model prog w) A (eval elt (compEnvC scope cl C env)) (fun v s' => Stop (F i v ∧ Keeps { s with heap := h, toks := tk } s')) E' { s with heap := h, toks := tk })
    (hQ : ∀ D h tk vs, (∀ c o, s.heap.get? c = some o → h.get? c = some o) → s.heap.get? D = none → h.get? D = some (LCg.lst vs) → vs.length = k → (∀ i v, vs[i]? = some v → F i v) → Q (.ref D) { s with heap := h, toks := tk })
    (hs : ∀ x, foldedSetIterable iter env x = pure x := by intro _; rfl) :
    wpAny (model prog w) A (eval (.ListComp elt [⟨.Tuple [.Name a pa, .Name b pb] kk tp, iter, [], 0⟩] scope pos) env) Q E s := by
  rw [eval_ListComp]
  refine wpAny_comprehension_free (use := none) rfl hs hclos hkind hnames (hiter _ (tz_new ht hl fun h0 Z hz0 hk0 => wpAny_pyIter_zip Z.z ?_))
  refine wpAny_newObj_type (wpAny_newFunctionEnv hcell (by intro y hy; simp at hy) (fun h₁ hns₁ hsb₁ => ?_) hkind)
  dsimp only at hns₁ hsb₁ ⊢
  generalize hn : s.heap.objs.size = n at *
  have hD : h0.objs.size = n + 5 := hz0
  generalize hH2 : h0.push { cls := .type "list", dict := none, data := .seq ([] : List Value).toArray } = H2 at hns₁ hsb₁ ⊢
  have hC : H2.objs.size = n + 6 := by rw [← hH2, Heap.size_push, hD]
  rw [hC] at hns₁ hsb₁ ⊢
  rw [hD]
  have old0 : ∀ (b : Nat) o, h0.get? b = some o → h₁.get? b = some o := fun b o e => by
    have hlt : b < h0.objs.size := Heap.lt_size e
    exact hsb₁.extBut b o (show (@Ne Nat b (n + 6)) by omega) (Heap.get?_push_of_some _ (hH2 ▸ Heap.get?_push_of_some _ e))
  have hacc : h₁.get? (n + 5) = some (LCg.lst []) := hsb₁.extBut _ _ (show (@Ne Nat (n + 5) (n + 6)) by omega) (Heap.get?_push_of_some _ (hH2 ▸ (hD ▸ Heap.get?_push_size _ rfl)))
  have Z1 : ZSt n t l xs ys .none 0 h₁ := Z.keep fun c o _ e => old0 c o e
  have loop : ∀ s₃ : Shared, s₃ = { s with heap := h₁, toks := s.toks + ([] : List (Str × Value)).length } →
      codeAny (model prog w) A (.compLoop (.ListComp elt [⟨.Tuple [.Name a pa, .Name b pb] kk tp, iter, [], 0⟩] scope pos) 0 (.ref (n + 4)) (.ref (n + 5)) (compEnvC scope cl (n + 6) env))
        (compPost (model prog w) A E none Q (.ref (n + 5)) (n + 6)) s₃ := by
    rintro s₃ rfl
    refine kcp_loop (fun m s' => ∃ h tk i vs mm, s' = { s with heap := h, toks := tk } ∧ i ≤ k ∧ m = k + 1 - i ∧ vs.length = i ∧ ZSt n t l xs ys .none i h ∧ (∀ (c : Nat) o, s.heap.get? c = some o → h.get? c = some o) ∧ h.Ns (n + 6) mm ∧
      h.get? (n + 5) = some (LCg.lst vs) ∧ ∀ j v, vs[j]? = some v → F j v) ?_ (k + 1) ⟨h₁, _, 0, [], _, rfl, Nat.zero_le _, rfl, rfl, Z1, fun c o e => old0 c o (hk0 c o e), hns₁, hacc, fun j v e => by simp at e⟩
    rintro m s' ⟨h, tk, i, vs, mm, rfl, hi, rfl, hlen, Zi, hks, hns, hD, hF⟩
    have slt : ∀ (c : Nat) o, s.heap.get? c = some o → c < n := fun c o e => hn ▸ Heap.lt_size e
    by_cases hlt : i < k
    · have hxi : xs[i]? = some xs[i] := Array.getElem?_eq_getElem (by omega)
      have hyi : ys[i]? = some ys[i] := Array.getElem?_eq_getElem (by omega)
      refine tz_item Zi hxi hyi fun h2 T Z2 hT hTlt hTn hk2 => ?_
      refine wpAny_letOwnedTupleGo_zip Z2.z fun h3 hz3 hs3 => ?_
      have hT3 : h3.IsTuple T #[xs[i], ys[i]] := ⟨_, hs3.extBut _ _ (show (@Ne Nat T (n + 4)) by omega) hT, rfl, _, rfl⟩
      have up3 : ∀ (c : Nat) o, c ≠ n + 4 → c ≠ n + 3 → c ≠ n → c ≠ n + 1 → h.get? c = some o → h3.get? c = some o := fun c o c1 c2 c3 c4 e => hs3.extBut c o c1 (hk2 c o c1 c2 c3 c4 e)
      have Z3 : ZSt n t l xs ys .none (i + 1) h3 := by
        obtain ⟨_, hTI, ⟨a, b, hTO⟩, ⟨o1, g1, r1⟩, ⟨o2, g2, r2⟩, ⟨o3, g3, r3⟩, ⟨o4, g4, r4⟩, lt1, lt2⟩ := Z2
        exact ⟨hz3, hs3.extBut _ _ (show (@Ne Nat (n + 2) (n + 4)) by omega) hTI, ⟨a, b, hs3.extBut _ _ (show (@Ne Nat (n + 3) (n + 4)) by omega) hTO⟩, ⟨o1, hs3.extBut _ _ (show (@Ne Nat n (n + 4)) by omega) g1, r1⟩, ⟨o2, hs3.extBut _ _ (show (@Ne Nat (n + 1) (n + 4)) by omega) g2, r2⟩, ⟨o3, hs3.extBut _ _ (show (@Ne Nat t (n + 4)) by omega) g3, r3⟩, ⟨o4, hs3.extBut _ _ (show (@Ne Nat l (n + 4)) by omega) g4, r4⟩, lt1, lt2⟩
      refine kcp_assign (env := compEnvC scope cl (n + 6) env) hh hT3 (lookup_relabel_local hxa) (lookup_relabel_local hxb) (by simp [compEnvC, relabel, hkind]) (hns.at' fun o e => up3 _ o (show (@Ne Nat (n + 6) (n + 4)) by omega) (show (@Ne Nat (n + 6) (n + 3)) by omega) (show (@Ne Nat (n + 6) n) by omega) (show (@Ne Nat (n + 6) (n + 1)) by omega) e) fun h4 tk4 hns4 hk4 => ?_
      have up4 : ∀ (c : Nat) o, c ≠ n + 6 → c ≠ n + 4 → c ≠ n + 3 → c ≠ n → c ≠ n + 1 → h.get? c = some o → h4.get? c = some o := fun c o c0 c1 c2 c3 c4 e => hk4 c o c0 (up3 c o c1 c2 c3 c4 e)
      have ks4 : ∀ (c : Nat) o, s.heap.get? c = some o → h4.get? c = some o := fun c o e => by
        have := slt c o e
        exact up4 c o (by omega) (by omega) (by omega) (by omega) (by omega) (hks c o e)
      refine wpAny_mono (helt i _ _ _ _ h4 _ _ hxi hyi hns4 (by simp [hab]) (by simp) ks4) (fun v s5 h5 => ?_) fun _ _ e => e
      replace h5 := h5.run
      obtain ⟨hFv, h5, tk5, rfl, hk5⟩ := h5
      have hD5 : h5.get? (n + 5) = some (LCg.lst vs) := hk5 _ _ (up4 (n + 5) _ (by omega) (by omega) (by omega) (by omega) (by omega) hD)
      refine append_at (hsz := by show vs.toArray.size ≤ sizeLine; rw [List.size_toArray, hlen]; omega) hD5 fun h6 hs6 hD6 => ?_
      refine ⟨k + 1 - (i + 1), by omega, h6, tk5, i + 1, vs ++ [v], _, rfl, hlt, rfl, by simp [hlen], (Z3.keep (h' := h6) fun c o hc e => hs6.extBut c o (show (@Ne Nat c (n + 5)) by omega) (hk5 c o (hk4 c o (show (@Ne Nat c (n + 6)) by omega) e))), fun c o e => ?_, (hns4.keeps hk5).sameBut hs6 (show (@Ne Nat (n + 6) (n + 5)) by omega), hD6.trans (congrArg some (LCg.lst_snoc vs v)), fun j u e => ?_⟩
      · have := slt c o e
        exact hs6.extBut c o (show (@Ne Nat c (n + 5)) by omega) (hk5 c o (ks4 c o e))
      · rw [List.getElem?_append] at e
        split at e
        · exact hF j u e
        · rename_i hj
          have hj0 : j - vs.length = 0 := by
            cases hq : j - vs.length with
            | zero => rfl
            | succ q => rw [hq] at e; simp at e
          rw [hj0] at e
          simp at e
          subst e
          have : j = i := by omega
          rw [this]; exact hFv
    · have hik : i = k := by omega
      subst hik
      refine tz_end hh Zi (Array.getElem?_eq_none (by omega)) fun h2 hk2 => ?_
      refine ⟨mm, hns.at' fun o e => hk2 _ o (show (@Ne Nat (n + 6) (n + 4)) by omega) (show (@Ne Nat (n + 6) (n + 3)) by omega) (show (@Ne Nat (n + 6) n) by omega) (show (@Ne Nat (n + 6) (n + 1)) by omega) e, fun h' hs' => hQ (n + 5) h' tk vs (fun c o e => ?_) (Heap.get?_none_of_le (by omega)) ?_ hlen hF⟩
      · have hc : @LT.lt Nat _ c n := slt c o e
        exact hs'.extBut c o (show (@Ne Nat c (n + 6)) by omega) (hk2 c o (show (@Ne Nat c (n + 4)) by omega) (show (@Ne Nat c (n + 3)) by omega) (show (@Ne Nat c n) by omega) (show (@Ne Nat c (n + 1)) by omega) (hks c o e))
      · exact hs'.extBut _ _ (show (@Ne Nat (n + 5) (n + 6)) by omega) (hk2 _ _ (show (@Ne Nat (n + 5) (n + 4)) by omega) (show (@Ne Nat (n + 5) (n + 3)) by omega) (show (@Ne Nat (n + 5) n) by omega) (show (@Ne Nat (n + 5) (n + 1)) by omega) hD)
  exact codeAny_compStart_list (loop _ rfl) (wpAny_pyIter_zip Z1.z (loop _ rfl))
end
section
variable {prog : Program} {w : World} {A : Around} {E : Value → Shared → Prop} {s : Shared}
/-- a block over a tuple whose own name is a cell -/
theorem cell_comp {k : Nat} {env : Env} {elt iter : Expr} {x : Str} {px : Pos} {scope : Scope} {cl : List (Str × Addr)} {pos : Pos} {Q : Value → Shared → Prop} (F : Nat → Value → Prop)
    (hh : A.handled = none) (hsz : k ≤ sizeLine)
    (hclos : closureFor scope env = pure cl) (hkind : scope.kind = .function)
    (hnames : ∀ y ∈ scope.names, y.2 = .local → scope.names.lookup y.1 = some .local)
    (hpush : ∀ h : Heap, pushCells h scope.names = h.push { cls := .type "cell", data := .cell none }) (hcf : ∀ n : Nat, cellsFrom n scope.names cl = (x, n) :: cl)
    (hx : ∀ C cl, (compEnvC scope cl C env).kindOf x = some .cell)
    (hiter : wpAny (model prog w) A (eval iter env) (fun xv s₁ => Stop (∃ (t : Nat) (its : Array Value), xv = .ref t ∧ IsTup s₁.heap t its ∧ its.size = k ∧
      (∀ i v (C X : Addr) h tk E', its[i]? = some v → h.IsCell X (some v) → (∀ c o, s₁.heap.get? c = some o → h.get? c = some o) →
        wpAny (model prog w) A (eval elt (compEnvC scope ((x, X) :: cl) C env)) (fun v s' => Stop (F i v ∧ Keeps { s₁ with heap := h, toks := tk } s')) E' { s₁ with heap := h, toks := tk }) ∧
      (∀ D h tk vs, (∀ c o, s₁.heap.get? c = some o → h.get? c = some o) → s₁.heap.get? D = none → h.get? D = some (LCg.lst vs) → vs.length = k → (∀ i v, vs[i]? = some v → F i v) → Q (.ref D) { s₁ with heap := h, toks := tk }))) E s)
    (hs : ∀ x, foldedSetIterable iter env x = pure x := by intro _; rfl) :
    wpAny (model prog w) A (eval (.ListComp elt [⟨.Name x px, iter, [], 0⟩] scope pos) env) Q E s := by
  rw [eval_ListComp]
  refine wpAny_comprehension_free (use := none) rfl hs hclos hkind hnames (wpAny_mono hiter (fun xv s₁ h₁ => ?_) fun _ _ e => e)
  obtain ⟨t, its, rfl, ht, hk, helt, hQ⟩ := h₁.run
  clear hiter
  obtain ⟨h0, gg, dd, tk0, os0⟩ := s₁
  dsimp only at ht helt hQ
  refine iter_tuple ht ?_
  have htl : t < h0.objs.size := ht.lt
  refine wpAny_newObj_type ?_
  dsimp only
  generalize hn : h0.objs.size = n at *
  simp only [newFunctionEnv, Option.isSome_some, if_true]
  refine wpAny_bind (wpAny_alloc ?_)
  refine wpAny_bind (wpAny_layCells _ (fun name kind cells => by cases hkc : kind == NameKind.cell <;> simp [hkc]) _ _ _ _ ?_)
  rw [hcf, hpush, List.forIn_nil]
  refine wpAny_bind (wpAny_pure (wpAny_pure ?_))
  dsimp only
  generalize hH1 : h0.push { cls := .type "tuple_iterator", data := .fields #[.ref t, .int 0 0] } = H1
  generalize hH2 : H1.push { cls := .type "list", data := .seq ([] : List Value).toArray } = H2
  generalize hH3 : H2.push { cls := .type "dict", data := .dict #[] } = H3
  generalize hH4 : H3.push { cls := .type "cell", data := .cell none } = H4
  have z1 : H1.objs.size = n + 1 := by rw [← hH1, Heap.size_push, hn]
  have z2 : H2.objs.size = n + 2 := by rw [← hH2, Heap.size_push, z1]
  have z3 : H3.objs.size = n + 3 := by rw [← hH3, Heap.size_push, z2]
  have z4 : H4.objs.size = n + 4 := by rw [← hH4, Heap.size_push, z3]
  rw [z1, z2, z3]
  have up : ∀ (c : Nat) o, h0.get? c = some o → H4.get? c = some o := fun c o e => by
    rw [← hH4, ← hH3, ← hH2, ← hH1]
    exact Heap.get?_push_of_some _ (Heap.get?_push_of_some _ (Heap.get?_push_of_some _ (Heap.get?_push_of_some _ e)))
  have gI : IsTupIter H4 n t 0 := ⟨{ cls := .type "tuple_iterator", data := .fields #[.ref t, .int 0 0] }, by
    rw [← hH4, ← hH3, ← hH2, ← hH1, ← hn]
    exact Heap.get?_push_of_some _ (Heap.get?_push_of_some _ (Heap.get?_push_of_some _ (Heap.get?_push_size _ rfl))), rfl, rfl⟩
  have gD : H4.get? (n + 1) = some (LCg.lst []) := by
    rw [← hH4, ← hH3, ← hH2, ← z1]
    exact Heap.get?_push_of_some _ (Heap.get?_push_of_some _ (Heap.get?_push_size _ rfl))
  have gC : H4.Ns (n + 2) (fun _ => none) := by
    rw [← hH4, ← hH3, ← z2]
    exact (Heap.Ns.new H2 (.type "dict")).keeps fun _ _ e => Heap.get?_push_of_some _ e
  have gX : H4.IsCell (n + 3) none := ⟨{ cls := .type "cell", data := .cell none }, by rw [← hH4, ← z3]; exact Heap.get?_push_size _ rfl, rfl⟩
  have hk4 : ∀ (c : Nat) o, h0.get? c = some o → H4.get? c = some o := up
  have slt : ∀ (c : Nat) o, h0.get? c = some o → c < n := fun c o e => hn ▸ Heap.lt_size e
  have loop : ∀ s₃ : Shared, s₃ = (⟨H4, gg, dd, tk0, os0⟩ : Shared) →
      codeAny (model prog w) A (.compLoop (.ListComp elt [⟨.Name x px, iter, [], 0⟩] scope pos) 0 (.ref n) (.ref (n + 1)) (compEnvC scope ((x, n + 3) :: cl) (n + 2) env))
        (compPost (model prog w) A E none Q (.ref (n + 1)) (n + 2)) s₃ := by
    rintro s₃ rfl
    refine kcp_loop (fun m s' => ∃ h tk i vs u, s' = ⟨h, gg, dd, tk, os0⟩ ∧ i ≤ k ∧ m = k + 1 - i ∧ vs.length = i ∧ IsTupIter h n t i ∧ IsTup h t its ∧ (∀ (c : Nat) o, h0.get? c = some o → h.get? c = some o) ∧ h.Ns (n + 2) (fun _ => none) ∧
      h.get? (n + 1) = some (LCg.lst vs) ∧ h.IsCell (n + 3) u ∧ ∀ j v, vs[j]? = some v → F j v) ?_ (k + 1) ⟨H4, _, 0, [], none, rfl, Nat.zero_le _, rfl, rfl, gI, ht.keeps up, hk4, gC, gD, gX, fun j v e => by simp at e⟩
    rintro m s' ⟨h, tk, i, vs, u, rfl, hi, rfl, hlen, It, Tt, hks, hns, hD, hX, hF⟩
    by_cases hlt : i < k
    · have hxi : its[i]? = some its[i] := Array.getElem?_eq_getElem (by omega)
      refine next_tuple_item It Tt hxi fun h2 It2 hs2 => ?_
      refine letGo_tupleiter It2 ?_
      obtain ⟨oX, gX, rX⟩ := hX
      refine wpAny_assign_Name (wpAny_storeName_cell (c := n + 3) (v₀ := u) hkind (hx _ _) (by simp [compEnvC]) ⟨oX, hs2.extBut _ _ (show (@Ne Nat (n + 3) n) by omega) gX, rX⟩ fun h3 hX3 hs3 => ?_)
      have up3 : ∀ (c : Nat) o, c ≠ n → c ≠ n + 3 → h.get? c = some o → h3.get? c = some o := fun c o c1 c2 e => hs3.extBut c o c2 (hs2.extBut c o c1 e)
      have ks3 : ∀ (c : Nat) o, h0.get? c = some o → h3.get? c = some o := fun c o e => by
        have := slt c o e
        exact up3 c o (by omega) (by omega) (hks c o e)
      refine wpAny_mono (helt i _ (n + 2) (n + 3) h3 _ _ hxi hX3 ks3) (fun v s5 h5 => ?_) fun _ _ e => e
      replace h5 := h5.run
      obtain ⟨hFv, h5, tk5, rfl, hk5⟩ := h5
      have hD5 : h5.get? (n + 1) = some (LCg.lst vs) := hk5 _ _ (up3 (n + 1) _ (by omega) (by omega) hD)
      refine append_at (hsz := by show vs.toArray.size ≤ sizeLine; rw [List.size_toArray, hlen]; omega) hD5 fun h6 hs6 hD6 => ?_
      have up6 : ∀ (c : Nat) o, c ≠ n + 1 → h3.get? c = some o → h6.get? c = some o := fun c o c1 e => hs6.extBut c o c1 (hk5 c o e)
      refine ⟨k + 1 - (i + 1), by omega, h6, tk5, i + 1, vs ++ [v], some its[i], rfl, hlt, rfl, by simp [hlen], ?_, ?_, fun c o e => ?_, ?_, hD6.trans (congrArg some (LCg.lst_snoc vs v)), ?_, fun j u e => ?_⟩
      · obtain ⟨o, ho, r⟩ := It2
        exact ⟨o, up6 _ _ (by omega) (hs3.extBut _ _ (show (@Ne Nat n (n + 3)) by omega) ho), r⟩
      · obtain ⟨o, ho, r⟩ := Tt
        exact ⟨o, up6 _ _ (by omega) (up3 _ _ (by omega) (by omega) ho), r⟩
      · have := slt c o e
        exact up6 c o (by omega) (ks3 c o e)
      · exact hns.at' fun o e => up6 _ o (show (@Ne Nat (n + 2) (n + 1)) by omega) (up3 _ o (show (@Ne Nat (n + 2) n) by omega) (show (@Ne Nat (n + 2) (n + 3)) by omega) e)
      · obtain ⟨o, ho, r⟩ := hX3
        exact ⟨o, up6 _ _ (by omega) ho, r⟩
      · rw [List.getElem?_append] at e
        split at e
        · exact hF j u e
        · rename_i hj
          have hj0 : j - vs.length = 0 := by
            cases hq : j - vs.length with
            | zero => rfl
            | succ q => rw [hq] at e; simp at e
          rw [hj0] at e
          simp at e
          subst e
          have : j = i := by omega
          rw [this]; exact hFv
    · have hik : i = k := by omega
      subst hik
      refine next_tuple_end hh It Tt (Array.getElem?_eq_none (by omega)) fun h2 hk2 => ?_
      refine ⟨_, hns.at' fun o e => hk2 _ o (show (@Ne Nat (n + 2) n) by omega) e, fun h' hs' => hQ (n + 1) h' tk vs (fun c o e => ?_) ?_ ?_ hlen hF⟩
      · have hc : @LT.lt Nat _ c n := slt c o e
        exact hs'.extBut c o (show (@Ne Nat c (n + 2)) by omega) (hk2 c o (show (@Ne Nat c n) by omega) (hks c o e))
      · cases q : h0.get? (n + 1) with
        | none => rfl
        | some o => have := slt _ _ q; omega
      · exact hs'.extBut _ _ (show (@Ne Nat (n + 1) (n + 2)) by omega) (hk2 _ _ (show (@Ne Nat (n + 1) n) by omega) hD)
  refine codeAny_compStart_list (loop _ rfl) ?_
  exact (Walks.tuple (prog := prog) (w := w) hh n t (Nat.ne_of_lt htl) its).self 0 (⟨H4, gg, dd, tk0, os0⟩ : Shared) _ _ ⟨gI, ht.keeps up⟩ (loop _ rfl)
end
section
variable {prog : Program} {w : World} {A : Around} {E : Value → Shared → Prop} {s : Shared}
theorem name_own {M : Model} {scope : Scope} {cl : List (Str × Addr)} {C : Addr} {env : Env} {x : Str} {pos : Pos} {m : Str → Option Value} {v : Value} {Q : Value → Shared → Prop} (hns : s.heap.Ns C m) (hx : m x = some v) (h : Q v s)
    (hk : (compEnvC scope cl C env).scope.kind = .function := by rfl) (hl : (compEnvC scope cl C env).kindOf x = some .local := by rfl) (hd : (x == ("__debug__" : Str)) = false := by decide) :
    wpAny M A (eval (.Name x pos) (compEnvC scope cl C env)) Q E s := ldVarK hns hx h hk hl hd
theorem name_free {M : Model} {scope : Scope} {cl : List (Str × Addr)} {C X : Addr} {env : Env} {x : Str} {pos : Pos} {v : Value} {Q : Value → Shared → Prop} (hX : s.heap.IsCell X (some v)) (hc : (compEnvC scope cl C env).cells.lookup x = some X) (h : Q v s)
    (hk : (compEnvC scope cl C env).scope.kind = .function := by rfl) (hl : (compEnvC scope cl C env).kindOf x = some .free := by rfl) (hb : (x == ("__debug__" : Str)) = false := by decide) (hn : (x == ("__classdict__" : Str)) = false := by decide) :
    wpAny M A (eval (.Name x pos) (compEnvC scope cl C env)) Q E s := wpAny_Name (wpAny_loadName_free hk hl hc hX h hn) hb
theorem name_cell {M : Model} {scope : Scope} {cl : List (Str × Addr)} {C X : Addr} {env : Env} {x : Str} {pos : Pos} {v : Value} {Q : Value → Shared → Prop} (hX : s.heap.IsCell X (some v)) (hc : (compEnvC scope cl C env).cells.lookup x = some X) (h : Q v s)
    (hk : (compEnvC scope cl C env).scope.kind = .function := by rfl) (hl : (compEnvC scope cl C env).kindOf x = some .cell := by rfl) (hb : (x == ("__debug__" : Str)) = false := by decide) :
    wpAny M A (eval (.Name x pos) (compEnvC scope cl C env)) Q E s := wpAny_Name (wpAny_loadName_cell hk hl hc hX h) hb
theorem sum_keep {l : Addr} {vs : List Value} {ns : List Int} {Q : Value → Shared → Prop} (hh : A.handled = none) (hl : s.heap.IsList l vs.toArray) (hi : IntsAre vs ns)
    (h : ∀ h' tk t', (∀ b o, s.heap.get? b = some o → h'.get? b = some o) → Q (.int ns.sum t') { s with heap := h', toks := tk }) : wpAny (model prog w) A (call (.builtin "sum") [.ref l]) Q E s := by
  obtain ⟨xs, hx⟩ := hi.allInts.items
  have hl' : s.heap.IsList l (intItems xs) := hx ▸ hl
  refine sum_intListG hh hl' fun h' tk t' hk => ?_
  have e1 : ns = xs.toList.map (·.1) := by
    rw [← nums_intItems, ← hx]
    exact (show numsOf vs.toArray.toList = ns from hi.numsOf).symm
  have e2 : preSum (numAt xs) xs.size = ns.sum := by
    rw [preSum_eq, List.take_of_length_le (by simp), e1]
  rw [e2]
  exact h h' tk t' hk
theorem ints4 {vs : List Value} {f : Nat → Int} (hl : vs.length = 4) (h : ∀ (i : Nat) (v : Value), vs[i]? = some v → ∃ t, v = Value.int (f i) t) : IntsAre vs [f 0, f 1, f 2, f 3] := by
  match vs, hl with
  | [a, b, c, d], _ =>
    obtain ⟨_, rfl⟩ := h 0 a rfl
    obtain ⟨_, rfl⟩ := h 1 b rfl
    obtain ⟨_, rfl⟩ := h 2 c rfl
    obtain ⟨_, rfl⟩ := h 3 d rfl
    exact .cons _ _ (.cons _ _ (.cons _ _ (.cons _ _ .nil)))
end
theorem news_add {h₀ h₁ h : Heap} {L D : Addr} {m : Str → Option Value} {o : Obj} {news : List (Addr × Obj)} (F : Fr h₀ L h₁ m) (N : News h₀ L h₁ news) (hk : ∀ b o, h₁.get? b = some o → h.get? b = some o) (h0 : h₁.get? D = none) (hD : h.get? D = some o) : News h₀ L h ((D, o) :: news) := fun p hp => by
  rcases List.mem_cons.mp hp with rfl | hp
  · refine ⟨hD, fun e => ?_, ?_⟩
    · obtain ⟨oL, _, _, hL, _⟩ := F.ns
      have e' : D = L := e
      rw [e', hL] at h0
      cases h0
    · cases q : h₀.get? D with
      | none => rfl
      | some o => rw [F.keep _ _ q] at h0; cases h0
  · exact ⟨hk _ _ (N p hp).1, (N p hp).2⟩
theorem two_of {vs : List Value} (hl : vs.length = 2) : ∃ a b, vs = [a, b] := by
  match vs, hl with
  | [a, b], _ => exact ⟨a, b, rfl⟩
end
section
section
variable {prog : Program} {w : World} {A : Around} {E : Value → Shared → Prop} {s : Shared}
/-- where a block takes its things from -/
structure CSrc (prog : Program) (w : World) (A : Around) (E : Value → Shared → Prop) (xv : Value) (s₁ : Shared) (o : Obj) (k : Nat) (P : Nat → Value → Prop) : Prop where
  start : ∀ R : Value → Shared → Prop, R (.ref s₁.heap.objs.size) { s₁ with heap := s₁.heap.push o } → wpAny (model prog w) A (pyIter xv) R E s₁
  walks : ∃ fp St, Walks prog w A s₁.heap.objs.size fp [s₁.heap.objs.size] k P St ∧ St 0 (s₁.heap.push o) ∧ (∀ c ∈ fp, @LE.le Nat _ c s₁.heap.objs.size) ∧ ∀ i h, St i h → ∃ o, h.get? s₁.heap.objs.size = some o
theorem CSrc.list {t : Addr} {its : Array Value} {k : Nat} (hh : A.handled = none) (hl : s.heap.IsList t its) (hk : its.size = k) : CSrc prog w A E (.ref t) s { cls := .type "list_iterator", data := .fields #[.ref t, .int 0 0] } k (fun i v => its[i]? = some v) := by
  subst hk
  have hlt : @LT.lt Nat _ t s.heap.objs.size := by obtain ⟨_, e, _⟩ := id hl; exact Heap.lt_size e
  refine ⟨fun R h => wpAny_pyIter_list hl h, _, _, Walks.list hh s.heap.objs.size t (Nat.ne_of_lt hlt) its, ⟨⟨_, Heap.get?_push_size _ rfl, rfl, rfl⟩, hl.at fun o e => Heap.get?_push_of_some _ e⟩, fun c hc => ?_, fun i h st => let ⟨o, ho, _⟩ := st.1; ⟨o, ho⟩⟩
  rcases List.mem_cons.mp hc with rfl | hc
  · exact Nat.le_refl _
  · rw [List.mem_singleton.mp hc]; exact Nat.le_of_lt hlt
theorem CSrc.range {r : Addr} {a b c : Int} {t u v : Tok} {n : Nat} (hh : A.handled = none) (hr : IsRange s.heap r a b c t u v) (hsm : Builtin.Range.small a b c = true) (hn : Builtin.Range.rangeSize a b c = ((n : Nat) : Int)) :
    CSrc prog w A E (.ref r) s { cls := .type "range_iterator", data := .fields #[rawInt a, rawInt (Builtin.Range.rangeSize a b c), rawInt c] } n (fun i v => ∃ t, v = .int (a + (i : Int) * c) t) := by
  refine ⟨fun R h => wpAny_pyIter_range hr hsm h, _, _, Walks.range hh s.heap.objs.size a c n, ?_, fun c hc => ?_, fun i h st => ⟨_, st⟩⟩
  · show IsRangeIter _ _ _ _ _
    rw [hn]
    simpa using Heap.get?_push_size _ rfl
  · rw [List.mem_singleton.mp hc]; exact Nat.le_refl _
/-- a block with a test (or none) over things of any number -/
theorem comp_gen {k : Nat} {env : Env} {elt iter : Expr} {ifs : List Expr} {x : Str} {px : Pos} {scope : Scope} {cl : List (Str × Addr)} {pos : Pos} {cpos : Pos} {use : Option (Value → Sem Unit)} {Q : Value → Shared → Prop} (b : Nat → Bool) (F : Nat → Value → List (Addr × Obj) → Prop)
    (hsz : k ≤ sizeLine)
    (hclos : closureFor scope env = pure cl) (hcell : ∀ y ∈ scope.names, y.2 ≠ .cell) (hkind : scope.kind = .function)
    (hnames : ∀ y ∈ scope.names, y.2 = .local → scope.names.lookup y.1 = some .local) (hx : scope.names.lookup x = some .local)
    (hiter : wpAny (model prog w) A (eval iter env) (fun xv s₁ => Stop (∃ o P, o.isFreed = false ∧ CSrc prog w A E xv s₁ o k P ∧
      (∀ i v C m h tk E', i < k → P i v → h.Ns C m → m x = some v → (∀ c o, s₁.heap.get? c = some o → h.get? c = some o) →
        wpAny (model prog w) A (forIn ifs true fun c r => if r = true then do let ok ← isTrue c (compEnvC scope cl C env) (eval c (compEnvC scope cl C env)); pure (ForInStep.yield ok) else pure (ForInStep.yield r)) (fun ok s' => Stop (ok = b i ∧ Keeps { s₁ with heap := h, toks := tk } s')) E' { s₁ with heap := h, toks := tk }) ∧
      (∀ i v C m h tk E', i < k → P i v → b i = true → h.Ns C m → m x = some v → (∀ c o, s₁.heap.get? c = some o → h.get? c = some o) →
        wpAny (model prog w) A (eval elt (compEnvC scope cl C env)) (fun v s' => Stop (∃ nw h' tk', s' = { s₁ with heap := h', toks := tk' } ∧ (∀ c o, h.get? c = some o → h'.get? c = some o) ∧ (∀ p ∈ nw, h'.get? p.1 = some p.2 ∧ h.get? p.1 = none) ∧ F i v nw)) E' { s₁ with heap := h, toks := tk }) ∧
      (∀ C D h tk vs m, (∀ c o, s₁.heap.get? c = some o → h.get? c = some o) → s₁.heap.get? C = none → s₁.heap.get? D = none → (@Ne Nat D C) → h.Ns C m → h.get? D = some (LCg.lst vs) → vs.length = ((List.range k).filter b).length → (∀ (j : Nat) v i, vs[j]? = some v → ((List.range k).filter b)[j]? = some i → ∃ nw, (∀ p ∈ nw, h.get? p.1 = some p.2 ∧ s₁.heap.get? p.1 = none ∧ (@Ne Nat p.1 C)) ∧ F i v nw) → compPost (model prog w) A E use Q (.ref D) C (.ok .next) { s₁ with heap := h, toks := tk }))) E s)
    (hs : ∀ x, foldedSetIterable iter env x = pure x := by intro _; rfl) :
    wpAny (model prog w) A (comprehension (.ListComp elt [⟨.Name x px, iter, ifs, 0⟩] scope pos) scope env cpos (newList []) false (eval iter env) use) Q E s := by
  refine wpAny_comprehension_free (use := use) rfl hs hclos hkind hnames (wpAny_mono hiter (fun xv s₁ h₁ => ?_) fun _ _ e => e)
  obtain ⟨o, P, ho, ⟨hstart, fp, St, W, hst, hfp, hocc⟩, htest, helt, hQ⟩ := h₁.run
  clear hiter
  obtain ⟨h0, gg, dd, tk0, os0⟩ := s₁
  dsimp only at htest helt hQ hstart W hst hfp hocc
  refine hstart _ ?_
  clear hstart
  refine wpAny_newObj_type (wpAny_newFunctionEnv hcell (by intro y hy; simp at hy) (fun h₁ hns₁ hsb₁ => ?_) hkind)
  dsimp only at hns₁ hsb₁ ⊢
  generalize hn : h0.objs.size = n at *
  generalize hH1 : h0.push o = H1 at *
  generalize hH2 : H1.push { cls := .type "list", dict := none, data := .seq ([] : List Value).toArray } = H2 at hns₁ hsb₁ ⊢
  have z1 : H1.objs.size = n + 1 := by rw [← hH1, Heap.size_push, hn]
  have z2 : H2.objs.size = n + 2 := by rw [← hH2, Heap.size_push, z1]
  rw [z1]
  rw [z2] at hns₁ hsb₁ ⊢
  have up1 : ∀ (c : Nat) o, H1.get? c = some o → h₁.get? c = some o := fun c o e => by
    have hlt : c < H1.objs.size := Heap.lt_size e
    exact hsb₁.extBut c o (show (@Ne Nat c (n + 2)) by omega) (Heap.get?_push_of_some _ (hH2 ▸ Heap.get?_push_of_some _ e))
  have up : ∀ (c : Nat) o, h0.get? c = some o → h₁.get? c = some o := fun c o e => up1 c o (hH1 ▸ Heap.get?_push_of_some _ e)
  have gD : h₁.get? (n + 1) = some (LCg.lst []) := hsb₁.extBut _ _ (show (@Ne Nat (n + 1) (n + 2)) by omega) (Heap.get?_push_of_some _ (hH2 ▸ (z1 ▸ Heap.get?_push_size _ rfl)))
  have gI : h₁.get? n = some o := up1 n o (hH1 ▸ hn ▸ Heap.get?_push_size _ ho)
  have gS : St 0 h₁ := W.frame _ _ _ hst fun c _ o e => up1 c o e
  have slt : ∀ (c : Nat) o, h0.get? c = some o → c < n := fun c o e => hn ▸ Heap.lt_size e
  have fresh : h0.get? (n + 1) = none := by
    cases q : h0.get? (n + 1) with
    | none => rfl
    | some o => have := slt _ _ q; omega
  have loop : ∀ s₃ : Shared, s₃ = (⟨h₁, gg, dd, tk0 + ([] : List (Str × Value)).length, os0⟩ : Shared) →
      codeAny (model prog w) A (.compLoop (.ListComp elt [⟨.Name x px, iter, ifs, 0⟩] scope pos) 0 (.ref n) (.ref (n + 1)) (compEnvC scope cl (n + 2) env))
        (compPost (model prog w) A E use Q (.ref (n + 1)) (n + 2)) s₃ := by
    rintro s₃ rfl
    refine codeAny_compLoop_tests (fun m s' => ∃ h tk i vs mm, s' = ⟨h, gg, dd, tk, os0⟩ ∧ i ≤ k ∧ m = k + 1 - i ∧ St i h ∧ (∃ o', h.get? n = some o') ∧ (∀ (c : Nat) o, h0.get? c = some o → h.get? c = some o) ∧ h.Ns (n + 2) mm ∧
      h.get? (n + 1) = some (LCg.lst vs) ∧ vs.length = ((List.range i).filter b).length ∧ ∀ (j : Nat) v i', vs[j]? = some v → ((List.range i).filter b)[j]? = some i' → ∃ nw, (∀ p ∈ nw, h.get? p.1 = some p.2 ∧ h0.get? p.1 = none ∧ (@Ne Nat p.1 n) ∧ (@Ne Nat p.1 (n + 1)) ∧ (@Ne Nat p.1 (n + 2))) ∧ F i' v nw) ?_ (k + 1) ⟨h₁, _, 0, [], _, rfl, Nat.zero_le _, rfl, gS, ⟨o, gI⟩, up, hns₁, gD, rfl, fun j v i' e => by simp at e⟩
    rintro m s' ⟨h, tk, i, vs, mm, rfl, hi, rfl, hS, ⟨oI, hI⟩, hks, hns, hD, hlen, hF⟩
    by_cases hlt : i < k
    · refine W.item i _ _ _ hlt hS fun v h2 tk2 hP hS2 hk2 => ?_
      have up2 : ∀ (c : Nat) o, c ≠ n → h.get? c = some o → h2.get? c = some o := fun c o c1 e => hk2 c o (by simpa using c1) e
      refine wpAny_assign_Name (wpAny_storeName_local (lookup_relabel_local hx) (hns.at' fun o e => up2 _ o (show (@Ne Nat (n + 2) n) by omega) e) (fun h3 hns3 hs3 => ?_) (by simp [compEnvC, relabel, hkind]))
      have up3 : ∀ (c : Nat) o, c ≠ n → c ≠ n + 2 → h.get? c = some o → h3.get? c = some o := fun c o c1 c2 e => hs3.extBut c o c2 (up2 c o c1 e)
      have hS3 : St (i + 1) h3 := W.frame _ _ _ hS2 fun c hc o e => hs3.extBut c o (show (@Ne Nat c (n + 2)) by have := hfp c hc; omega) e
      have ks3 : ∀ (c : Nat) o, h0.get? c = some o → h3.get? c = some o := fun c o e => by
        have := slt c o e
        exact up3 c o (by omega) (by omega) (hks c o e)
      have hI2 : ∃ oI, h2.get? n = some oI := hocc _ _ hS2
      have hD3 : h3.get? (n + 1) = some (LCg.lst vs) := up3 _ _ (show (@Ne Nat (n + 1) n) by omega) (show (@Ne Nat (n + 1) (n + 2)) by omega) hD
      refine wpAny_mono (htest i v (n + 2) _ h3 _ _ hlt hP hns3 (by simp) ks3) (fun ok s4 h4 => ?_) fun _ _ e => e
      replace h4 := h4.run
      obtain ⟨rfl, h4, tk4, rfl, hk4⟩ := h4
      have hS4 : St (i + 1) h4 := W.frame _ _ _ hS3 fun c _ o e => hk4 c o e
      have hns4 := hns3.at' (h' := h4) fun o e => hk4 _ o e
      have ks4 : ∀ (c : Nat) o, h0.get? c = some o → h4.get? c = some o := fun c o e => hk4 c o (ks3 c o e)
      obtain ⟨oI2, hI2⟩ := hI2
      have hI4 : h4.get? n = some oI2 := hk4 _ _ (hs3.extBut _ _ (show (@Ne Nat n (n + 2)) by omega) hI2)
      have hD4 := hk4 _ _ hD3
      have er : (List.range (i + 1)).filter b = if b i then (List.range i).filter b ++ [i] else (List.range i).filter b := by
        rw [List.range_succ, List.filter_append]
        cases hb : b i <;> simp [hb]
      have hF4 : ∀ (j : Nat) v i', vs[j]? = some v → ((List.range i).filter b)[j]? = some i' → ∃ nw, (∀ p ∈ nw, h4.get? p.1 = some p.2 ∧ h0.get? p.1 = none ∧ (@Ne Nat p.1 n) ∧ (@Ne Nat p.1 (n + 1)) ∧ (@Ne Nat p.1 (n + 2))) ∧ F i' v nw := by
        intro j v i' e1 e2
        obtain ⟨nw, h5, h6⟩ := hF j v i' e1 e2
        refine ⟨nw, fun p hp => ?_, h6⟩
        obtain ⟨g1, g2, g3, g4, g5⟩ := h5 p hp
        exact ⟨hk4 _ _ (up3 _ _ g3 g5 g1), g2, g3, g4, g5⟩
      split
      · rename_i hb
        rw [if_pos hb] at er
        refine wpAny_mono (helt i v (n + 2) _ h4 _ _ hlt hP hb hns4 (by simp) ks4) (fun v5 s5 h5 => ?_) fun _ _ e => e
        replace h5 := h5.run
        obtain ⟨nw, h5, tk5, rfl, hk5, hnw, hFi⟩ := h5
        refine append_at (hsz := ?hsz) (hk5 _ _ hD4) fun h6 hs6 hD6 => ?_
        case hsz =>
          show vs.toArray.size ≤ sizeLine
          have := List.length_filter_le b (List.range i)
          rw [List.length_range] at this
          rw [List.size_toArray, hlen]; omega
        have up6 : ∀ (c : Nat) o, (@Ne Nat c (n + 1)) → h4.get? c = some o → h6.get? c = some o := fun c o c1 e => hs6.extBut c o c1 (hk5 c o e)
        refine ⟨k + 1 - (i + 1), by omega, h6, tk5, i + 1, vs ++ [v5], _, rfl, hlt, rfl, W.frame _ _ _ hS4 fun c hc o e => ?_, ⟨oI2, up6 _ _ (show (@Ne Nat n (n + 1)) by omega) hI4⟩, fun c o e => ?_, hns4.at' fun o e => up6 _ o (show (@Ne Nat (n + 2) (n + 1)) by omega) e, hD6.trans (congrArg some (LCg.lst_snoc vs v5)), ?_, ?_⟩
        · have := hfp c hc
          exact up6 c o (show (@Ne Nat c (n + 1)) by omega) e
        · have := slt c o e
          exact up6 c o (show (@Ne Nat c (n + 1)) by omega) (ks4 c o e)
        · rw [er, List.length_append, List.length_append, hlen]; rfl
        · intro j v i' e1 e2
          rw [er] at e2
          rw [List.getElem?_append] at e1 e2
          rw [hlen] at e1
          split at e1
          · rename_i hj
            rw [if_pos hj] at e2
            obtain ⟨nw, h5, h6⟩ := hF4 j v i' e1 e2
            refine ⟨nw, fun p hp => ?_, h6⟩
            obtain ⟨g1, g2, g3, g4, g5⟩ := h5 p hp
            exact ⟨up6 _ _ g4 g1, g2, g3, g4, g5⟩
          · rename_i hj
            rw [if_neg hj] at e2
            have hj0 : j - ((List.range i).filter b).length = 0 := by
              cases hq : j - ((List.range i).filter b).length with
              | zero => rfl
              | succ q => rw [hq] at e1; simp at e1
            rw [hj0] at e1 e2
            simp at e1 e2
            subst e1
            subst e2
            refine ⟨nw, fun p hp => ?_, hFi⟩
            obtain ⟨g1, g2⟩ := hnw p hp
            have q1 : @Ne Nat p.1 n := fun e => by rw [e, hI4] at g2; cases g2
            have q2 : @Ne Nat p.1 (n + 1) := fun e => by rw [e, hD4] at g2; cases g2
            have q3 : @Ne Nat p.1 (n + 2) := fun e => by
              obtain ⟨oC, _, _, h9, _⟩ := hns4
              have h9' : h4.get? (n + 2) = some oC := h9
              rw [e, h9'] at g2; cases g2
            refine ⟨hs6.extBut _ _ q2 g1, ?_, q1, q2, q3⟩
            cases q : h0.get? p.1 with
            | none => rfl
            | some o => rw [ks4 _ _ q] at g2; cases g2
      · rename_i hb
        rw [if_neg hb] at er
        exact ⟨k + 1 - (i + 1), by omega, h4, tk4, i + 1, vs, _, rfl, hlt, rfl, hS4, ⟨oI2, hI4⟩, ks4, hns4, hD4, by rw [er]; exact hlen, fun j v i' e1 e2 => hF4 j v i' e1 (er ▸ e2)⟩
    · have hik : i = k := by omega
      subst hik
      refine W.done _ _ _ hS fun h2 tk2 hk2 => ?_
      have up2 : ∀ (c : Nat) o, c ≠ n → h.get? c = some o → h2.get? c = some o := fun c o c1 e => hk2 c o (by simpa using c1) e
      have freshC : h0.get? (n + 2) = none := by
        cases q : h0.get? (n + 2) with
        | none => rfl
        | some o => have := slt _ _ q; omega
      refine hQ (n + 2) (n + 1) h2 tk2 vs mm (fun c o e => ?_) freshC fresh (show (@Ne Nat (n + 1) (n + 2)) by omega) (hns.at' fun o e => up2 _ o (show (@Ne Nat (n + 2) n) by omega) e) (up2 _ _ (show (@Ne Nat (n + 1) n) by omega) hD) hlen (fun j v i' e1 e2 => ?_)
      · have hc : @LT.lt Nat _ c n := slt c o e
        exact up2 c o (show (@Ne Nat c n) by omega) (hks c o e)
      · obtain ⟨nw, h5, h6⟩ := hF j v i' e1 e2
        refine ⟨nw, fun p hp => ?_, h6⟩
        obtain ⟨g1, g2, g3, g4, g5⟩ := h5 p hp
        exact ⟨up2 _ _ g3 g1, g2, g5⟩
  refine codeAny_compStart_list (loop _ rfl) ?_
  exact W.self 0 (⟨h₁, gg, dd, _, os0⟩ : Shared) _ _ gS (loop _ rfl)
theorem comp_core {k : Nat} {env : Env} {elt iter : Expr} {ifs : List Expr} {x : Str} {px : Pos} {scope : Scope} {cl : List (Str × Addr)} {pos : Pos} {Q : Value → Shared → Prop} (b : Nat → Bool) (F : Nat → Value → List (Addr × Obj) → Prop)
    (hsz : k ≤ sizeLine)
    (hclos : closureFor scope env = pure cl) (hcell : ∀ y ∈ scope.names, y.2 ≠ .cell) (hkind : scope.kind = .function)
    (hnames : ∀ y ∈ scope.names, y.2 = .local → scope.names.lookup y.1 = some .local) (hx : scope.names.lookup x = some .local)
    (hiter : wpAny (model prog w) A (eval iter env) (fun xv s₁ => Stop (∃ o P, o.isFreed = false ∧ CSrc prog w A E xv s₁ o k P ∧
      (∀ i v C m h tk E', i < k → P i v → h.Ns C m → m x = some v → (∀ c o, s₁.heap.get? c = some o → h.get? c = some o) →
        wpAny (model prog w) A (forIn ifs true fun c r => if r = true then do let ok ← isTrue c (compEnvC scope cl C env) (eval c (compEnvC scope cl C env)); pure (ForInStep.yield ok) else pure (ForInStep.yield r)) (fun ok s' => Stop (ok = b i ∧ Keeps { s₁ with heap := h, toks := tk } s')) E' { s₁ with heap := h, toks := tk }) ∧
      (∀ i v C m h tk E', i < k → P i v → b i = true → h.Ns C m → m x = some v → (∀ c o, s₁.heap.get? c = some o → h.get? c = some o) →
        wpAny (model prog w) A (eval elt (compEnvC scope cl C env)) (fun v s' => Stop (∃ nw h' tk', s' = { s₁ with heap := h', toks := tk' } ∧ (∀ c o, h.get? c = some o → h'.get? c = some o) ∧ (∀ p ∈ nw, h'.get? p.1 = some p.2 ∧ h.get? p.1 = none) ∧ F i v nw)) E' { s₁ with heap := h, toks := tk }) ∧
      (∀ D h tk vs, (∀ c o, s₁.heap.get? c = some o → h.get? c = some o) → s₁.heap.get? D = none → h.get? D = some (LCg.lst vs) → vs.length = ((List.range k).filter b).length → (∀ (j : Nat) v i, vs[j]? = some v → ((List.range k).filter b)[j]? = some i → ∃ nw, (∀ p ∈ nw, h.get? p.1 = some p.2 ∧ s₁.heap.get? p.1 = none) ∧ F i v nw) → Q (.ref D) { s₁ with heap := h, toks := tk }))) E s)
    (hs : ∀ x, foldedSetIterable iter env x = pure x := by intro _; rfl) :
    wpAny (model prog w) A (eval (.ListComp elt [⟨.Name x px, iter, ifs, 0⟩] scope pos) env) Q E s := by
  rw [eval_ListComp]
  refine comp_gen b F hsz hclos hcell hkind hnames hx (wpAny_mono hiter (fun xv s₁ h => ?_) fun _ _ e => e) hs
  obtain ⟨o, P, h1, h2, h3, h4, h5⟩ := h.run
  refine Stop.mk ⟨o, P, h1, h2, h3, h4, fun C D h tk vs m a1 a2 a3 a4 a5 a6 a7 a8 => ⟨m, a5, fun h' hs' => h5 D h' tk vs (fun c o e => ?_) a3 (hs'.extBut _ _ a4 a6) a7 fun j v i e1 e2 => ?_⟩⟩
  · exact hs'.extBut c o (fun e2 => by rw [e2, a2] at e; cases e) (a1 c o e)
  · obtain ⟨nw, g1, g2⟩ := a8 j v i e1 e2
    exact ⟨nw, fun p hp => ⟨hs'.extBut _ _ (g1 p hp).2.2 (g1 p hp).1, (g1 p hp).2.1⟩, g2⟩
theorem assign_comp {k : Nat} {env : Env} {elt iter : Expr} {ifs : List Expr} {x : Str} {px : Pos} {scope : Scope} {cl : List (Str × Addr)} {pos : Pos} {Q : Flow → Shared → Prop} {y : Str} {py spos : Pos} (b : Nat → Bool) (F : Nat → Value → List (Addr × Obj) → Prop)
    (hsz : k ≤ sizeLine)
    (hsw : swapsWith (.ListComp elt [⟨.Name x px, iter, ifs, 0⟩] scope pos) (some (.Name y py)) spos.line env = pure true) (hy : env.kindOf y = some .local) (hp : (env.scope.kind == .class || (env.scope.kind == .module && env.locals != env.globals)) = false)
    (hclos : closureFor scope env = pure cl) (hcell : ∀ y ∈ scope.names, y.2 ≠ .cell) (hkind : scope.kind = .function)
    (hnames : ∀ y ∈ scope.names, y.2 = .local → scope.names.lookup y.1 = some .local) (hx : scope.names.lookup x = some .local)
    (hiter : wpAny (model prog w) A (eval iter env) (fun xv s₁ => Stop (∃ o P, o.isFreed = false ∧ CSrc prog w A E xv s₁ o k P ∧
      (∀ i v C m h tk E', i < k → P i v → h.Ns C m → m x = some v → (∀ c o, s₁.heap.get? c = some o → h.get? c = some o) →
        wpAny (model prog w) A (forIn ifs true fun c r => if r = true then do let ok ← isTrue c (compEnvC scope cl C env) (eval c (compEnvC scope cl C env)); pure (ForInStep.yield ok) else pure (ForInStep.yield r)) (fun ok s' => Stop (ok = b i ∧ Keeps { s₁ with heap := h, toks := tk } s')) E' { s₁ with heap := h, toks := tk }) ∧
      (∀ i v C m h tk E', i < k → P i v → b i = true → h.Ns C m → m x = some v → (∀ c o, s₁.heap.get? c = some o → h.get? c = some o) →
        wpAny (model prog w) A (eval elt (compEnvC scope cl C env)) (fun v s' => Stop (∃ nw h' tk', s' = { s₁ with heap := h', toks := tk' } ∧ (∀ c o, h.get? c = some o → h'.get? c = some o) ∧ (∀ p ∈ nw, h'.get? p.1 = some p.2 ∧ h.get? p.1 = none) ∧ F i v nw)) E' { s₁ with heap := h, toks := tk }) ∧
      (∃ h₀ m news, Fr h₀ env.locals s₁.heap m ∧ News h₀ env.locals s₁.heap news ∧ ∀ D h tk vs, Fr h₀ env.locals h (fun z => if z = y then some (.ref D) else m z) → News h₀ env.locals h ((D, LCg.lst vs) :: news) → AllNe D news → vs.length = ((List.range k).filter b).length → (∀ (j : Nat) v i, vs[j]? = some v → ((List.range k).filter b)[j]? = some i → ∃ nw, News h₀ env.locals h nw ∧ (∀ p ∈ nw, AllNe p.1 news) ∧ F i v nw) → Q .next { s₁ with heap := h, toks := tk }))) E s)
    (hs : ∀ x, foldedSetIterable iter env x = pure x := by intro _; rfl) :
    wpAny (model prog w) A (exec (.Assign [.Name y py] (.ListComp elt [⟨.Name x px, iter, ifs, 0⟩] scope pos) spos) env) Q E s := by
  rw [exec_Assign_Name_used _ _ _ _ hsw]
  refine wpAny_bind (wpAny_standAt (wpAny_bind ?_))
  show wpAny _ A (do let _ ← comprehension (.ListComp elt [⟨.Name x px, iter, ifs, 0⟩] scope pos) scope env _ (newList []) false (eval iter env) (some (assign (.Name y py) env))) _ _ s
  refine wpAny_bind (wpAny_mono (comp_gen (use := some (assign (.Name y py) env)) (Q := fun _ s' => Q .next s') b F hsz hclos hcell hkind hnames hx
    (wpAny_mono hiter (fun xv s₁ h => ?_) fun _ _ e => e) hs) (fun _ s' hq => wpAny_pure (wpAny_pure hq)) fun _ _ e => e)
  obtain ⟨o, P, h1, h2, h3, h4, h₀, m0, news, F0, N0, h5⟩ := h.run
  refine Stop.mk ⟨o, P, h1, h2, h3, h4, fun C D h tk vs m a1 a2 a3 a4 a5 a6 a7 a8 => ?_⟩
  have hL : ∃ o, s₁.heap.get? env.locals = some o := let ⟨o, _, _, ho, _⟩ := F0.ns; ⟨o, ho⟩
  obtain ⟨oL, hL⟩ := hL
  have hLC : env.locals ≠ C := fun e => by rw [← e, hL] at a2; cases a2
  have hLD : env.locals ≠ D := fun e => by rw [← e, hL] at a3; cases a3
  show wpAny _ A (assign (.Name y py) env (.ref D)) _ _ _
  refine wpAny_assign_Name (wpAny_storeName_local hy (F0.ns.at' fun o e => a1 _ _ e) (fun h₂ hn₂ hs₂ => ?_) hp)
  refine ⟨m, a5.sameBut hs₂ (Ne.symm hLC), fun h₃ hs₃ => ?_⟩
  have keep : ∀ c o, c ≠ env.locals → s₁.heap.get? c = some o → h₃.get? c = some o := fun c o hc e =>
    hs₃.extBut c o (fun e2 => by rw [e2, a2] at e; cases e) (hs₂.extBut c o hc (a1 c o e))
  have off0 : ∀ c, s₁.heap.get? c = none → h₀.get? c = none := fun c hc => by
    cases q : h₀.get? c with
    | none => rfl
    | some o => rw [F0.keep _ _ q] at hc; cases hc
  refine h5 D h₃ _ vs ⟨hn₂.sameBut hs₃ hLC, fun b o e => keep b o (Nat.ne_of_lt (Nat.lt_of_lt_of_le (Heap.lt_size e) F0.above)) (F0.keep b o e), F0.above⟩ (fun p hp => ?_) (allNe_of fun q hq e => by have := (N0 q hq).1; rw [← e, a3] at this; cases this) a7 fun j v i e1 e2 => ?_
  · rcases List.mem_cons.mp hp with rfl | hp
    · exact ⟨hs₃.extBut _ _ a4 (hs₂.extBut _ _ (Ne.symm hLD) a6), Ne.symm hLD, off0 _ a3⟩
    · exact ⟨keep _ _ (N0 p hp).2.1 (N0 p hp).1, (N0 p hp).2⟩
  · obtain ⟨nw, g1, g2⟩ := a8 j v i e1 e2
    refine ⟨nw, fun p hp => ?_, (fun p hp => allNe_of fun q hq e => by have := (N0 q hq).1; rw [← e, (g1 p hp).2.1] at this; cases this), g2⟩
    have hpL : p.1 ≠ env.locals := fun e => by have := (g1 p hp).2.1; rw [e, hL] at this; cases this
    exact ⟨hs₃.extBut _ _ (g1 p hp).2.2 (hs₂.extBut _ _ hpL (g1 p hp).1), hpL, off0 _ (g1 p hp).2.1⟩
end
section
variable {prog : Program} {w : World} {A : Around} {E : Value → Shared → Prop} {s : Shared}
/-- a block without a test -/
theorem comp_plain {k : Nat} {env : Env} {elt iter : Expr} {x : Str} {px : Pos} {scope : Scope} {cl : List (Str × Addr)} {pos : Pos} {Q : Value → Shared → Prop} (F : Nat → Value → List (Addr × Obj) → Prop)
    (hsz : k ≤ sizeLine)
    (hclos : closureFor scope env = pure cl) (hcell : ∀ y ∈ scope.names, y.2 ≠ .cell) (hkind : scope.kind = .function)
    (hnames : ∀ y ∈ scope.names, y.2 = .local → scope.names.lookup y.1 = some .local) (hx : scope.names.lookup x = some .local)
    (hiter : wpAny (model prog w) A (eval iter env) (fun xv s₁ => Stop (∃ o P, o.isFreed = false ∧ CSrc prog w A E xv s₁ o k P ∧
      (∀ i v C m h tk E', i < k → P i v → h.Ns C m → m x = some v → (∀ c o, s₁.heap.get? c = some o → h.get? c = some o) →
        wpAny (model prog w) A (eval elt (compEnvC scope cl C env)) (fun v s' => Stop (∃ nw h' tk', s' = { s₁ with heap := h', toks := tk' } ∧ (∀ c o, h.get? c = some o → h'.get? c = some o) ∧ (∀ p ∈ nw, h'.get? p.1 = some p.2 ∧ h.get? p.1 = none) ∧ F i v nw)) E' { s₁ with heap := h, toks := tk }) ∧
      (∀ D h tk vs, (∀ c o, s₁.heap.get? c = some o → h.get? c = some o) → s₁.heap.get? D = none → h.get? D = some (LCg.lst vs) → vs.length = k → (∀ (j : Nat) v, vs[j]? = some v → ∃ nw, (∀ p ∈ nw, h.get? p.1 = some p.2 ∧ s₁.heap.get? p.1 = none) ∧ F j v nw) → Q (.ref D) { s₁ with heap := h, toks := tk }))) E s)
    (hs : ∀ x, foldedSetIterable iter env x = pure x := by intro _; rfl) :
    wpAny (model prog w) A (eval (.ListComp elt [⟨.Name x px, iter, [], 0⟩] scope pos) env) Q E s := by
  refine comp_core (b := fun _ => true) F hsz hclos hcell hkind hnames hx (wpAny_mono hiter (fun xv s₁ h => ?_) fun _ _ e => e) hs
  obtain ⟨o, P, h1, h2, h3, h4⟩ := h.run
  refine Stop.mk ⟨o, P, h1, h2, fun i v C m h tk E' _ _ _ _ _ => ?_, fun i v C m h tk E' a b _ => h3 i v C m h tk E' a b, fun D h tk vs a b c d e => h4 D h tk vs a b c ?_ fun j v ev => ?_⟩
  · exact wpAny_pure ⟨rfl, h, tk, rfl, fun _ _ e => e⟩
  · rw [d, List.filter_eq_self.mpr (fun _ _ => rfl), List.length_range]
  · have hj : j < vs.length := (List.getElem?_eq_some_iff.mp ev).1
    refine e j v j ev ?_
    rw [List.filter_eq_self.mpr (fun _ _ => rfl)] at d ⊢
    rw [List.length_range] at d
    rw [List.getElem?_range (by omega)]
/-- a block without a test that is bound to a name -/
theorem assign_plain {k : Nat} {env : Env} {elt iter : Expr} {x : Str} {px : Pos} {scope : Scope} {cl : List (Str × Addr)} {pos : Pos} {Q : Flow → Shared → Prop} {y : Str} {py spos : Pos} (F : Nat → Value → List (Addr × Obj) → Prop)
    (hsz : k ≤ sizeLine)
    (hsw : swapsWith (.ListComp elt [⟨.Name x px, iter, [], 0⟩] scope pos) (some (.Name y py)) spos.line env = pure true) (hy : env.kindOf y = some .local) (hp : (env.scope.kind == .class || (env.scope.kind == .module && env.locals != env.globals)) = false)
    (hclos : closureFor scope env = pure cl) (hcell : ∀ y ∈ scope.names, y.2 ≠ .cell) (hkind : scope.kind = .function)
    (hnames : ∀ y ∈ scope.names, y.2 = .local → scope.names.lookup y.1 = some .local) (hx : scope.names.lookup x = some .local)
    (hiter : wpAny (model prog w) A (eval iter env) (fun xv s₁ => Stop (∃ o P, o.isFreed = false ∧ CSrc prog w A E xv s₁ o k P ∧
      (∀ i v C m h tk E', i < k → P i v → h.Ns C m → m x = some v → (∀ c o, s₁.heap.get? c = some o → h.get? c = some o) →
        wpAny (model prog w) A (eval elt (compEnvC scope cl C env)) (fun v s' => Stop (∃ nw h' tk', s' = { s₁ with heap := h', toks := tk' } ∧ (∀ c o, h.get? c = some o → h'.get? c = some o) ∧ (∀ p ∈ nw, h'.get? p.1 = some p.2 ∧ h.get? p.1 = none) ∧ F i v nw)) E' { s₁ with heap := h, toks := tk }) ∧
      (∃ h₀ m news, Fr h₀ env.locals s₁.heap m ∧ News h₀ env.locals s₁.heap news ∧ ∀ D h tk vs, Fr h₀ env.locals h (fun z => if z = y then some (.ref D) else m z) → News h₀ env.locals h ((D, LCg.lst vs) :: news) → AllNe D news → vs.length = k → (∀ (j : Nat) v, vs[j]? = some v → ∃ nw, News h₀ env.locals h nw ∧ (∀ p ∈ nw, AllNe p.1 news) ∧ F j v nw) → Q .next { s₁ with heap := h, toks := tk }))) E s)
    (hs : ∀ x, foldedSetIterable iter env x = pure x := by intro _; rfl) :
    wpAny (model prog w) A (exec (.Assign [.Name y py] (.ListComp elt [⟨.Name x px, iter, [], 0⟩] scope pos) spos) env) Q E s := by
  refine assign_comp (b := fun _ => true) F hsz hsw hy hp hclos hcell hkind hnames hx (wpAny_mono hiter (fun xv s₁ h => ?_) fun _ _ e => e) hs
  obtain ⟨o, P, h1, h2, h3, h₀, m0, news, F0, N0, h4⟩ := h.run
  refine Stop.mk ⟨o, P, h1, h2, fun i v C m h tk E' _ _ _ _ _ => ?_, fun i v C m h tk E' a b _ => h3 i v C m h tk E' a b, h₀, m0, news, F0, N0, fun D h tk vs a b c d e => h4 D h tk vs a b c ?_ fun j v ev => ?_⟩
  · exact wpAny_pure ⟨rfl, h, tk, rfl, fun _ _ e => e⟩
  · rw [d, List.filter_eq_self.mpr (fun _ _ => rfl), List.length_range]
  · have hj : j < vs.length := (List.getElem?_eq_some_iff.mp ev).1
    refine e j v j ev ?_
    rw [List.filter_eq_self.mpr (fun _ _ => rfl)] at d ⊢
    rw [List.length_range] at d
    rw [List.getElem?_range (by omega)]
/-- ints alone -/
theorem ints_of {vs : List Value} {f : Nat → Int} {h h₁ : Heap} (h : ∀ (j : Nat) v, vs[j]? = some v → ∃ nw : List (Addr × Obj), (∀ p ∈ nw, h.get? p.1 = some p.2 ∧ h₁.get? p.1 = none) ∧ ∃ t, v = Value.int (f j) t) : ∀ (j : Nat) v, vs[j]? = some v → ∃ t, v = Value.int (f j) t := fun j v e => let ⟨_, _, r⟩ := h j v e; r
theorem four_of {vs : List Value} (hl : vs.length = 4) : ∃ a b c d, vs = [a, b, c, d] := by
  match vs, hl with
  | [a, b, c, d], _ => exact ⟨a, b, c, d, rfl⟩
theorem ints_ofN {vs : List Value} {f : Nat → Int} {h₀ h : Heap} {L : Addr} {news : List (Addr × Obj)} (h : ∀ (j : Nat) v, vs[j]? = some v → ∃ nw : List (Addr × Obj), News h₀ L h nw ∧ (∀ p ∈ nw, AllNe p.1 news) ∧ ∃ t, v = Value.int (f j) t) : ∀ (j : Nat) v, vs[j]? = some v → ∃ t, v = Value.int (f j) t := fun j v e => let ⟨_, _, _, r⟩ := h j v e; r
/-- things made new, as data -/
theorem dat_of {d : Nat → Dat} {h h₁ : Heap} : ∀ {vs : List Value} {i : Nat}, (∀ (j : Nat) v, vs[j]? = some v → ∃ nw, (∀ p ∈ nw, h.get? p.1 = some p.2 ∧ h₁.get? p.1 = none) ∧ DatIn nw v (d (i + j))) →
    ∃ nws, (∀ p ∈ nws, h.get? p.1 = some p.2 ∧ h₁.get? p.1 = none) ∧ DatAll nws vs ((List.range' i vs.length).map d)
  | [], i, _ => ⟨[], fun p hp => (nomatch hp), .nil⟩
  | v :: vs, i, hv => by
    obtain ⟨nw, h1, h2⟩ := hv 0 v rfl
    obtain ⟨nws, h3, h4⟩ := dat_of (vs := vs) (i := i + 1) fun j u e => by
      have := hv (j + 1) u e
      rw [show i + (j + 1) = i + 1 + j by omega] at this
      exact this
    refine ⟨nw ++ nws, fun p hp => (List.mem_append.mp hp).elim (h1 p) (h3 p), ?_⟩
    rw [List.length_cons, List.range'_succ, List.map_cons]
    exact .cons (h2.mono fun p hp => List.mem_append.mpr (.inl hp)) (h4.mono fun p hp => List.mem_append.mpr (.inr hp))
end
theorem cell_of {h₀ h : Heap} {L a : Addr} {news : List (Addr × Obj)} {o : Obj} {v : Option Value} (N : News h₀ L h news) (hm : (a, o) ∈ news) (d : o.data = .cell v) : h.IsCell a v := ⟨o, (N _ hm).1, d⟩
theorem cell_keeps {h h' : Heap} {a : Addr} {v : Option Value} (H : h.IsCell a v) (hk : ∀ c o, h.get? c = some o → h'.get? c = some o) : h'.IsCell a v := let ⟨o, e, d⟩ := H; ⟨o, hk _ _ e, d⟩
theorem allNe_new {h₀ h : Heap} {L D : Addr} {news : List (Addr × Obj)} (N : News h₀ L h news) (h0 : h.get? D = none) : AllNe D news :=
  allNe_of fun q hq e => by have := (N q hq).1; rw [← e, h0] at this; cases this
theorem sum_genN {prog : Program} {w : World} {A : Around} {E : Value → Shared → Prop} {s : Shared} {h₀ : Heap} {L : Addr} {m : Str → Option Value} {news : List (Addr × Obj)} {l : Addr} {vs : List Value} {ns : List Int} {Q : Value → Shared → Prop} (hh : A.handled = none) (F : Fr h₀ L s.heap m) (N : News h₀ L s.heap news) (hl : s.heap.IsList l vs.toArray) (hi : IntsAre vs ns)
    (h : ∀ h' tk t', Fr h₀ L h' m → News h₀ L h' news → Q (.int ns.sum t') { s with heap := h', toks := tk }) : wpAny (model prog w) A (call (.builtin "sum") [.ref l]) Q E s := by
  obtain ⟨xs, hx⟩ := hi.allInts.items
  have hl' : s.heap.IsList l (intItems xs) := hx ▸ hl
  refine sum_intListG hh hl' fun h' tk t' hk => ?_
  have e1 : ns = xs.toList.map (·.1) := by
    rw [← nums_intItems, ← hx]
    exact (show numsOf vs.toArray.toList = ns from hi.numsOf).symm
  have e2 : preSum (numAt xs) xs.size = ns.sum := by
    rw [preSum_eq, List.take_of_length_le (by simp), e1]
  rw [e2]
  exact h h' tk t' (F.keeps hk) (N.grown hk)
end
section
local macro_rules | `(tactic| walk_at "eval ListComp") => `(tactic| (refine stop_here ?_))
local macro_rules | `(tactic| walk_at "call type:zip") => `(tactic| (refine stop_here ?_))
local macro_rules | `(tactic| walk_at "call builtin:sum") => `(tactic| k_dflt (refine sum_keep rfl ⟨_, by assumption, rfl, _, rfl⟩ (ints4 (by assumption) (by assumption)) ?_; intro h5 tk5 t5 kp5))
local macro_rules | `(tactic| walk_at "eval Name") => `(tactic| (k_here; (with_reducible show wpAny _ _ (eval (Expr.Name _ _) (compEnvC _ _ _ _)) _ _ _); k_dflt (first | refine name_own (by assumption) (by assumption) ?_ | refine name_cell (by assumption) rfl ?_ | refine name_free (by assumption) rfl ?_)))
def cv (a b c d k mn : Int) : Int := (mn - k) ^ Int.toNat 3 * a + (3 * k * (mn - k) ^ Int.toNat 2 * b + (3 * k * k * (mn - k) * c + (k ^ Int.toNat 3 * d + 0)))
set_option maxRecDepth 100000 in
set_option maxHeartbeats 4000000 in
theorem curve_con (p0 p1 p2 p3 : Pt) (k mn : Int) (h0 : PB 10000 p0) (h1 : PB 10000 p1) (h2 : PB 10000 p2) (h3 : PB 10000 p3) (hm : 0 ≤ mn ∧ mn ≤ 8) (hkm : 0 ≤ k ∧ k ≤ mn) :
    Con 248 12 [.list [ptD p0, ptD p1, ptD p2, ptD p3], .int k, .int mn] (New (ptD (cv p0.1 p1.1 p2.1 p3.1 k mn, cv p0.2 p1.2 p2.2 p3.2 k mn))) := by
  unfold Con
  k_fill
  intro w mean mg mb dp un gd cn cs a ccd cl outer A₀ base h₀ L m olds s vs Q E B F X T hk hH hD hroom hunits hret
  obtain ⟨v1, v2, v3, rfl, hd1, hd2, hd3⟩ := all3 hD
  obtain ⟨t0, rfl⟩ := int_of hd2
  obtain ⟨t01, rfl⟩ := int_of hd3
  obtain ⟨al, vs, nl, rfl, ml, hd⟩ := list_of hd1
  obtain ⟨v1, v2, v3, v4, rfl, hd4, hd5, hd6, hd7⟩ := all4 hd
  obtain ⟨a2, n2, t1, t2, rfl, m2⟩ := pt_of hd4
  obtain ⟨a3, n3, t3, t4, rfl, m3⟩ := pt_of hd5
  obtain ⟨a4, n4, t5, t6, rfl, m4⟩ := pt_of hd6
  obtain ⟨a5, n5, t7, t8, rfl, m5⟩ := pt_of hd7
  clear hD hd1 hd2 hd3 hd hd4 hd5 hd6 hd7
  have bk : Bd 4 k := Bd.of (by omega)
  have bm : Bd 4 mn := Bd.of (by omega)
  have b1 := hH.list ml
  have b2 := hH.tup m2
  have b3 := hH.tup m3
  have b4 := hH.tup m4
  have b5 := hH.tup m5
  k_dflt walk_at "MY_ENTERC"
  k_steps
  refine Stop.mk ?_
  refine' cell_comp (k := 2) ?F rfl ?h2 ?h3 ?h4 ?h5 ?h6 ?h7 ?h8 ?hiter
  case h3 => with_unfolding_all rfl
  case h4 => rfl
  case h5 => decide
  case h6 => intro h; rfl
  case h7 => intro n; rfl
  case h8 => intro C cl; rfl
  case h2 => exact Nat.le_of_ble_eq_true rfl
  case F => exact fun i v => ∃ t, v = .int (if i = 0 then cv p0.1 p1.1 p2.1 p3.1 k mn else cv p0.2 p1.2 p2.2 p3.2 k mn) t
  case hiter =>
    k_steps
    refine Stop.mk ?_
    rename_i F1 N1 l1
    refine ⟨_, _, rfl, News.isTup N1 (List.Mem.head _), rfl, ?_, ?_⟩
    · intro i v C2 X2 h2 tk2 E2 hv hX2 kp2
      have F2 := F1.keeps kp2
      have N2 := N1.grown kp2
      clear F1 N1
      have hi : i = 0 ∨ i = 1 := by
        rcases i with _ | _ | i
        · exact .inl rfl
        · exact .inr rfl
        · simp at hv
      rcases hi with rfl | rfl
      · obtain ⟨tv, rfl⟩ : ∃ t, v = Value.int 0 t := ⟨_, (Option.some.inj hv).symm⟩
        clear hv
        k_steps
        refine Stop.mk ?_
        refine' zip_comp (k := 4) (F := fun i v => ∃ t, v = .int (match i with | 0 => (mn - k) ^ Int.toNat 3 * p0.1 | 1 => 3 * k * (mn - k) ^ Int.toNat 2 * p1.1 | 2 => 3 * k * k * (mn - k) * p2.1 | _ => k ^ Int.toNat 3 * p3.1) t) rfl ?h1 ?h2 ?h3 ?h4 ?h5 ?h6 ?h7 ?h8 ?h9 ?h10 ?h11 ?h12 ?hiter ?helt ?hQ
        case hiter => (intro R hR; k_steps; exact Stop.mk hR)
        case h11 => exact News.isTup N2 (by walk_at "MY_MEM")
        case h12 => exact Fr.lst F2 b1
        case h1 => rfl
        case h2 => rfl
        case h3 => exact Nat.le_of_ble_eq_true rfl
        case h4 => with_unfolding_all rfl
        case h5 => decide
        case h6 => rfl
        case h7 => decide
        case h8 => rfl
        case h9 => rfl
        case h10 => decide
        case helt =>
          intro i x y C3 m3 h3 tk3 E3 hx hy hns3 ma3 mb3 kp3
          have F3 := F2.keeps kp3
          have N3 := N2.grown kp3
          have hX3 := hX2.keeps kp3
          clear F2 N2 hX2
          rcases i with _ | _ | _ | _ | i
          · obtain ⟨tx, rfl⟩ : ∃ t, x = Value.int ((mn - k) ^ Int.toNat 3) t := ⟨_, (Option.some.inj hx).symm⟩
            obtain rfl : y = Value.ref a2 := (Option.some.inj hy).symm
            clear hx hy
            k_steps
            refine Stop.mk ?_
            exact ⟨⟨_, rfl⟩, h3, _, rfl, fun _ _ e => e⟩
          · obtain ⟨tx, rfl⟩ : ∃ t, x = Value.int (3 * k * (mn - k) ^ Int.toNat 2) t := ⟨_, (Option.some.inj hx).symm⟩
            obtain rfl : y = Value.ref a3 := (Option.some.inj hy).symm
            clear hx hy
            k_steps
            refine Stop.mk ?_
            exact ⟨⟨_, rfl⟩, h3, _, rfl, fun _ _ e => e⟩
          · obtain ⟨tx, rfl⟩ : ∃ t, x = Value.int (3 * k * k * (mn - k)) t := ⟨_, (Option.some.inj hx).symm⟩
            obtain rfl : y = Value.ref a4 := (Option.some.inj hy).symm
            clear hx hy
            k_steps
            refine Stop.mk ?_
            exact ⟨⟨_, rfl⟩, h3, _, rfl, fun _ _ e => e⟩
          · obtain ⟨tx, rfl⟩ : ∃ t, x = Value.int (k ^ Int.toNat 3) t := ⟨_, (Option.some.inj hx).symm⟩
            obtain rfl : y = Value.ref a5 := (Option.some.inj hy).symm
            clear hx hy
            k_steps
            refine Stop.mk ?_
            exact ⟨⟨_, rfl⟩, h3, _, rfl, fun _ _ e => e⟩
          · simp at hx
        case hQ =>
          intro D4 h4 tk4 vs4 kp4 hD0 hD4 hlen4 hF4
          k_steps
          rename_i kp5
          exact Stop.mk ⟨⟨_, rfl⟩, _, _, rfl, fun c o e => kp5 _ _ (kp4 _ _ e)⟩
      · obtain ⟨tv, rfl⟩ : ∃ t, v = Value.int 1 t := ⟨_, (Option.some.inj hv).symm⟩
        clear hv
        k_steps
        refine Stop.mk ?_
        refine' zip_comp (k := 4) (F := fun i v => ∃ t, v = .int (match i with | 0 => (mn - k) ^ Int.toNat 3 * p0.2 | 1 => 3 * k * (mn - k) ^ Int.toNat 2 * p1.2 | 2 => 3 * k * k * (mn - k) * p2.2 | _ => k ^ Int.toNat 3 * p3.2) t) rfl ?h1 ?h2 ?h3 ?h4 ?h5 ?h6 ?h7 ?h8 ?h9 ?h10 ?h11 ?h12 ?hiter ?helt ?hQ
        case hiter => (intro R hR; k_steps; exact Stop.mk hR)
        case h11 => exact News.isTup N2 (by walk_at "MY_MEM")
        case h12 => exact Fr.lst F2 b1
        case h1 => rfl
        case h2 => rfl
        case h3 => exact Nat.le_of_ble_eq_true rfl
        case h4 => with_unfolding_all rfl
        case h5 => decide
        case h6 => rfl
        case h7 => decide
        case h8 => rfl
        case h9 => rfl
        case h10 => decide
        case helt =>
          intro i x y C3 m3 h3 tk3 E3 hx hy hns3 ma3 mb3 kp3
          have F3 := F2.keeps kp3
          have N3 := N2.grown kp3
          have hX3 := hX2.keeps kp3
          clear F2 N2 hX2
          rcases i with _ | _ | _ | _ | i
          · obtain ⟨tx, rfl⟩ : ∃ t, x = Value.int ((mn - k) ^ Int.toNat 3) t := ⟨_, (Option.some.inj hx).symm⟩
            obtain rfl : y = Value.ref a2 := (Option.some.inj hy).symm
            clear hx hy
            k_steps
            refine Stop.mk ?_
            exact ⟨⟨_, rfl⟩, h3, _, rfl, fun _ _ e => e⟩
          · obtain ⟨tx, rfl⟩ : ∃ t, x = Value.int (3 * k * (mn - k) ^ Int.toNat 2) t := ⟨_, (Option.some.inj hx).symm⟩
            obtain rfl : y = Value.ref a3 := (Option.some.inj hy).symm
            clear hx hy
            k_steps
            refine Stop.mk ?_
            exact ⟨⟨_, rfl⟩, h3, _, rfl, fun _ _ e => e⟩
          · obtain ⟨tx, rfl⟩ : ∃ t, x = Value.int (3 * k * k * (mn - k)) t := ⟨_, (Option.some.inj hx).symm⟩
            obtain rfl : y = Value.ref a4 := (Option.some.inj hy).symm
            clear hx hy
            k_steps
            refine Stop.mk ?_
            exact ⟨⟨_, rfl⟩, h3, _, rfl, fun _ _ e => e⟩
          · obtain ⟨tx, rfl⟩ : ∃ t, x = Value.int (k ^ Int.toNat 3) t := ⟨_, (Option.some.inj hx).symm⟩
            obtain rfl : y = Value.ref a5 := (Option.some.inj hy).symm
            clear hx hy
            k_steps
            refine Stop.mk ?_
            exact ⟨⟨_, rfl⟩, h3, _, rfl, fun _ _ e => e⟩
          · simp at hx
        case hQ =>
          intro D4 h4 tk4 vs4 kp4 hD0 hD4 hlen4 hF4
          k_steps
          rename_i kp5
          exact Stop.mk ⟨⟨_, rfl⟩, _, _, rfl, fun c o e => kp5 _ _ (kp4 _ _ e)⟩
    · intro D6 h6 tk6 vs6 kp6 hD0 hD6 hlen6 hF6
      obtain ⟨u0, u1, rfl⟩ := two_of hlen6
      obtain ⟨t6, rfl⟩ := hF6 0 _ rfl
      obtain ⟨t7, rfl⟩ := hF6 1 _ rfl
      rw [if_pos rfl, if_neg (by decide)] at hD6
      have F6 := F1.keeps kp6
      have N6 := news_add F1 N1 kp6 hD0 hD6
      clear F1 N1 kp6 hD6
      k_steps
      walk_at "MY_END"
end
section
def bentOf (a b c d : Int) : Int := imax (iabs (a - 2 * b + c)) (iabs (b - 2 * c + d))
/-- how far from flat, at most, after so many halvings -/
def farAt (q : Quad) : Nat → Int × Int
  | 0 => (farOf q.1.1 q.2.1.1 q.2.2.1.1 q.2.2.2.1, farOf q.1.2 q.2.1.2 q.2.2.1.2 q.2.2.2.2)
  | j + 1 => (3 * Int.fdiv (bentOf q.1.1 q.2.1.1 q.2.2.1.1 q.2.2.2.1) (4 ^ (j + 1)) + 8, 3 * Int.fdiv (bentOf q.1.2 q.2.1.2 q.2.2.1.2 q.2.2.2.2) (4 ^ (j + 1)) + 8)
def MostOut (q : Quad) (f : Int) : List (Addr × Obj) → List (Addr × Obj) → Value → Prop := fun _ _ r =>
  ∃ (j : Nat) (t : Tok), j ≤ 10 ∧ r = .int (2 ^ j) t ∧ (j = 10 ∨ (farAt q j).1 * (farAt q j).1 + ((farAt q j).2 * (farAt q j).2 + 0) ≤ 16 * f * f)
theorem pow4 {k : Nat} (h : k ≤ 10) : 0 < (4 : Int) ^ k ∧ (4 : Int) ^ k < 1073741824 := by
  have : ∀ k : Fin 11, 0 < (4 : Int) ^ k.1 ∧ (4 : Int) ^ k.1 < 1073741824 := by decide
  exact this ⟨k, by omega⟩
theorem Bd.fdiv {n : Nat} {x y : Int} (h : Bd n x) (hy : 0 < y) : Bd n (Int.fdiv x y) := by
  unfold Bd at *
  rw [Int.fdiv_eq_ediv_of_nonneg _ (by omega)]
  have := Int.natAbs_ediv_le_natAbs x y
  omega
structure WS where
  j : Nat
  a : Nat
  x : Int
  y : Int
  tx : Tok
  ty : Tok
  tj : Tok
  n : Nat
  o : Obj
def WS.led (lB cm : Nat) (oB : Obj) (c : WS) : List (Addr × Obj) := [(c.a, listOf [Value.int c.x c.tx, Value.int c.y c.ty].toArray c.n), (lB, oB), (cm, c.o)]
def WS.facts (cm : Nat) (c : WS) : Prop := c.o.data = .cell (some (.int (c.j : Int) c.tj)) ∧ (@Ne Nat c.a cm)
def WS.good (q : Quad) (c : WS) : Prop := c.j ≤ 10 ∧ farAt q c.j = (c.x, c.y) ∧ Bd 40 c.x ∧ Bd 40 c.y
theorem abs_gen {prog : Program} {w : World} {A : Around} {E : Value → Shared → Prop} {s : Shared} {a : Int} {t : Tok} {n : Nat} {Q : Value → Shared → Prop} (hb : Bd n a) (h : ∀ r u tk, r = iabs a → Bd n r → Q (.int r u) { s with toks := tk }) :
    wpAny (model prog w) A (call (.builtin "abs") [.int a t]) Q E s :=
  call_abs_int fun u tk => h _ u tk rfl ((hb.neg.ite hb).le (by omega))
theorem max_gen {prog : Program} {w : World} {A : Around} {E : Value → Shared → Prop} {s : Shared} {h₀ : Heap} {L : Addr} {m : Str → Option Value} {news : List (Addr × Obj)} {a b : Int} {t u : Tok} {n k : Nat} {Q : Value → Shared → Prop} (hh : A.handled = none) (F : Fr h₀ L s.heap m) (N : News h₀ L s.heap news) (ha : Bd n a) (hb : Bd k b)
    (h : ∀ r v h' tk, r = imax a b → Bd (max k n) r → Fr h₀ L h' m → News h₀ L h' news → Q (.int r v) { s with heap := h', toks := tk }) :
    wpAny (model prog w) A (call (.builtin "max") [.int a t, .int b u]) Q E s :=
  max_two_N hh F N fun h' tk F' N' => h _ _ h' tk rfl (hb.ite ha) F' N'
local macro_rules | `(tactic| walk_at "call builtin:abs") => `(tactic| (k_here; (refine abs_gen (by walk_at "MY_BD") ?_); intro r7 u7 tk7 e7 b7))
local macro_rules | `(tactic| walk_at "call builtin:max") => `(tactic| (k_here; (with_reducible show wpAny _ _ (call (Value.builtin _) [Value.int _ _, Value.int _ _]) _ _ _); (refine max_gen rfl (by with_reducible assumption) (by with_reducible assumption) (by walk_at "MY_BD") (by walk_at "MY_BD") ?_); intro r7 u7 h7 tk7 e7 b7 F7 N7; (try k_sweep)))
local macro_rules | `(tactic| walk_at "eval Name") => `(tactic| (k_here; (with_reducible show wpAny _ _ (eval (Expr.Name _ _) (compEnvC _ _ _ _)) _ _ _); k_dflt (walk_at "MY_BLOCKNAME")))
local macro_rules | `(tactic| walk_at "call builtin:sum") => `(tactic| k_dflt (refine sum_genN rfl (by with_reducible assumption) (by with_reducible assumption) (by assumption) (by assumption) ?_; intro h5 tk5 t5 F5 N5))
local macro_rules | `(tactic| walk_at "binaryOp Pow int int") => `(tactic| (refine pow_int_small (by omega) (by omega) (by decide) ?_))
local macro_rules | `(tactic| walk_at "binaryOp FloorDiv int int") => `(tactic| (refine floordiv_int (by omega) ?_ (Or.inl (noPylong_small (by omega)))))
local macro_rules | `(tactic| walk_at "KswEnd") => `(tactic| (refine stop_here ?_))
local macro_rules | `(tactic| walk_at "exec Assign cons ListComp") => `(tactic| ((with_reducible show wpAny _ _ (exec (Stmt.Assign [Expr.Name _ _] _ _) _) _ _ _); refine stop_here ?_))
local macro_rules | `(tactic| walk_at "eval ListComp") => `(tactic| (refine stop_here ?_))
local macro_rules | `(tactic| walk_at "exec While BoolOp") => `(tactic| (refine stop_here ?_))
set_option maxRecDepth 100000 in
set_option maxHeartbeats 2000000 in
theorem most_con (p0 p1 p2 p3 : Pt) (flat : Int) (h0 : PB 10000 p0) (h1 : PB 10000 p1) (h2 : PB 10000 p2) (h3 : PB 10000 p3) (hf : 0 ≤ flat ∧ flat ≤ 100) :
    Con 265 12 [.list [ptD p0, ptD p1, ptD p2, ptD p3], .int flat] (MostOut (p0, p1, p2, p3) flat) := by
  unfold Con
  k_fill
  intro w mean mg mb dp un gd cn cs a ccd cl outer A₀ base h₀ L m olds s vs Q E B F X T hk hH hD hroom hunits hret
  obtain ⟨v1, v2, rfl, hd1, hd2⟩ := all2 hD
  obtain ⟨t0, rfl⟩ := int_of hd2
  obtain ⟨al, vs, nl, rfl, ml, hd⟩ := list_of hd1
  obtain ⟨v1, v2, v3, v4, rfl, hd4, hd5, hd6, hd7⟩ := all4 hd
  obtain ⟨a2, n2, t1, t2, rfl, m2⟩ := pt_of hd4
  obtain ⟨a3, n3, t3, t4, rfl, m3⟩ := pt_of hd5
  obtain ⟨a4, n4, t5, t6, rfl, m4⟩ := pt_of hd6
  obtain ⟨a5, n5, t7, t8, rfl, m5⟩ := pt_of hd7
  clear hD hd1 hd2 hd hd4 hd5 hd6 hd7
  have bf : Bd 7 flat := Bd.of (by omega)
  have z1 : Bd 14 p0.1 := Bd.of (by unfold PB at h0; omega)
  have z2 : Bd 14 p0.2 := Bd.of (by unfold PB at h0; omega)
  have z3 : Bd 14 p1.1 := Bd.of (by unfold PB at h1; omega)
  have z4 : Bd 14 p1.2 := Bd.of (by unfold PB at h1; omega)
  have z5 : Bd 14 p2.1 := Bd.of (by unfold PB at h2; omega)
  have z6 : Bd 14 p2.2 := Bd.of (by unfold PB at h2; omega)
  have z7 : Bd 14 p3.1 := Bd.of (by unfold PB at h3; omega)
  have z8 : Bd 14 p3.2 := Bd.of (by unfold PB at h3; omega)
  have b1 := hH.list ml
  have b2 := hH.tup m2
  have b3 := hH.tup m3
  have b4 := hH.tup m4
  have b5 := hH.tup m5
  k_dflt (refine' enterCC3 [(Str.ofString "points", .ref al), (Str.ofString "flat", .int flat t0)] (fun y => if y = Str.ofString "flat" then some (.int flat t0) else if y = Str.ofString "points" then some (.ref al) else none) (fun _ => none) ?k1 ?k2 ?k3 ?k5 ?kK ?k6 ?k7 ?k8 ?k9 ?kB ?kD ?kM ?kC ?_ ?c2 ?c3 ?c4; walk_at "MY_ENTER3")
  k_steps
  refine Stop.mk ?_
  rename_i LL _ _ BB XX TT _ _ _ _ lF _ lf1 lB _ lf2 D1 _ _ _ _ _ _ D2 _ _ i9 _ _ _ _ _ _ _ _ oA FA NA dA
  refine comp_plain (k := 4) (F := fun i v _ => ∃ t, v = .int (match i with | 0 => p0.1 | 1 => p1.1 | 2 => p2.1 | _ => p3.1) t) (Nat.le_of_ble_eq_true rfl) (by with_unfolding_all rfl) (by decide) (by rfl) (by decide) (by rfl) ?_
  k_steps
  refine Stop.mk ?_
  refine ⟨_, _, rfl, CSrc.list rfl (Fr.lst FA b1) rfl, ?_, ?_⟩
  · intro i v C2 m2' h2 tk2 E2 hik hP hns hm kp2
    have F2 := FA.keeps kp2
    have hX2 := cell_keeps (cell_of NA (o := oA) (by walk_at "MY_MEM") dA) kp2
    clear FA NA
    rcases i with _ | _ | _ | _ | i
    · obtain rfl : v = Value.ref a2 := (Option.some.inj hP).symm
      clear hP
      k_steps
      refine Stop.mk ?_
      exact ⟨[], _, _, rfl, fun _ _ e => e, fun p hp => (nomatch hp), _, rfl⟩
    · obtain rfl : v = Value.ref a3 := (Option.some.inj hP).symm
      clear hP
      k_steps
      refine Stop.mk ?_
      exact ⟨[], _, _, rfl, fun _ _ e => e, fun p hp => (nomatch hp), _, rfl⟩
    · obtain rfl : v = Value.ref a4 := (Option.some.inj hP).symm
      clear hP
      k_steps
      refine Stop.mk ?_
      exact ⟨[], _, _, rfl, fun _ _ e => e, fun p hp => (nomatch hp), _, rfl⟩
    · obtain rfl : v = Value.ref a5 := (Option.some.inj hP).symm
      clear hP
      k_steps
      refine Stop.mk ?_
      exact ⟨[], _, _, rfl, fun _ _ e => e, fun p hp => (nomatch hp), _, rfl⟩
    · omega
  · intro D6 h6 tk6 vs6 kp6 hD0 hD6 hlen6 hF6
    obtain ⟨u0, u1, u2, u3, rfl⟩ := four_of hlen6
    obtain ⟨t60, rfl⟩ := ints_of hF6 0 _ rfl
    obtain ⟨t61, rfl⟩ := ints_of hF6 1 _ rfl
    obtain ⟨t62, rfl⟩ := ints_of hF6 2 _ rfl
    obtain ⟨t63, rfl⟩ := ints_of hF6 3 _ rfl
    have F6 := FA.keeps kp6
    have N6 := news_add FA NA kp6 hD0 (o := listOf [Value.int p0.1 t60, Value.int p1.1 t61, Value.int p2.1 t62, Value.int p3.1 t63].toArray 4) hD6
    have l6 := allNe_new NA hD0
    simp only [AllNe, and_true] at l6
    clear FA NA hD6 hF6 hlen6
    k_steps
    refine Stop.mk ?_
    rename_i r1 _ _ e1 _ r2 _ _ e2 _ x1 ux1 _ _ ex1 bx1 _ _ r3 _ _ e3 _ r4 _ _ e4 _ y1 uy1 _ _ ey1 by1 _ _ _ _ _ _ _ _ _ oA FA NA dA
    refine comp_plain (k := 4) (F := fun i v _ => ∃ t, v = .int (match i with | 0 => p0.2 | 1 => p1.2 | 2 => p2.2 | _ => p3.2) t) (Nat.le_of_ble_eq_true rfl) (by with_unfolding_all rfl) (by decide) (by rfl) (by decide) (by rfl) ?_
    k_steps
    refine Stop.mk ?_
    refine ⟨_, _, rfl, CSrc.list rfl (Fr.lst FA b1) rfl, ?_, ?_⟩
    · intro i v C2 m2' h2 tk2 E2 hik hP hns hm kp2
      have F2 := FA.keeps kp2
      have hX2 := cell_keeps (cell_of NA (o := oA) (by walk_at "MY_MEM") dA) kp2
      clear FA NA
      rcases i with _ | _ | _ | _ | i
      · obtain rfl : v = Value.ref a2 := (Option.some.inj hP).symm
        clear hP
        k_steps
        refine Stop.mk ?_
        exact ⟨[], _, _, rfl, fun _ _ e => e, fun p hp => (nomatch hp), _, rfl⟩
      · obtain rfl : v = Value.ref a3 := (Option.some.inj hP).symm
        clear hP
        k_steps
        refine Stop.mk ?_
        exact ⟨[], _, _, rfl, fun _ _ e => e, fun p hp => (nomatch hp), _, rfl⟩
      · obtain rfl : v = Value.ref a4 := (Option.some.inj hP).symm
        clear hP
        k_steps
        refine Stop.mk ?_
        exact ⟨[], _, _, rfl, fun _ _ e => e, fun p hp => (nomatch hp), _, rfl⟩
      · obtain rfl : v = Value.ref a5 := (Option.some.inj hP).symm
        clear hP
        k_steps
        refine Stop.mk ?_
        exact ⟨[], _, _, rfl, fun _ _ e => e, fun p hp => (nomatch hp), _, rfl⟩
      · omega
    · intro D6 h6 tk6 vs6 kp6 hD0 hD6 hlen6 hF6
      obtain ⟨u0, u1, u2, u3, rfl⟩ := four_of hlen6
      obtain ⟨t60, rfl⟩ := ints_of hF6 0 _ rfl
      obtain ⟨t61, rfl⟩ := ints_of hF6 1 _ rfl
      obtain ⟨t62, rfl⟩ := ints_of hF6 2 _ rfl
      obtain ⟨t63, rfl⟩ := ints_of hF6 3 _ rfl
      have F6 := FA.keeps kp6
      have N6 := news_add FA NA kp6 hD0 (o := listOf [Value.int p0.2 t60, Value.int p1.2 t61, Value.int p2.2 t62, Value.int p3.2 t63].toArray 4) hD6
      have l6 := allNe_new NA hD0
      simp only [AllNe, and_true] at l6
      clear FA NA hD6 hF6 hlen6
      k_steps
      refine Stop.mk ?_
      rename_i r5 _ _ e5 _ r6 _ _ e6 _ x2 ux2 _ _ ex2 bx2 _ _ r7 _ _ e7 _ r8 _ _ e8 _ y2 uy2 _ _ ey2 by2 _ _ _ _ _ _ oM FM NM dM
      have hx1 : farOf p0.1 p1.1 p2.1 p3.1 = x1 := by rw [ex1, e1, e2]; rfl
      have hx2 : farOf p0.2 p1.2 p2.2 p3.2 = x2 := by rw [ex2, e5, e6]; rfl
      have hy1 : bentOf p0.1 p1.1 p2.1 p3.1 = y1 := by rw [ey1, e3, e4]; rfl
      have hy2 : bentOf p0.2 p1.2 p2.2 p3.2 = y2 := by rw [ey2, e7, e8]; rfl
      have bx1' : Bd 40 x1 := bx1.le (by decide)
      have bx2' : Bd 40 x2 := bx2.le (by decide)
      have by1' : Bd 40 y1 := by1.le (by decide)
      have by1'' : Bd 34 y1 := by1.le (by decide)
      have by2'' : Bd 34 y2 := by2.le (by decide)
      have by2' : Bd 40 y2 := by2.le (by decide)
      have hlF : @LT.lt Nat _ (LL + 1 + 1) lF := lf1.1
      have hlB : @LT.lt Nat _ (LL + 1 + 1) lB := lf2.2.1
      refine ksw_while (σ := WS) (WS.led lB (LL + 1 + 1) (listOf [Value.int y1 uy1, Value.int y2 uy2].toArray 2)) (fun c => [(Str.ofString "far", .ref c.a)]) (WS.facts (LL + 1 + 1)) [] (WS.good (p0, p1, p2, p3)) (fun c => 10 - c.j) ⟨0, lF, x1, x2, ux1, ux2, _, 2, oM⟩ FM ?_ ⟨dM, Nat.ne_of_gt hlF⟩ ?_ ⟨Nat.zero_le _, ?_, bx1', bx2'⟩ ?_
      · intro p hp
        refine NM p ?_
        simp only [WS.led, List.mem_cons, List.not_mem_nil, or_false] at hp
        rcases hp with rfl | rfl | rfl
        · walk_at "MY_MEM"
        · walk_at "MY_MEM"
        · walk_at "MY_MEM"
      · intro p hp
        rw [List.mem_singleton.mp hp]
        rfl
      · show (farOf _ _ _ _, farOf _ _ _ _) = _
        rw [hx1, hx2]
      · clear FM NM dM bx1 bx2 by1 by2 e1 e2 e3 e4 e5 e6 e7 e8 ex1 ex2 ey1 ey2 dA l6 hD0 kp6 lf1 lf2
        rintro ⟨j, aF, x, y, tx, ty, tj, nF, oN⟩ u hh tk9 ⟨k1, k2⟩ ⟨g1, g2, g3, g4⟩ kF kN
        dsimp only [WS.led] at k1 k2 g1 g2 g3 g4 kF kN
        (try k_fold)
        k_steps
        · refine Stop.mk ?_
          rename_i hj10
          refine comp_plain (k := 2) (F := fun i v _ => ∃ t, v = .int (match i with | 0 => x * x | _ => y * y) t) (Nat.le_of_ble_eq_true rfl) (by with_unfolding_all rfl) (by decide) (by rfl) (by decide) (by rfl) ?_
          k_steps
          refine Stop.mk ?_
          refine ⟨_, _, rfl, CSrc.list rfl (News.isList kN (by walk_at "MY_MEM")) rfl, ?_, ?_⟩
          · intro i v C2 m2' h2 tk2 E2 hik hP hns hm kp2
            clear kF kN
            rcases i with _ | _ | i
            · obtain rfl : v = Value.int x tx := (Option.some.inj hP).symm
              clear hP
              k_steps
              refine Stop.mk ?_
              exact ⟨[], _, _, rfl, fun _ _ e => e, fun p hp => (nomatch hp), _, rfl⟩
            · obtain rfl : v = Value.int y ty := (Option.some.inj hP).symm
              clear hP
              k_steps
              refine Stop.mk ?_
              exact ⟨[], _, _, rfl, fun _ _ e => e, fun p hp => (nomatch hp), _, rfl⟩
            · omega
          · intro D6 h6 tk6 vs6 kp6 hD0 hD6 hlen6 hF6
            obtain ⟨u0, u1, rfl⟩ := two_of hlen6
            obtain ⟨t60, rfl⟩ := ints_of hF6 0 _ rfl
            obtain ⟨t61, rfl⟩ := ints_of hF6 1 _ rfl
            have F6 := kF.keeps kp6
            have N6 := kN.grown kp6
            have hl6 : h6.IsList D6 [Value.int (x * x) t60, Value.int (y * y) t61].toArray := ⟨_, hD6, rfl, _, rfl⟩
            have hi6 : IntsAre [Value.int (x * x) t60, Value.int (y * y) t61] [x * x, y * y] := .cons _ _ (.cons _ _ .nil)
            clear kF kN hD6 hF6 hlen6 kp6 hD0
            have hp4 := pow4 (k := j + 1) (by omega)
            have hp5 := hp4.1
            rw [show (4 : Int) ^ (j + 1) = 4 ^ ((j : Int) + 1).toNat from rfl] at hp4
            k_steps
            · refine Stop.mk ?_
              rename_i hgt oM' FA NA dA'
              refine assign_plain (k := 2) (F := fun i v _ => ∃ t, v = .int (match i with | 0 => 3 * Int.fdiv y1 (4 ^ (j + 1)) + 8 | _ => 3 * Int.fdiv y2 (4 ^ (j + 1)) + 8) t) (Nat.le_of_ble_eq_true rfl) (by with_unfolding_all rfl) (by rfl) (by rfl) (by with_unfolding_all rfl) (by decide) (by rfl) (by decide) (by rfl) ?_
              k_steps
              refine Stop.mk ?_
              refine ⟨_, _, rfl, CSrc.list rfl (News.isList NA (by walk_at "MY_MEM")) rfl, ?_, _, _, _, FA, NA, ?_⟩
              · intro i v C2 m2' h2 tk2 E2 hik hP hns hm kp2
                have hX2 := cell_keeps (cell_of NA (o := oM') (by walk_at "MY_MEM") dA') kp2
                clear FA NA
                rcases i with _ | _ | i
                · obtain rfl : v = Value.int y1 uy1 := (Option.some.inj hP).symm
                  clear hP
                  k_steps
                  refine Stop.mk ?_
                  exact ⟨[], _, _, rfl, fun _ _ e => e, fun p hp => (nomatch hp), _, rfl⟩
                · obtain rfl : v = Value.int y2 uy2 := (Option.some.inj hP).symm
                  clear hP
                  k_steps
                  refine Stop.mk ?_
                  exact ⟨[], _, _, rfl, fun _ _ e => e, fun p hp => (nomatch hp), _, rfl⟩
                · omega
              · intro D7 h7 tk7 vs7 F7 N7 l7 hlen7 hF7
                obtain ⟨u0, u1, rfl⟩ := two_of hlen7
                obtain ⟨t70, rfl⟩ := ints_ofN hF7 0 _ rfl
                obtain ⟨t71, rfl⟩ := ints_ofN hF7 1 _ rfl
                simp only [AllNe, and_true] at l7
                clear FA NA hF7 hlen7
                k_steps
                refine Stop.mk ?_
                refine ksw_end ⟨j + 1, D7, 3 * Int.fdiv y1 (4 ^ (j + 1)) + 8, 3 * Int.fdiv y2 (4 ^ (j + 1)) + 8, t70, t71, _, 2, oM'⟩ F7 N7 ?_ ⟨dA', Ne.symm l7.2.2⟩ ?_ ?_ ⟨(show j + 1 ≤ 10 by omega), ?_, ?_, ?_⟩ ?_
                · intro p hp
                  simp only [WS.led, List.mem_cons, List.not_mem_nil, or_false] at hp
                  rcases hp with rfl | rfl | rfl
                  · walk_at "MY_MEM"
                  · walk_at "MY_MEM"
                  · walk_at "MY_MEM"
                · intro p hp
                  rw [List.mem_singleton.mp hp]
                  rfl
                · intro z h2 h3
                  have hz : z ≠ Str.ofString "far" := h2 _ (List.mem_singleton.mpr rfl)
                  simp [kstB, hz]
                · show (3 * Int.fdiv (bentOf _ _ _ _) _ + 8, 3 * Int.fdiv (bentOf _ _ _ _) _ + 8) = _
                  rw [hy1, hy2]
                · exact (((Bd.of (n := 2) (by decide)).mul (by1''.fdiv hp5)).add (Bd.of (n := 4) (by decide))).le (by decide)
                · exact (((Bd.of (n := 2) (by decide)).mul (by2''.fdiv hp5)).add (Bd.of (n := 4) (by decide))).le (by decide)
                · show 10 - (j + 1) < 10 - j
                  omega
            · rename_i hle
              (try dsimp only); (try k_unfold); (try dsimp only)
              refine con_end hret (by assumption) (by assumption) ⟨j, _, g1, rfl, .inr ?_⟩
              rw [g2]
              exact Int.not_lt.mp hle
        · rename_i hj10
          have hj11 : j = 10 := Nat.le_antisymm g1 (Int.ofNat_le.mp (Int.not_lt.mp hj10))
          clear hj10
          (try dsimp only); (try k_unfold); (try dsimp only)
          refine con_end hret (by assumption) (by assumption) ⟨j, _, g1, rfl, .inl hj11⟩
end
section
def TurnEnd {σ : Type} (h₀ : Heap) (L : Addr) (s : Shared) (Led : σ → List (Addr × Obj)) (ps : σ → List (Str × Value)) (stored : List Str) (m₀ : Str → Option Value) (P : σ → Prop) (I : Addr) (oI : Obj) (s₂ : Shared) : Prop :=
  ∃ (c' : σ) (h' : Heap) (tk : Nat) (m' : Str → Option Value) (news' : List (Addr × Obj)), s₂ = { s with heap := h', toks := tk } ∧ Fr h₀ L h' m' ∧ News h₀ L h' news' ∧ (I, oI) ∈ news' ∧ (∀ p ∈ Led c', p ∈ news') ∧ (∀ p ∈ ps c', m' p.1 = some p.2) ∧ (∀ z, (∀ p ∈ ps c', z ≠ p.1) → stored.contains z = false → m' z = m₀ z) ∧ P c'
structure TurnPost {σ : Type} (h₀ : Heap) (L : Addr) (s : Shared) (Led : σ → List (Addr × Obj)) (ps : σ → List (Str × Value)) (stored : List Str) (m₀ : Str → Option Value) (P : σ → Prop) (I : Addr) (oI : Obj) (Q : Flow → Shared → Prop) (f : Flow) (s₂ : Shared) : Prop where
  run : match f with
    | .ret v => Q (.ret v) s₂
    | .brk => Q .next s₂
    | _ => TurnEnd h₀ L s Led ps stored m₀ P I oI s₂
section
variable {σ : Type} {h₀ : Heap} {L : Addr} {s : Shared} {Led : σ → List (Addr × Obj)} {ps : σ → List (Str × Value)} {stored : List Str} {m₀ : Str → Option Value} {P : σ → Prop} {I : Addr} {oI : Obj} {Q : Flow → Shared → Prop} {s₂ : Shared}
theorem TurnPost.next (h : Stop (TurnEnd h₀ L s Led ps stored m₀ P I oI s₂)) : TurnPost h₀ L s Led ps stored m₀ P I oI Q .next s₂ := ⟨h.run⟩
theorem TurnPost.cont (h : Stop (TurnEnd h₀ L s Led ps stored m₀ P I oI s₂)) : TurnPost h₀ L s Led ps stored m₀ P I oI Q .cont s₂ := ⟨h.run⟩
theorem TurnPost.ret {v : Value} (h : Q (.ret v) s₂) : TurnPost h₀ L s Led ps stored m₀ P I oI Q (.ret v) s₂ := ⟨h⟩
theorem turn_end {h' : Heap} {tk : Nat} {m' : Str → Option Value} {news' : List (Addr × Obj)} (c' : σ) (F : Fr h₀ L h' m') (N : News h₀ L h' news') (hI : (I, oI) ∈ news') (hn : ∀ p ∈ Led c', p ∈ news') (hk : ∀ p ∈ ps c', m' p.1 = some p.2)
    (hr : ∀ z, (∀ p ∈ ps c', z ≠ p.1) → stored.contains z = false → m' z = m₀ z) (hp : P c') : TurnEnd h₀ L s Led ps stored m₀ P I oI { s with heap := h', toks := tk } := ⟨c', h', tk, m', news', rfl, F, N, hI, hn, hk, hr, hp⟩
end
section
variable {prog : Program} {w : World} {A : Around} {E : Value → Shared → Prop} {s : Shared} {env : Env} {h₀ : Heap} {target : Expr} {body : List Stmt} {Q : Flow → Shared → Prop}
/-- a for over a list that the turns leave as it is -/
theorem turn_list {σ : Type} {l : Addr} {vs : List Value} {nn : Nat} {m₀ : Str → Option Value} (Led : σ → List (Addr × Obj)) (ps : σ → List (Str × Value)) (stored : List Str) (P : Nat → σ → Prop) (c₀ : σ)
    (hh : A.handled = none) (hl : s.heap.get? l = some (listOf vs.toArray nn)) (hlL : l ≠ env.locals) (F : Fr h₀ env.locals s.heap m₀) (N : News h₀ env.locals s.heap (Led c₀)) (hk : ∀ p ∈ ps c₀, m₀ p.1 = some p.2) (hp : P 0 c₀)
    (hit : ∀ i c, P i c → ∀ p ∈ Led c, p.2.cls ≠ .type "list_iterator" ∨ (@Ne Nat p.1 s.heap.objs.size))
    (hst : ∀ i c h m, P i c → Fr h₀ env.locals h m → News h₀ env.locals h (Led c) → h.get? l = some (listOf vs.toArray nn))
    (turn : ∀ i v (c : σ) (u : Str → Option Value) h tk I oI, vs[i]? = some v → P i c → oI.cls = .type "list_iterator" → Fr h₀ env.locals h (kstB (fun z => if stored.contains z then u z else m₀ z) (ps c)) → News h₀ env.locals h ((I, oI) :: Led c) →
      wpAny (model prog w) A (assign target env v) (fun _ s₃ => wpAny (model prog w) A (execs body env) (TurnPost h₀ env.locals { s with heap := h, toks := tk } Led ps stored m₀ (P (i + 1)) I oI Q) E s₃) E { s with heap := h, toks := tk })
    (done : ∀ (c : σ) (u : Str → Option Value) h tk, P vs.length c → Fr h₀ env.locals h (kstB (fun z => if stored.contains z then u z else m₀ z) (ps c)) → News h₀ env.locals h (Led c) → Q .next { s with heap := h, toks := tk }) :
    wpAny (model prog w) A (pyIter (.ref l)) (fun it s₂ => TurnsAt prog w A h₀ env target body Q E it s₂) E s := by
  have hls : s.heap.IsList l vs.toArray := ⟨_, hl, rfl, nn, rfl⟩
  have hlt : @LT.lt Nat _ l s.heap.objs.size := Heap.lt_size hl
  have hne : (@Ne Nat l s.heap.objs.size) := Nat.ne_of_lt hlt
  refine wpAny_pyIter_list hls ?_
  have W := Walks.list (prog := prog) (w := w) hh s.heap.objs.size l hne vs.toArray
  have hlen : vs.toArray.size = vs.length := by simp
  rw [hlen] at W
  refine ⟨s.heap.objs.size, _, _, vs.length, _, _, _, m₀, Led c₀, (fun i m nx => ∃ c, nx = Led c ∧ (∀ p ∈ ps c, m p.1 = some p.2) ∧ (∀ z, (∀ p ∈ ps c, z ≠ p.1) → stored.contains z = false → m z = m₀ z) ∧ P i c), rfl,
    KTurns.ofWalks W (fun i v s Q E st hQ => letGo_listiter st.1 hQ), ?_, ?_, ?_, ⟨⟨_, Heap.get?_push_size _ rfl, rfl, rfl⟩, hls.at fun o e => Heap.get?_push_of_some _ e⟩, F.push _, (fun p hp => ⟨Heap.get?_push_of_some _ (N p hp).1, (N p hp).2⟩), ⟨c₀, rfl, hk, fun _ _ _ => rfl, hp⟩, ?_, ?_⟩
  · intro hm
    rcases List.mem_cons.mp hm with e | hm
    · exact absurd F.ns.lt (e ▸ Nat.lt_irrefl _)
    · exact hlL (List.mem_singleton.mp hm).symm
  · intro b hb
    rw [List.mem_singleton.mp hb]
    exact next_is_new F
  · intro p hp hI
    exact absurd (Heap.lt_size (N p hp).1) ((List.mem_singleton.mp hI) ▸ Nat.lt_irrefl _)
  · rintro i v m₁ nx h tk own hin hP ⟨c, rfl, h1, h2, hp'⟩ hoff hown hget hfp hstt F₁ N₁
    have hP' : vs[i]? = some v := by simpa using hP
    have hI0 : h₀.get? s.heap.objs.size = none := next_is_new F
    obtain ⟨⟨oI, hoI, hcI, _⟩, _⟩ := id hstt
    have hIown : (s.heap.objs.size, oI) ∈ own := hfp _ (List.mem_cons.mpr (.inl rfl)) hI0 _ hoI
    have Nc : News h₀ env.locals h (Led c) := fun p hp => N₁ p (List.mem_append_right _ hp)
    have hlh : h.get? l = some (listOf vs.toArray nn) := hst i c h m₁ hp' F₁ Nc
    have N₂ : News h₀ env.locals h ((s.heap.objs.size, oI) :: Led c) := fun p hp => (List.mem_cons.mp hp).elim (fun e => e ▸ N₁ _ (List.mem_append_left _ hIown)) (Nc p)
    refine wpAny_mono (turn i v c m₁ h tk s.heap.objs.size oI hP' hp' hcI (ksw_fr h1 h2 F₁) N₂) (fun _ s₃ h₃ => wpAny_mono h₃ (fun f s₄ p => ?_) fun _ _ e => e) fun _ _ e => e
    have fin : TurnEnd h₀ env.locals { s with heap := h, toks := tk } Led ps stored m₀ (P (i + 1)) s.heap.objs.size oI s₄ →
        LoopStepU h₀ env.locals [s.heap.objs.size] own (fun m nx => ∃ c, nx = Led c ∧ (∀ p ∈ ps c, m p.1 = some p.2) ∧ (∀ z, (∀ p ∈ ps c, z ≠ p.1) → stored.contains z = false → m z = m₀ z) ∧ P (i + 1) c) { s with heap := h, toks := tk } .next s₄ := by
      rintro ⟨c', h', tk', m', news', e, F', N', hI', hn, hk', hr, hP2⟩
      have Nc' : News h₀ env.locals h' (Led c') := fun p hp => N' p (hn p hp)
      have hIh : h'.get? s.heap.objs.size = some oI := (N' _ hI').1
      refine ⟨rfl, h', tk', m', Led c', e, F', fun p hp => ?_, fun p hp hq => ?_, c', rfl, hk', hr, hP2⟩
      · rcases List.mem_append.mp hp with hp | hp
        · rcases List.mem_cons.mp (hown p hp) with h5 | h5
          · have h6 := hget p hp
            rw [h5, hoI] at h6
            have h7 : p = (s.heap.objs.size, oI) := Prod.ext h5 (Option.some.inj h6).symm
            rw [h7]
            exact N' _ hI'
          · have h5 := List.mem_singleton.mp h5
            have h6 := hget p hp
            rw [h5, hlh] at h6
            have h7 : p = (l, listOf vs.toArray nn) := Prod.ext h5 (Option.some.inj h6).symm
            refine ⟨?_, (N₁ p (List.mem_append_left _ hp)).2⟩
            rw [h7]
            exact hst (i + 1) c' h' m' hP2 F' Nc'
        · exact Nc' p hp
      · have h5 := (Nc' p hp).1
        rcases hit (i + 1) c' hP2 p hp with h6 | h6
        · rw [List.mem_singleton.mp hq, hIh] at h5
          exact h6 ((Option.some.inj h5) ▸ hcI)
        · exact h6 (List.mem_singleton.mp hq)
    cases f with
    | ret v => exact .ret p.run
    | brk => exact .brk p.run
    | next => exact .next (fin p.run)
    | cont => exact .cont (fin p.run)
  · rintro h' tk m' news' F' N' _ ⟨c, rfl, h1, h2, hp'⟩
    exact done c m' h' tk hp' (ksw_fr h1 h2 F') N'
end
/-- tuples and lists alone -/
def Seqs (tl : List (Addr × Obj)) : List (Addr × Obj) := tl.filter fun p => match p.2.cls with | .type "tuple" => true | .type "list" => true | _ => false
theorem seqs_sub {tl : List (Addr × Obj)} : ∀ p ∈ Seqs tl, p ∈ tl := fun _ hp => (List.mem_filter.mp hp).1
theorem seqs_cls {tl : List (Addr × Obj)} : ∀ p ∈ Seqs tl, p.2.cls ≠ .type "list_iterator" := fun p hp e => by
  have h := (List.mem_filter.mp hp).2
  rw [e] at h
  simp at h
theorem seqs_app {a b : List (Addr × Obj)} : Seqs (a ++ b) = Seqs a ++ Seqs b := List.filter_append ..
mutual
theorem DatIn.seqs {tl : List (Addr × Obj)} : ∀ {v : Value} {d : Dat}, DatIn tl v d → DatIn (Seqs tl) v d
  | _, _, .none => .none
  | _, _, .bool b => .bool b
  | _, _, .int i t => .int i t
  | _, _, .str x t => .str x t
  | _, _, .bytes b t => .bytes b t
  | _, _, .tuple h r => .tuple (List.mem_filter.mpr ⟨h, rfl⟩) (DatAll.seqs r)
  | _, _, .list h r => .list (List.mem_filter.mpr ⟨h, rfl⟩) (DatAll.seqs r)
theorem DatAll.seqs {tl : List (Addr × Obj)} : ∀ {vs : List Value} {ds : List Dat}, DatAll tl vs ds → DatAll (Seqs tl) vs ds
  | _, _, .nil => .nil
  | _, _, .cons h r => .cons (DatIn.seqs h) (DatAll.seqs r)
end
theorem DatIn.seqsL {tl big : List (Addr × Obj)} {v : Value} {d : Dat} (h : DatIn (tl ++ big) v d) : DatIn (Seqs tl ++ big) v d :=
  (DatIn.seqs h).mono fun q hq => by
    rw [seqs_app] at hq
    exact (List.mem_append.mp hq).elim (fun h => List.mem_append.mpr (.inl h)) fun h => List.mem_append.mpr (.inr (seqs_sub _ h))
theorem ne_locals {h₀ h : Heap} {L a : Addr} {m : Str → Option Value} {x : Array Value} {n : Nat} (F : Fr h₀ L h m) (e : h.get? a = some (listOf x n)) : a ≠ L := fun e2 => by
  obtain ⟨o, es, ep, ho, hd, _⟩ := F.ns
  rw [← e2, e] at ho
  rw [← Option.some.inj ho] at hd
  cases hd
/-- a contract in one world -/
def ConW (w : World) (f : Addr) (lv : Nat) (ins : List Dat) (Out : List (Addr × Obj) → List (Addr × Obj) → Value → Prop) : Prop :=
  ∀ (mean : ExcName → Option Value) (mg mb : Str → Option Value) (dp un : Nat) (gd : Option (List Code)) (cn : Str) (cs : Scope) (a : Addr) (ccd : Value) (cl : List (Str × Addr)) (outer : List Env) (A₀ : Around) (base h₀ : Heap) (L : Addr) (m : Str → Option Value) (olds : List (Addr × Obj)) (s : Shared) (vs : List Value) (Q E : Value → Shared → Prop),
    Below A₀ base outer h₀ → Fr h₀ L s.heap m → (Mine.hd.heap_39 w.params).In h₀ → Top Mine.hd.view_39 loose0 mean mg mb h₀ → cs.kind = .function → Has s.heap olds → DatAll olds vs ins → dp + lv < recursionLimit → un + 8 * lv < cLine →
    (∀ r tl h' tk', (∀ b o, s.heap.get? b = some o → h'.get? b = some o) → (∀ p ∈ tl, h'.get? p.1 = some p.2 ∧ s.heap.get? p.1 = none) → Out tl olds r → Q r { s with heap := h', toks := tk' }) →
    wpAny (model PySem.Challenge.rw_nt0495_01.row.prog w) (ktrTop dp un gd cn cs L a ccd cl outer) (call (.ref f) vs) Q E s
theorem conW_useG {w : World} {f : Addr} {lv : Nat} {ins : List Dat} {Out : List (Addr × Obj) → List (Addr × Obj) → Value → Prop} (C : ConW w f lv ins Out) {big : List (Addr × Obj)}
    {mean : ExcName → Option Value} {mg mb : Str → Option Value} {dp un : Nat} {gd : Option (List Code)} {cn : Str} {cs : Scope} {a : Addr} {ccd : Value} {cl : List (Str × Addr)} {outer : List Env} {A₀ : Around} {base h₀ : Heap} {L : Addr} {m : Str → Option Value} {news : List (Addr × Obj)} {s : Shared} {vs : List Value} {Q E : Value → Shared → Prop}
    (B : Below A₀ base outer h₀) (F : Fr h₀ L s.heap m) (X : (Mine.hd.heap_39 w.params).In h₀) (N : News h₀ L s.heap news) (T : Top Mine.hd.view_39 loose0 mean mg mb h₀) (hk : cs.kind = .function) (hb : Has s.heap big) (D : DatAll big vs ins) (hd : dp + lv < recursionLimit) (hu : un + 8 * lv < cLine)
    (ret : ∀ r tl h' tk', Fr h₀ L h' m → News h₀ L h' (tl ++ news) → (∀ q ∈ news, ∀ p ∈ tl, p.1 ≠ q.1) → Out tl big r → Q r { s with heap := h', toks := tk' }) :
    wpAny (model PySem.Challenge.rw_nt0495_01.row.prog w) (ktrTop dp un gd cn cs L a ccd cl outer) (call (.ref f) vs) Q E s := by
  refine C mean mg mb dp un gd cn cs a ccd cl outer A₀ base h₀ L m big s vs Q E B F X T hk hb D hd hu fun r tl h' tk' hkeep htl ho => ?_
  refine ret r tl h' tk' (F.keeps hkeep) (news_tl F N hkeep htl) (fun q hq p hp e => ?_) ho
  have h1 := (htl p hp).2
  have h2 := (N q hq).1
  rw [e, h2] at h1
  exact nomatch h1
end
section
inductive Row where
  | m (p : Pt)
  | l (p : Pt)
  | c (p q r : Pt)
  | z
def rowD : Row → Dat
  | .m p => .tuple [.str (Str.ofString "m"), .int p.1, .int p.2]
  | .l p => .tuple [.str (Str.ofString "l"), .int p.1, .int p.2]
  | .c p q r => .tuple [.str (Str.ofString "c"), .int p.1, .int p.2, .int q.1, .int q.2, .int r.1, .int r.2]
  | .z => .tuple [.str (Str.ofString "z")]
/-- what stands for the rows once they are flat -/
def flatFrom (f : Int) : Option Pt → List Row → List Row
  | _, [] => []
  | _, .m p :: t => .m p :: flatFrom f (some p) t
  | _, .l p :: t => .l p :: flatFrom f (some p) t
  | h, .c p q r :: t => (ends f 10 (h.getD (0, 0), p, q, r)).map .l ++ flatFrom f (some r) t
  | h, .z :: t => .z :: flatFrom f h t
def RowsOk : Option Pt → List Row → Prop
  | _, [] => True
  | _, .m p :: t => RowsOk (some p) t
  | _, .l p :: t => RowsOk (some p) t
  | h, .c p q r :: t => (∃ a, h = some a ∧ QB 1000000 (a, p, q, r)) ∧ RowsOk (some r) t
  | h, .z :: t => RowsOk h t
def hereD : Option Pt → Dat
  | none => .none
  | some p => ptD p
structure FS where
  fs : List Value
  n : Nat
  T : List (Addr × Obj)
  out : List Row
  hv : Value
  here : Option Pt
def FS.led (lf : Nat) (c : FS) : List (Addr × Obj) := (lf, listOf c.fs.toArray c.n) :: c.T
structure FS.good (f : Int) (olds : List (Addr × Obj)) (lf : Nat) (total rest : List Row) (c : FS) : Prop where
  data : DatAll (c.T ++ olds) c.fs (c.out.map rowD)
  hereIn : DatIn (c.T ++ olds) c.hv (hereD c.here)
  off : ∀ p ∈ c.T, (@Ne Nat p.1 lf)
  cls : ∀ p ∈ c.T, p.2.cls ≠ .type "list_iterator"
  eq : c.out ++ flatFrom f c.here rest = total
  ok : RowsOk c.here rest
theorem ne_iter {h₀ h : Heap} {L I lf : Addr} {oI : Obj} {a : Array Value} {n : Nat} {T : List (Addr × Obj)} (N : News h₀ L h ((I, oI) :: (lf, listOf a n) :: T)) (hc : oI.cls = .type "list_iterator") : (@Ne Nat I lf) := fun e => by
  have h1 := (N (I, oI) (List.Mem.head _)).1
  have h2 := (N (lf, listOf a n) (List.Mem.tail _ (List.Mem.head _))).1
  have h1' : h.get? lf = some oI := e ▸ h1
  rw [h2] at h1'
  rw [← Option.some.inj h1'] at hc
  simp at hc
theorem stored_ne {z : Str} : ∀ {l : List Str}, l.contains z = false → ∀ x ∈ l, z ≠ x
  | [], _, _, hx => nomatch hx
  | y :: l, h, x, hx => by
    rw [List.contains_cons, Bool.or_eq_false_iff, beq_eq_false_iff_ne] at h
    rcases List.mem_cons.mp hx with rfl | hx
    · exact h.1
    · exact stored_ne h.2 x hx
local macro_rules | `(tactic| walk_at "exec For Name Name cons nil") => `(tactic| (k_here; (rename Fr _ _ _ _ => lF'); (with_unfolding_all refine' For_turns lF' ?_; k_whole)))
local macro_rules | `(tactic| walk_at "exec For Tuple Call cons nil") => `(tactic| (k_here; (rename Fr _ _ _ _ => lF'); (with_unfolding_all refine' For_turns lF' ?_; k_whole)))
local macro_rules | `(tactic| walk_at "pyIter ref") => `(tactic| (refine stop_here ?_))
local macro_rules | `(tactic| walk_at "TurnPost") => `(tactic| first | refine TurnPost.next ?_ | refine TurnPost.cont ?_ | refine TurnPost.ret ?_)
local macro_rules | `(tactic| walk_at "call ref") => `(tactic| (k_here; (with_reducible show wpAny _ _ (call (Value.ref 201) _) _ _ _); refine stop_here ?_))
local macro_rules | `(tactic| walk_at "call ref") => `(tactic| (k_here; (with_reducible show wpAny _ _ (call (Value.ref 236) _) _ _ _); refine stop_here ?_))
set_option maxRecDepth 100000 in
set_option maxHeartbeats 2000000 in
theorem flattened_con (rows : List Row) (f : Int) (hok : RowsOk none rows) (hf : -1000000 ≤ f ∧ f ≤ 1000000) (htot : (flatFrom f none rows).length ≤ 5000) :
    Con 243 14 [.list (rows.map rowD), .int f] (Mix (.list ((flatFrom f none rows).map rowD))) := by
  unfold Con
  k_fill
  intro w mean mg mb dp un gd cn cs a ccd cl outer A₀ base h₀ L m olds s vs Q E B F X T hk hH hD hroom hunits hret
  obtain ⟨v1, v2, rfl, hd1, hd2⟩ := all2 hD
  obtain ⟨t0, rfl⟩ := int_of hd2
  obtain ⟨al, vs, nl, rfl, ml, hd⟩ := list_of hd1
  clear hD hd1 hd2
  have bl : s.heap.get? al = some (listOf vs.toArray nl) := hH _ ml
  k_dflt (refine' enterC (binds := [(Str.ofString "rows", .ref al), (Str.ofString "flatness", .int f t0)]) ?k1 ?k2 ?k3 ?k5 ?kK ?k6 ?k7 ?k8 ?k9 ?kB ?_ ?c2 ?c3 ?c4 ?c5; walk_at "MY_ENTERB")
  k_steps
  refine Stop.mk ?_
  rename_i LL _ BB XX TT _ lf _ _ D0 _ l0 _ _ _ FF NN
  have hrows : vs.length = rows.length := by have := hd.length; rwa [List.length_map] at this
  refine turn_list (σ := FS) (FS.led lf) (fun c => [(Str.ofString "found", .ref lf), (Str.ofString "here", c.hv)]) [Str.ofString "row", Str.ofString "points", Str.ofString "x", Str.ofString "y"] (fun i c => c.good f olds lf (flatFrom f none rows) (rows.drop i)) ⟨[], 0, [], [], .none, none⟩ rfl (FF.keep _ _ bl) (Nat.ne_of_lt (Nat.lt_of_lt_of_le (Heap.lt_size bl) FF.above)) FF ?_ ?_ ?_ ?_ ?_ ?_ ?_
  · exact fun p hp => NN p (by rw [List.mem_singleton.mp hp]; exact List.Mem.tail _ (List.Mem.head _))
  · intro p hp
    simp only [List.mem_cons, List.not_mem_nil, or_false] at hp
    rcases hp with rfl | rfl <;> rfl
  · exact ⟨.nil, .none, fun p hp => (nomatch hp), fun p hp => (nomatch hp), rfl, hok⟩
  · intro i c hg p hp
    rcases List.mem_cons.mp hp with rfl | hp
    · exact .inl (by simp)
    · exact .inl (hg.cls p hp)
  · intro i c h m hg F' N'
    exact F'.keep _ _ bl
  · clear FF NN
    rintro i v ⟨fs, nf, Tl, out, hv, here⟩ u hh tk9 I oI hvi ⟨g1, g2, g3, g4, g5, g6⟩ hcI kF kN
    dsimp only [FS.led] at g1 g2 g3 g4 g5 g6 kF kN
    have hIf := ne_iter kN hcI
    have hir : i < rows.length := by rw [← hrows]; exact (List.getElem?_eq_some_iff.mp hvi).1
    obtain ⟨v', hv', hd'⟩ := hd.get (k := i) (by rw [List.length_map]; exact hir)
    have ev : v' = v := by rw [hvi] at hv'; exact (Option.some.inj hv').symm
    subst ev
    rw [List.getElem_map] at hd'
    rw [List.drop_eq_getElem_cons hir] at g5 g6
    have hlf : fs.length ≤ 5000 := by
      have h1 := g1.length
      have h2 := congrArg List.length g5
      rw [List.length_map] at h1
      rw [List.length_append] at h2
      omega
    generalize rows[i] = row at *
    cases row with
    | m p =>
      have hd2 : DatIn olds v' (.tuple [.str (Str.ofString "m"), .int p.1, .int p.2]) := hd'
      cases hd' with | @tuple ar vr nr dr mr h1 =>
      obtain ⟨x1, x2, x3, rfl, h1, h2, h3⟩ := all3 h1
      obtain ⟨t1, rfl⟩ := str_of h1
      obtain ⟨t2, rfl⟩ := int_of h2
      obtain ⟨t3, rfl⟩ := int_of h3
      clear h1 h2 h3
      have b1 := hH.tup mr
      (try k_fold)
      k_steps
      refine Stop.mk ?_
      rename_i F5 N5 _
      refine con_useG (points1_con (Str.ofString "m") p) BB F5 XX N5 TT rfl (has_keep F5 hH) (.cons hd2 .nil) (by dsimp only [ktrTop, Around.deeper]; omega) (by dsimp only [ktrTop, Around.deeper]; omega) ?_
      intro r9 tl9 h9 tk9' F9 N9 hl9 ho9
      obtain ⟨a9, vs9, n9, rfl, m9, hd9⟩ := list_of ho9
      obtain ⟨x9, rfl, hx9⟩ := all1 hd9
      have N9' : News s.heap LL h9 ((a9, listOf [x9].toArray n9) :: (I, oI) :: (lf, listOf (fs.toArray.push (.ref ar)) (nf + 1)) :: (Seqs tl9 ++ Tl)) := kst_newsOf N9 fun q hq => by
        rcases List.mem_cons.mp hq with rfl | hq
        · exact List.mem_append.mpr (.inl m9)
        · rcases List.mem_cons.mp hq with rfl | hq
          · exact List.mem_append.mpr (.inr (List.Mem.head _))
          · rcases List.mem_cons.mp hq with rfl | hq
            · exact List.mem_append.mpr (.inr (List.Mem.tail _ (List.Mem.head _)))
            · exact (List.mem_append.mp hq).elim (fun h => List.mem_append.mpr (.inl (seqs_sub _ h))) fun h => List.mem_append.mpr (.inr (List.Mem.tail _ (List.Mem.tail _ h)))
      have hoff : ∀ q ∈ Seqs tl9 ++ Tl, (@Ne Nat q.1 lf) := fun q hq => (List.mem_append.mp hq).elim (fun h => hl9 _ (List.Mem.tail _ (List.Mem.head _)) q (seqs_sub _ h)) (g3 q)
      have b9 : h9.IsList a9 [x9].toArray := ⟨_, (N9' _ (List.Mem.head _)).1, rfl, n9, rfl⟩
      clear F5 N5 N9 kF kN
      (try dsimp only); (try k_fold)
      k_steps
      refine Stop.mk ?_
      rename_i F6 N6
      rw [List.push_toArray] at N6
      have hsub : ∀ q ∈ Tl ++ olds, q ∈ (Seqs tl9 ++ Tl) ++ olds := fun q hq => (List.mem_append.mp hq).elim (fun h => List.mem_append.mpr (.inl (List.mem_append.mpr (.inr h)))) fun h => List.mem_append.mpr (.inr h)
      refine turn_end ⟨fs ++ [Value.ref ar], nf + 1, Seqs tl9 ++ Tl, out ++ [Row.m p], x9, some p⟩ F6 N6 (List.Mem.tail _ (List.Mem.head _)) (fun q hq => List.Mem.tail _ (List.Mem.tail _ hq)) ?_ ?_ ⟨?_, ?_, hoff, ?_, ?_, g6⟩
      · intro q hq
        simp only [List.mem_cons, List.not_mem_nil, or_false] at hq
        rcases hq with rfl | rfl <;> rfl
      · intro z h2 h3
        have q1 : z ≠ Str.ofString "found" := h2 _ (List.Mem.head _)
        have q2 : z ≠ Str.ofString "here" := h2 _ (List.Mem.tail _ (List.Mem.head _))
        have q3 : z ≠ Str.ofString "row" := stored_ne h3 _ (by decide)
        have q4 : z ≠ Str.ofString "points" := stored_ne h3 _ (by decide)
        have q5 : z ≠ Str.ofString "x" := stored_ne h3 _ (by decide)
        have q6 : z ≠ Str.ofString "y" := stored_ne h3 _ (by decide)
        simp [kstB, q1, q2, q3, q4, q5, q6]

      · show DatAll _ _ (List.map rowD (out ++ [_]))
        rw [List.map_append]
        exact (g1.mono hsub).append (.one (hd2.mono fun q hq => List.mem_append.mpr (.inr hq)))
      · exact (DatIn.seqs hx9).mono fun q hq => List.mem_append.mpr (.inl (List.mem_append.mpr (.inl hq)))
      · exact fun q hq => (List.mem_append.mp hq).elim (seqs_cls q) (g4 q)
      · simpa [flatFrom] using g5
    | l p =>
      have hd2 : DatIn olds v' (.tuple [.str (Str.ofString "l"), .int p.1, .int p.2]) := hd'
      cases hd' with | @tuple ar vr nr dr mr h1 =>
      obtain ⟨x1, x2, x3, rfl, h1, h2, h3⟩ := all3 h1
      obtain ⟨t1, rfl⟩ := str_of h1
      obtain ⟨t2, rfl⟩ := int_of h2
      obtain ⟨t3, rfl⟩ := int_of h3
      clear h1 h2 h3
      have b1 := hH.tup mr
      (try k_fold)
      k_steps
      refine Stop.mk ?_
      rename_i F5 N5 _
      refine con_useG (points1_con (Str.ofString "l") p) BB F5 XX N5 TT rfl (has_keep F5 hH) (.cons hd2 .nil) (by dsimp only [ktrTop, Around.deeper]; omega) (by dsimp only [ktrTop, Around.deeper]; omega) ?_
      intro r9 tl9 h9 tk9' F9 N9 hl9 ho9
      obtain ⟨a9, vs9, n9, rfl, m9, hd9⟩ := list_of ho9
      obtain ⟨x9, rfl, hx9⟩ := all1 hd9
      have N9' : News s.heap LL h9 ((a9, listOf [x9].toArray n9) :: (I, oI) :: (lf, listOf (fs.toArray.push (.ref ar)) (nf + 1)) :: (Seqs tl9 ++ Tl)) := kst_newsOf N9 fun q hq => by
        rcases List.mem_cons.mp hq with rfl | hq
        · exact List.mem_append.mpr (.inl m9)
        · rcases List.mem_cons.mp hq with rfl | hq
          · exact List.mem_append.mpr (.inr (List.Mem.head _))
          · rcases List.mem_cons.mp hq with rfl | hq
            · exact List.mem_append.mpr (.inr (List.Mem.tail _ (List.Mem.head _)))
            · exact (List.mem_append.mp hq).elim (fun h => List.mem_append.mpr (.inl (seqs_sub _ h))) fun h => List.mem_append.mpr (.inr (List.Mem.tail _ (List.Mem.tail _ h)))
      have hoff : ∀ q ∈ Seqs tl9 ++ Tl, (@Ne Nat q.1 lf) := fun q hq => (List.mem_append.mp hq).elim (fun h => hl9 _ (List.Mem.tail _ (List.Mem.head _)) q (seqs_sub _ h)) (g3 q)
      have b9 : h9.IsList a9 [x9].toArray := ⟨_, (N9' _ (List.Mem.head _)).1, rfl, n9, rfl⟩
      clear F5 N5 N9 kF kN
      (try dsimp only); (try k_fold)
      k_steps
      refine Stop.mk ?_
      rename_i F6 N6
      rw [List.push_toArray] at N6
      have hsub : ∀ q ∈ Tl ++ olds, q ∈ (Seqs tl9 ++ Tl) ++ olds := fun q hq => (List.mem_append.mp hq).elim (fun h => List.mem_append.mpr (.inl (List.mem_append.mpr (.inr h)))) fun h => List.mem_append.mpr (.inr h)
      refine turn_end ⟨fs ++ [Value.ref ar], nf + 1, Seqs tl9 ++ Tl, out ++ [Row.l p], x9, some p⟩ F6 N6 (List.Mem.tail _ (List.Mem.head _)) (fun q hq => List.Mem.tail _ (List.Mem.tail _ hq)) ?_ ?_ ⟨?_, ?_, hoff, ?_, ?_, g6⟩
      · intro q hq
        simp only [List.mem_cons, List.not_mem_nil, or_false] at hq
        rcases hq with rfl | rfl <;> rfl
      · intro z h2 h3
        have q1 : z ≠ Str.ofString "found" := h2 _ (List.Mem.head _)
        have q2 : z ≠ Str.ofString "here" := h2 _ (List.Mem.tail _ (List.Mem.head _))
        have q3 : z ≠ Str.ofString "row" := stored_ne h3 _ (by decide)
        have q4 : z ≠ Str.ofString "points" := stored_ne h3 _ (by decide)
        have q5 : z ≠ Str.ofString "x" := stored_ne h3 _ (by decide)
        have q6 : z ≠ Str.ofString "y" := stored_ne h3 _ (by decide)
        simp [kstB, q1, q2, q3, q4, q5, q6]

      · show DatAll _ _ (List.map rowD (out ++ [_]))
        rw [List.map_append]
        exact (g1.mono hsub).append (.one (hd2.mono fun q hq => List.mem_append.mpr (.inr hq)))
      · exact (DatIn.seqs hx9).mono fun q hq => List.mem_append.mpr (.inl (List.mem_append.mpr (.inl hq)))
      · exact fun q hq => (List.mem_append.mp hq).elim (seqs_cls q) (g4 q)
      · simpa [flatFrom] using g5
    | c p q r =>
      obtain ⟨⟨pa, rfl, hQ⟩, g6⟩ := g6
      have hd2 : DatIn olds v' (.tuple [.str (Str.ofString "c"), .int p.1, .int p.2, .int q.1, .int q.2, .int r.1, .int r.2]) := hd'
      cases hd' with | @tuple ar vr nr dr mr h9 =>
      cases h9 with | cons h1 h9 =>
      cases h9 with | cons h2 h9 =>
      cases h9 with | cons h3 h9 =>
      obtain ⟨v4, v5, v6, v7, rfl, h4, h5, h6, h7⟩ := all4 h9
      obtain ⟨t1, rfl⟩ := str_of h1
      obtain ⟨t2, rfl⟩ := int_of h2
      obtain ⟨t3, rfl⟩ := int_of h3
      obtain ⟨t4, rfl⟩ := int_of h4
      obtain ⟨t5, rfl⟩ := int_of h5
      obtain ⟨t6, rfl⟩ := int_of h6
      obtain ⟨t7, rfl⟩ := int_of h7
      clear h1 h2 h3 h4 h5 h6 h7 h9
      have b1 := hH.tup mr
      obtain ⟨ah, nh, th1, th2, rfl, mh⟩ := pt_of g2
      (try k_fold)
      k_steps
      refine Stop.mk ?_
      rename_i lh _ F5 N5 lh1
      refine con_useG (points3_con (Str.ofString "c") p q r) BB F5 XX N5 TT rfl (has_keep F5 hH) (.cons hd2 .nil) (by dsimp only [ktrTop, Around.deeper]; omega) (by dsimp only [ktrTop, Around.deeper]; omega) ?_
      intro r9 tl9 h9 tk9' F9 N9 hl9 ho9
      obtain ⟨a9, vs9, n9, rfl, m9, hd9⟩ := list_of ho9
      obtain ⟨x1, x2, x3, rfl, hx1, hx2, hx3⟩ := all3 hd9
      have N9' : News s.heap LL h9 ((a9, listOf [x1, x2, x3].toArray n9) :: (lh, listOf [Value.ref ah].toArray 0) :: (I, oI) :: (lf, listOf fs.toArray nf) :: (Seqs tl9 ++ Tl)) := kst_newsOf N9 fun q hq => by
        rcases List.mem_cons.mp hq with rfl | hq
        · exact List.mem_append.mpr (.inl m9)
        · rcases List.mem_cons.mp hq with rfl | hq
          · exact List.mem_append.mpr (.inr (List.Mem.head _))
          · rcases List.mem_cons.mp hq with rfl | hq
            · exact List.mem_append.mpr (.inr (List.Mem.tail _ (List.Mem.head _)))
            · rcases List.mem_cons.mp hq with rfl | hq
              · exact List.mem_append.mpr (.inr (List.Mem.tail _ (List.Mem.tail _ (List.Mem.head _))))
              · exact (List.mem_append.mp hq).elim (fun h => List.mem_append.mpr (.inl (seqs_sub _ h))) fun h => List.mem_append.mpr (.inr (List.Mem.tail _ (List.Mem.tail _ (List.Mem.tail _ h))))
      have hoff : ∀ q ∈ Seqs tl9 ++ Tl, (@Ne Nat q.1 lf) := fun q hq => (List.mem_append.mp hq).elim (fun h => hl9 _ (List.Mem.tail _ (List.Mem.tail _ (List.Mem.head _))) q (seqs_sub _ h)) (g3 q)
      have b9 : h9.IsList a9 [x1, x2, x3].toArray := ⟨_, (N9' _ (List.Mem.head _)).1, rfl, n9, rfl⟩
      have hcls : ∀ q ∈ Seqs tl9 ++ Tl, q.2.cls ≠ .type "list_iterator" := fun q hq => (List.mem_append.mp hq).elim (seqs_cls q) (g4 q)
      have hy1 : DatIn ((Seqs tl9 ++ Tl) ++ olds) x1 (ptD p) := (DatIn.seqs hx1).mono fun q hq => List.mem_append.mpr (.inl (List.mem_append.mpr (.inl hq)))
      have hy2 : DatIn ((Seqs tl9 ++ Tl) ++ olds) x2 (ptD q) := (DatIn.seqs hx2).mono fun q hq => List.mem_append.mpr (.inl (List.mem_append.mpr (.inl hq)))
      have hy3 : DatIn ((Seqs tl9 ++ Tl) ++ olds) x3 (ptD r) := (DatIn.seqs hx3).mono fun q hq => List.mem_append.mpr (.inl (List.mem_append.mpr (.inl hq)))
      have hsub : ∀ q ∈ Tl ++ olds, q ∈ (Seqs tl9 ++ Tl) ++ olds := fun q hq => (List.mem_append.mp hq).elim (fun h => List.mem_append.mpr (.inl (List.mem_append.mpr (.inr h)))) fun h => List.mem_append.mpr (.inr h)
      have hy0 : DatIn ((Seqs tl9 ++ Tl) ++ olds) (.ref ah) (ptD pa) := DatIn.mono hsub g2
      have g1' := g1.mono hsub
      generalize Seqs tl9 ++ Tl = T9 at *
      clear F5 N5 N9 kF kN hx1 hx2 hx3 hl9 ho9 m9 hd9 hsub
      (try dsimp only); (try k_fold)
      k_steps
      refine Stop.mk ?_
      rename_i D1 _ d1 _ DT _ F7 N7 d2
      have N8 : News s.heap LL _ ((lf, listOf fs.toArray nf) :: (I, oI) :: (DT, tupO [Value.ref ah, x1, x2, x3] 0) :: T9) := kst_newsOf N7 fun q hq => by
        simp only [List.mem_cons] at hq ⊢
        rcases hq with h | h | h | h
        · exact .inr (.inr (.inr (.inr (.inr (.inl h)))))
        · exact .inr (.inr (.inr (.inr (.inl h))))
        · exact .inl h
        · exact .inr (.inr (.inr (.inr (.inr (.inr h)))))
      have hm1 : ∀ q ∈ T9 ++ olds, q ∈ ((DT, tupO [Value.ref ah, x1, x2, x3] 0) :: T9) ++ olds := fun q hq => List.mem_cons_of_mem _ hq
      refine con_useG (ends_con (pa, p, q, r) f hQ hf) (big := ((DT, tupO [Value.ref ah, x1, x2, x3] 0) :: T9) ++ olds) BB F7 XX N8 TT rfl (has_app (has_sub N8 fun q hq => List.mem_cons_of_mem _ (List.mem_cons_of_mem _ hq)) (has_keep F7 hH))
        (.cons (.tuple (List.Mem.head _) (.cons (hy0.mono hm1) (.cons (hy1.mono hm1) (.cons (hy2.mono hm1) (.cons (hy3.mono hm1) .nil))))) (.cons (.int _ _) .nil)) (by dsimp only [ktrTop, Around.deeper]; omega) (by dsimp only [ktrTop, Around.deeper]; omega) ?_
      intro r9 tle h10 tk10 F10 N10' hle ho10
      obtain ⟨ae, ws, ne, rfl, me, hde⟩ := list_of (DatIn.seqsL ho10)
      have N10 : News s.heap LL h10 ((lf, listOf fs.toArray nf) :: (I, oI) :: (Seqs tle ++ ((DT, tupO [Value.ref ah, x1, x2, x3] 0) :: T9))) := kst_newsOf N10' fun q hq => by
        rcases List.mem_cons.mp hq with rfl | hq
        · exact List.mem_append.mpr (.inr (List.Mem.head _))
        · rcases List.mem_cons.mp hq with rfl | hq
          · exact List.mem_append.mpr (.inr (List.Mem.tail _ (List.Mem.head _)))
          · exact (List.mem_append.mp hq).elim (fun h => List.mem_append.mpr (.inl (seqs_sub _ h))) fun h => List.mem_append.mpr (.inr (List.Mem.tail _ (List.Mem.tail _ h)))
      have hoff10 : ∀ q ∈ Seqs tle ++ ((DT, tupO [Value.ref ah, x1, x2, x3] 0) :: T9), (@Ne Nat q.1 lf) := fun q hq => by
        rcases List.mem_append.mp hq with h | h
        · exact hle _ (List.Mem.head _) q (seqs_sub _ h)
        · rcases List.mem_cons.mp h with rfl | h
          · exact Nat.ne_of_gt d2.2.2.2.2.1
          · exact hoff q h
      have hcls10 : ∀ q ∈ Seqs tle ++ ((DT, tupO [Value.ref ah, x1, x2, x3] 0) :: T9), q.2.cls ≠ .type "list_iterator" := fun q hq => by
        rcases List.mem_append.mp hq with h | h
        · exact seqs_cls q h
        · rcases List.mem_cons.mp h with rfl | h
          · simp
          · exact hcls q h
      have g10 : DatAll ((Seqs tle ++ ((DT, tupO [Value.ref ah, x1, x2, x3] 0) :: T9)) ++ olds) fs (out.map rowD) := g1'.mono fun q hq => by
        rcases List.mem_append.mp hq with h | h
        · exact List.mem_append.mpr (.inl (List.mem_append.mpr (.inr (List.Mem.tail _ h))))
        · exact List.mem_append.mpr (.inr h)
      rw [← List.append_assoc] at me hde
      have hlen10 := (ends_length f 10 (pa, p, q, r)).2
      have hwl := hde.length
      rw [List.length_map] at hwl
      generalize Seqs tle ++ ((DT, tupO [Value.ref ah, x1, x2, x3] 0) :: T9) = T10 at *
      have hae : h10.get? ae = some (listOf ws.toArray ne) := (has_app (has_sub N10 fun q hq => List.mem_cons_of_mem _ (List.mem_cons_of_mem _ hq)) (has_keep F10 hH)) _ me
      have hIlt : @LT.lt Nat _ I h10.objs.size := Heap.lt_size (N10 _ (List.Mem.tail _ (List.Mem.head _))).1
      clear N7 F7 N8 N10' hle ho10 d1 d2 hm1 hy0 hy1 hy2 hy3 hoff hcls g1'
      (try dsimp only); (try k_fold)
      k_steps
      refine Stop.mk ?_
      refine turn_list (σ := FS) (fun c => (lf, listOf c.fs.toArray c.n) :: (I, oI) :: c.T) (fun c => [(Str.ofString "found", .ref lf)]) [Str.ofString "x", Str.ofString "y"]
        (fun j c => (DatAll (c.T ++ olds) c.fs (c.out.map rowD) ∧ c.out = out ++ ((ends f 10 (pa, p, q, r)).take j).map Row.l) ∧ (∀ q ∈ T10, q ∈ c.T) ∧ (∀ q ∈ c.T, (@Ne Nat q.1 lf)) ∧ (∀ q ∈ c.T, q.2.cls ≠ .type "list_iterator"))
        ⟨fs, nf, T10, out, .none, none⟩ rfl hae (ne_locals F10 hae) F10 N10 ?_ ⟨⟨g10, by simp⟩, fun q hq => hq, hoff10, hcls10⟩ ?_ ?_ ?_ ?_
      · intro q hq
        rw [List.mem_singleton.mp hq]
        rfl
      · intro j c hP q hq
        rcases List.mem_cons.mp hq with rfl | hq
        · exact .inl (by simp)
        · rcases List.mem_cons.mp hq with rfl | hq
          · exact .inr (Nat.ne_of_lt hIlt)
          · exact .inl (hP.2.2.2 q hq)
      · intro j c h m' hP F' N'
        rcases List.mem_append.mp me with h1 | h1
        · exact (N' _ (List.mem_cons_of_mem _ (List.mem_cons_of_mem _ (hP.2.1 _ h1)))).1
        · exact F'.keep _ _ (hH _ h1)
      · clear F10 N10
        rintro j v2 ⟨fs2, n2, T2, out2, hv2, here2⟩ u2 h12 tk12 I2 oI2 hvj ⟨⟨k1, k2⟩, k3, k4, k5⟩ hcI2 kF2 kN2
        dsimp only at k1 k2 k3 k4 k5 kF2 kN2
        have hIf2 := ne_iter kN2 hcI2
        have hjr : j < (ends f 10 (pa, p, q, r)).length := by rw [← hwl]; exact (List.getElem?_eq_some_iff.mp hvj).1
        obtain ⟨v3, hv3, hd3⟩ := hde.get (k := j) (by rw [List.length_map]; exact hjr)
        have ev : v3 = v2 := by rw [hvj] at hv3; exact (Option.some.inj hv3).symm
        subst ev
        rw [List.getElem_map] at hd3
        have htake : (ends f 10 (pa, p, q, r)).take (j + 1) = (ends f 10 (pa, p, q, r)).take j ++ [(ends f 10 (pa, p, q, r))[j]] := by rw [List.take_add_one, List.getElem?_eq_getElem hjr]; rfl
        have hl2 : fs2.length ≤ 7000 := by
          have h1 := k1.length
          have h3 := List.length_take_le j (ends f 10 (pa, p, q, r))
          have h4 := g10.length
          rw [List.length_map] at h1 h4
          rw [k2, List.length_append, List.length_map] at h1
          omega
        generalize (ends f 10 (pa, p, q, r))[j] = e at *
        obtain ⟨av, nv, tv1, tv2, rfl, mv⟩ := pt_of hd3
        have bt : IsTup h12 av [Value.int e.1 tv1, Value.int e.2 tv2].toArray := by
          rcases List.mem_append.mp mv with h1 | h1
          · exact News.isTup kN2 (List.mem_cons_of_mem _ (List.mem_cons_of_mem _ (List.mem_cons_of_mem _ (k3 _ h1))))
          · exact Fr.tup kF2 (hH.tup h1)
        (try k_fold)
        k_steps
        refine Stop.mk ?_
        rename_i tkl D2 _ d2 _ F6 N6
        rw [List.push_toArray] at N6
        refine turn_end ⟨fs2 ++ [Value.ref D2], n2 + 1, (D2, tupO [Value.str (Str.ofString "l") tkl, Value.int e.1 tv1, Value.int e.2 tv2] 0) :: T2, out2 ++ [Row.l e], .none, none⟩ F6 N6 ?_ ?_ ?_ ?_ ⟨⟨?_, ?_⟩, ?_, ?_, ?_⟩
        · exact List.Mem.tail _ (List.Mem.head _)
        · intro q hq
          simp only [List.mem_cons] at hq ⊢
          rcases hq with h | h | h | h
          · exact .inr (.inr (.inl h))
          · exact .inr (.inr (.inr (.inl h)))
          · exact .inl h
          · exact .inr (.inr (.inr (.inr h)))
        · intro q hq
          rw [List.mem_singleton.mp hq]
          rfl
        · intro z h2 h3
          have q1 : z ≠ Str.ofString "found" := h2 _ (List.Mem.head _)
          have q5 : z ≠ Str.ofString "x" := stored_ne h3 _ (by decide)
          have q6 : z ≠ Str.ofString "y" := stored_ne h3 _ (by decide)
          simp [kstB, q1, q5, q6]
        · show DatAll _ _ (List.map rowD (out2 ++ [_]))
          rw [List.map_append]
          exact (k1.mono fun q hq => List.mem_cons_of_mem _ hq).append (.one (.tuple (List.Mem.head _) (.cons (.str _ _) (.cons (.int _ _) (.cons (.int _ _) .nil)))))
        · show out2 ++ [Row.l e] = _
          rw [k2, htake, List.map_append, List.append_assoc]
          rfl
        · exact fun q hq => List.mem_cons_of_mem _ (k3 q hq)
        · intro q hq
          rcases List.mem_cons.mp hq with rfl | hq
          · exact Nat.ne_of_gt d2.2.1
          · exact k4 q hq
        · intro q hq
          rcases List.mem_cons.mp hq with rfl | hq
          · simp
          · exact k5 q hq
      · clear F10 N10
        rintro ⟨fs2, n2, T2, out2, hv2, here2⟩ u2 h12 tk12 ⟨⟨k1, k2⟩, k3, k4, k5⟩ kF2 kN2
        dsimp only at k1 k2 k3 k4 k5 kF2 kN2
        rw [hwl, List.take_length] at k2
        (try k_fold)
        k_steps
        refine Stop.mk ?_
        refine con_useG (points3_con (Str.ofString "c") p q r) BB kF2 XX kN2 TT rfl (has_keep kF2 hH) (.cons hd2 .nil) (by dsimp only [ktrTop, Around.deeper]; omega) (by dsimp only [ktrTop, Around.deeper]; omega) ?_
        intro r9 tl9 h9 tk9' F9 N9 hl9 ho9
        obtain ⟨a9, vs9, n9, rfl, m9, hd9⟩ := list_of ho9
        obtain ⟨x1, x2, x3, rfl, hx1, hx2, hx3⟩ := all3 hd9
        have N9' : News s.heap LL h9 ((a9, listOf [x1, x2, x3].toArray n9) :: (I, oI) :: (lf, listOf fs2.toArray n2) :: (Seqs tl9 ++ T2)) := kst_newsOf N9 fun q hq => by
          rcases List.mem_cons.mp hq with rfl | hq
          · exact List.mem_append.mpr (.inl m9)
          · rcases List.mem_cons.mp hq with rfl | hq
            · exact List.mem_append.mpr (.inr (List.Mem.tail _ (List.Mem.head _)))
            · rcases List.mem_cons.mp hq with rfl | hq
              · exact List.mem_append.mpr (.inr (List.Mem.head _))
              · exact (List.mem_append.mp hq).elim (fun h => List.mem_append.mpr (.inl (seqs_sub _ h))) fun h => List.mem_append.mpr (.inr (List.Mem.tail _ (List.Mem.tail _ h)))
        have hoff : ∀ q ∈ Seqs tl9 ++ T2, (@Ne Nat q.1 lf) := fun q hq => (List.mem_append.mp hq).elim (fun h => hl9 _ (List.Mem.head _) q (seqs_sub _ h)) (k4 q)
        have b9 : h9.IsList a9 [x1, x2, x3].toArray := ⟨_, (N9' _ (List.Mem.head _)).1, rfl, n9, rfl⟩
        clear N9 kF2 kN2
        (try dsimp only); (try k_fold)
        k_steps
        refine Stop.mk ?_
        rename_i F6 N6
        refine turn_end ⟨fs2, n2, Seqs tl9 ++ T2, out2, x3, some r⟩ F6 N6 (List.Mem.tail _ (List.Mem.head _)) (fun q hq => List.Mem.tail _ (List.Mem.tail _ hq)) ?_ ?_ ⟨?_, ?_, hoff, ?_, ?_, g6⟩
        · intro q hq
          simp only [List.mem_cons, List.not_mem_nil, or_false] at hq
          rcases hq with rfl | rfl <;> rfl
        · intro z h2 h3
          have q1 : z ≠ Str.ofString "found" := h2 _ (List.Mem.head _)
          have q2 : z ≠ Str.ofString "here" := h2 _ (List.Mem.tail _ (List.Mem.head _))
          have q3 : z ≠ Str.ofString "row" := stored_ne h3 _ (by decide)
          have q4 : z ≠ Str.ofString "points" := stored_ne h3 _ (by decide)
          have q5 : z ≠ Str.ofString "x" := stored_ne h3 _ (by decide)
          have q6 : z ≠ Str.ofString "y" := stored_ne h3 _ (by decide)
          simp [kstB, q1, q2, q3, q4, q5, q6]
        · exact k1.mono fun q hq => (List.mem_append.mp hq).elim (fun h => List.mem_append.mpr (.inl (List.mem_append.mpr (.inr h)))) fun h => List.mem_append.mpr (.inr h)
        · exact (DatIn.seqs hx3).mono fun q hq => List.mem_append.mpr (.inl (List.mem_append.mpr (.inl hq)))
        · exact fun q hq => (List.mem_append.mp hq).elim (seqs_cls q) (k5 q)
        · show out2 ++ _ = _
          rw [k2, ← g5]
          simp [flatFrom]
    | z =>
      have hd2 : DatIn olds v' (.tuple [.str (Str.ofString "z")]) := hd'
      cases hd' with | @tuple ar vr nr dr mr h9 =>
      obtain ⟨x1, rfl, h1⟩ := all1 h9
      obtain ⟨t1, rfl⟩ := str_of h1
      clear h1 h9
      have b1 := hH.tup mr
      (try k_fold)
      k_steps
      refine Stop.mk ?_
      rename_i F6 N6 _
      rw [List.push_toArray] at N6
      refine turn_end ⟨fs ++ [Value.ref ar], nf + 1, Tl, out ++ [Row.z], hv, here⟩ F6 N6 (List.Mem.head _) (fun q hq => List.Mem.tail _ hq) ?_ ?_ ⟨?_, g2, g3, g4, ?_, g6⟩
      · intro q hq
        simp only [List.mem_cons, List.not_mem_nil, or_false] at hq
        rcases hq with rfl | rfl <;> rfl
      · intro z h2 h3
        have q1 : z ≠ Str.ofString "found" := h2 _ (List.Mem.head _)
        have q2 : z ≠ Str.ofString "here" := h2 _ (List.Mem.tail _ (List.Mem.head _))
        have q3 : z ≠ Str.ofString "row" := stored_ne h3 _ (by decide)
        have q4 : z ≠ Str.ofString "points" := stored_ne h3 _ (by decide)
        have q5 : z ≠ Str.ofString "x" := stored_ne h3 _ (by decide)
        have q6 : z ≠ Str.ofString "y" := stored_ne h3 _ (by decide)
        simp [kstB, q1, q2, q3, q4, q5, q6]

      · show DatAll _ _ (List.map rowD (out ++ [_]))
        rw [List.map_append]
        exact g1.append (.one (hd2.mono fun q hq => List.mem_append.mpr (.inr hq)))
      · simpa [flatFrom] using g5
  · intro c u hh tk9 hg kF kN
    obtain ⟨g1, g2, g3, g4, g5, g6⟩ := hg
    rw [hrows, List.drop_length] at g5
    simp only [flatFrom, List.append_nil] at g5
    (try dsimp only [FS.led] at kN)
    (try k_fold)
    k_steps
    (try dsimp only); (try k_unfold); (try dsimp only)
    refine con_end hret kF kN ?_
    rw [← g5]
    exact DatIn.list (List.mem_append.mpr (.inl (List.Mem.head _))) (g1.mono fun q hq => (List.mem_append.mp hq).elim (fun h => List.mem_append.mpr (.inl (List.Mem.tail _ h))) fun h => List.mem_append.mpr (.inr h))
end
section
theorem binds_zip {s : Shared} {name qual : Str} {params : Arguments} {body : List Stmt} {scope : Scope} {dV kV doc pm cdv ct : Value} {an : Option Addr} {args : List Value}
    (h : bindArgs (fnOf name qual params body scope dV kV doc pm an cdv ct) ⟨args, []⟩ = pure (List.zip (params.args.map fun x => x.arg) args)) :
    BindsTo s (fnOf name qual params body scope dV kV doc pm an cdv ct) ⟨args, []⟩ (List.zip (params.args.map fun x => x.arg) args) := .of_eq h
local macro_rules | `(tactic| k_enter) => `(tactic| (refine' code_def ?k1 ?k2 ?k3 ?k4 ?k5 ?kA ?kF ?kK ?k6 ?k7 ?k8 ?k9 ?kB ?_ ?c2 ?c3 ?c4 ?c5; (case kA => exact rfl); (case kF => exact rfl); (case kK => exact rfl); (case k1 => k_asm); (case k2 => k_asm); (case k3 => k_asm); (case k4 => k_asm); (case k5 => k_asm); (case k6 => k_is); (case k7 => k_is); (case k8 => k_room); (case k9 => exact binds_zip (by with_unfolding_all rfl)); (case c5 => decide); (case kB => exact locs rfl); (case c2 => exact rfl); (case c3 => exact rfl); (case c4 => exact rfl); k_whole; intro g' L' h' FG' F' N' B' X' T'; (try dsimp only [List.map_cons, List.map_nil, List.zip_cons_cons, List.zip_nil_left, List.zip_nil_right, List.reverse_cons, List.reverse_nil, List.nil_append, List.cons_append] at F'); (try have hH9 := has_keep FG' (by with_reducible assumption)); (try dsimp only); (try k_lift B'); (try k_fold)))
theorem ne_cls {h : Heap} {a b : Addr} {x y : Obj} (ha : h.get? a = some x) (hb : h.get? b = some y) (hc : x.cls ≠ y.cls) : (@Ne Nat a b) := fun e => by
  have ha' : h.get? b = some x := e ▸ ha
  rw [hb] at ha'
  exact hc (by rw [Option.some.inj ha'])
/-- a path's own names -/
def pathD (w : World) (a1 a2 a3 a4 tm : Tok) (k : Addr) (b p : Value) : Obj :=
  dictOf [{ hash := PyData.keyHash w.params (Str.ofString "most"), key := Value.str (Str.ofString "most") a1, val := Value.int 1500 tm },
    { hash := PyData.keyHash w.params (Str.ofString "kept"), key := Value.str (Str.ofString "kept") a2, val := Value.ref k },
    { hash := PyData.keyHash w.params (Str.ofString "begun"), key := Value.str (Str.ofString "begun") a3, val := b },
    { hash := PyData.keyHash w.params (Str.ofString "point"), key := Value.str (Str.ofString "point") a4, val := p }] 4
/-- a path of these rows, all of it new but the rows -/
def PathOut (w : World) (rows : List Row) : List (Addr × Obj) → List (Addr × Obj) → Value → Prop := fun tl olds r =>
  ∃ x d k a1 a2 a3 a4 tm b p fs n, r = .ref x ∧ (x, instObj 184 d) ∈ tl ∧ (d, pathD w a1 a2 a3 a4 tm k b p) ∈ tl ∧ (k, listOf fs.toArray n) ∈ tl ∧ DatAll (tl ++ olds) fs (rows.map rowD)
structure PS where
  fs : List Value
  n : Nat
  T : List (Addr × Obj)
  out : List Row
  b : Value
  p : Value
def PS.led (w : World) (a1 a2 a3 a4 tm : Tok) (x d k : Addr) (c : PS) : List (Addr × Obj) := (k, listOf c.fs.toArray c.n) :: (x, instObj 184 d) :: (d, pathD w a1 a2 a3 a4 tm k c.b c.p) :: c.T
structure PS.good (olds : List (Addr × Obj)) (x d k : Addr) (all : List Row) (i : Nat) (c : PS) : Prop where
  data : DatAll (c.T ++ olds) c.fs (c.out.map rowD)
  out_ : c.out = all.take i
  b_ : (i = 0 ∧ c.b = .none) ∨ (i ≠ 0 ∧ ∃ a n x y, c.b = .ref a ∧ (a, tupO [x, y] n) ∈ c.T)
  p_ : (i = 0 ∧ c.p = .none) ∨ (i ≠ 0 ∧ ∃ a n x y, c.p = .ref a ∧ (a, tupO [x, y] n) ∈ c.T)
  off : ∀ q ∈ c.T, (@Ne Nat q.1 k) ∧ (@Ne Nat q.1 d)
  cls : ∀ q ∈ c.T, q.2.cls ≠ .type "list_iterator"
open Classical in
theorem ne_nilL {prog : Program} {w : World} {A : Around} {E : Value → Shared → Prop} {s : Shared} {a b : Addr} {big : List (Addr × Obj)} {xs : List Value} {ka kb : Nat} {ds : List Dat} {Q : Value → Shared → Prop}
    (H : Has s.heap big) (ma : (a, listOf xs.toArray ka) ∈ big) (mb : (b, listOf ([] : List Value).toArray kb) ∈ big) (Da : DatAll big xs ds) (hds : ds ≠ []) (ha : ∀ d ∈ ds, kqdOk 8 d = true) (hu : A.units + 64 < cLine) (h : Q (.bool true) s) :
    wpAny (model prog w) A (compareOp .NotEq (.ref a) (.ref b)) Q E s := by
  refine kqd_ne H.news ma rfl rfl Da (fun _ h => h) mb rfl rfl DatAll.nil (fun _ h => h) ha (fun _ h => nomatch h) hu ?_
  rw [decide_eq_false hds]
  exact h
theorem rowsD_ok (rows : List Row) : ∀ d ∈ rows.map rowD, kqdOk 8 d = true := by
  intro d hd
  obtain ⟨x, _, rfl⟩ := List.mem_map.mp hd
  cases x <;> (simp [rowD, kqdOk]; decide +kernel)
local macro_rules | `(tactic| walk_at "subscriptTail") => `(tactic| (k_here; (with_reducible show wpAny _ _ (subscriptTail _ _ (Value.ref _) (Value.int _ _)) _ _ _); k_dflt (refine' item_list ?l ?a ?b ?c ?_ ?s ?g; (case l => walk_at "MY_LST"); (case c => assumption); (case a => decide); (case b => decide); (case s => with_unfolding_all rfl); (case g => (intro _; with_unfolding_all rfl)); k_whole)))
local macro_rules | `(tactic| walk_at "compareOp NotEq ref ref") => `(tactic| (k_here; k_dflt (refine' ne_nilL ?H ?ma ?mb ?Da ?hds ?ha ?hu ?_; (case H => exact has_app (has_news (by with_reducible assumption)) (has_keep (by with_reducible assumption) (by with_reducible assumption))); (case ma => walk_at "MY_MEM"); (case mb => walk_at "MY_MEM"); (case Da => walk_at "MY_ALL"); (case hds => assumption); (case ha => assumption); (case hu => ((try dsimp only [ktrTop, Around.deeper]); omega)); k_whole); (try dsimp only)))
local macro_rules | `(tactic| walk_at "compareOp NotEq ref ref") => `(tactic| (k_here; k_dflt (refine' ne_nil0 ?H ?ma ?mb ?hu ?_; (case H => exact has_news (by with_reducible assumption)); (case ma => walk_at "MY_MEM"); (case mb => exact List.Mem.head _); (case hu => ((try dsimp only [ktrTop, Around.deeper]); omega)); k_whole); (try dsimp only)))
theorem item_last {prog : Program} {w : World} {A : Around} {E : Value → Shared → Prop} {s : Shared} {value slice : Expr} {l : Addr} {xs : List Value} {y : Value} {u : Tok} {Q : Value → Shared → Prop} (hl : s.heap.IsList l (xs ++ [y]).toArray) (h : Q y s)
    (hs : subscripted slice false (.ref l) (.int (-1) u) = operate [.ref l, .int (-1) u] (getItem (.ref l) (.int (-1) u)) := by with_unfolding_all rfl) :
    wpAny (model prog w) A (subscriptTail value slice (.ref l) (.int (-1) u)) Q E s := by
  refine tail_any hl.typeIs slot_list_getitem.lookup (wpAny_getItem_list_neg hl (by decide) ?_ (by decide) (x := y) ?_ h) hs
  · simp; omega
  · rw [List.size_toArray, List.length_append, List.length_singleton]
    have e : ((-1 : Int) + ((xs.length + 1 : Nat) : Int)).toNat = xs.length := by omega
    rw [e]
    simp
local macro_rules | `(tactic| walk_at "subscriptTail") => `(tactic| (k_here; (with_reducible show wpAny _ _ (subscriptTail _ _ (Value.ref _) (Value.int (-1) _)) _ _ _); k_dflt (refine' item_last ?l ?_ ?s; (case l => walk_at "MY_LST"); (case s => with_unfolding_all rfl); k_whole)))
theorem eq_strF {prog : Program} {w : World} {A : Around} {E : Value → Shared → Prop} {s : Shared} {a b : Str} {t u : Tok} {Q : Value → Shared → Prop} (e : (a == b) = false) (h : Q (.bool false) s) : wpAny (model prog w) A (compareOp .Eq (.str a t) (.str b u)) Q E s :=
  eq_str (by rw [e]; exact h)
local macro_rules | `(tactic| walk_at "compareOp Eq str str") => `(tactic| (k_here; refine eq_strF (by assumption) ?_))
local macro_rules | `(tactic| walk_at "exec For Name Name cons nil") => `(tactic| (k_here; (rename Fr _ _ _ _ => lF'); (with_unfolding_all refine' For_turns lF' ?_; k_whole)))
local macro_rules | `(tactic| walk_at "pyIter ref") => `(tactic| (refine stop_here ?_))
local macro_rules | `(tactic| walk_at "TurnPost") => `(tactic| first | refine TurnPost.next ?_ | refine TurnPost.cont ?_ | refine TurnPost.ret ?_)
def pathRows (p : Pt) (ls : List Pt) (cl : Bool) : List Row := Row.m p :: (ls.map Row.l ++ if cl then [Row.z] else [])
set_option maxRecDepth 100000 in
set_option maxHeartbeats 2000000 in
theorem pathof_con (w : World) (p : Pt) (ls : List Pt) (cz : Bool) (hlen : ls.length ≤ 1300) :
    ConW w 196 14 [.list ((pathRows p ls cz).map rowD), .int 1500] (PathOut w (pathRows p ls cz)) := by
  unfold ConW
  k_fill
  intro mean mg mb dp un gd cn cs a ccd cl outer A₀ base h₀ L m olds s vs Q E B F X T hk hH hD hroom hunits hret
  obtain ⟨v1, v2, rfl, hd1, hd2⟩ := all2 hD
  obtain ⟨t0, rfl⟩ := int_of hd2
  obtain ⟨al, vs, nl, rfl, ml, hd⟩ := list_of hd1
  clear hD hd1 hd2
  have hrows : pathRows p ls cz = Row.m p :: (ls.map Row.l ++ if cz then [Row.z] else []) := rfl
  have hrl0 : (ls.map Row.l ++ if cz then [Row.z] else []).length ≤ 1301 := by rw [List.length_append, List.length_map]; split <;> simp <;> omega
  have hkind : ∀ j (h : j < (ls.map Row.l ++ if cz then [Row.z] else []).length), (∃ q, (ls.map Row.l ++ if cz then [Row.z] else [])[j] = .l q) ∨ ((ls.map Row.l ++ if cz then [Row.z] else [])[j] = .z ∧ j + 1 = (ls.map Row.l ++ if cz then [Row.z] else []).length) := by
    intro j h
    rw [List.getElem_append]
    split
    · exact .inl ⟨_, List.getElem_map ..⟩
    · rename_i h2
      cases cz with
      | false => simp at h h2; omega
      | true =>
        simp only [List.length_append, if_true, List.length_cons, List.length_nil] at h ⊢
        refine .inr ⟨?_, by omega⟩
        have : j - (List.map Row.l ls).length = 0 := by omega
        simp [this]
  generalize (ls.map Row.l ++ if cz then [Row.z] else []) = rows at *
  rw [hrows] at hd
  cases hd with | @cons v0 vs1 _ _ hd0 hd1 =>
  have hd : DatAll olds (v0 :: vs1) ((Row.m p :: rows).map rowD) := .cons hd0 hd1
  have hd0' : DatIn olds v0 (.tuple [.str (Str.ofString "m"), .int p.1, .int p.2]) := hd0
  cases hd0' with | @tuple ar vr nr dr mr h9 =>
  obtain ⟨x1, x2, x3, rfl, h1, h2, h3⟩ := all3 h9
  obtain ⟨t1, rfl⟩ := str_of h1
  obtain ⟨t2, rfl⟩ := int_of h2
  obtain ⟨t3, rfl⟩ := int_of h3
  clear h1 h2 h3 h9
  have hx0 : (Value.ref ar :: vs1).toArray[Int.toNat 0]? = some (.ref ar) := rfl
  have hok := rowsD_ok (Row.m p :: rows)
  have hne : (Row.m p :: rows).map rowD ≠ [] := by simp
  have hrl : vs1.length = rows.length := by have := hd1.length; rwa [List.length_map] at this
  have bl : s.heap.get? al = some (listOf (Value.ref ar :: vs1).toArray nl) := hH _ ml
  k_dflt (refine' enterC (binds := [(Str.ofString "rows", .ref al), (Str.ofString "most", .int 1500 t0)]) ?k1 ?k2 ?k3 ?k5 ?kK ?k6 ?k7 ?k8 ?k9 ?kB ?_ ?c2 ?c3 ?c4 ?c5; walk_at "MY_ENTERB")
  k_steps
  refine Stop.mk ?_
  rename_i xo dd _ _ lxd _ _ _ _ _ _ _ _ lk _ lkk _ _ _ _ _ _ _ _ _ _ _ _ g1 L1 _ FG1 B1 X1 T1 H1 _ _ _ _ _ _ _ _ _ _ _ _ _ _ _ _ _ FF NN _
  obtain ⟨a1, a2, a3, a4, NK⟩ : ∃ a1 a2 a3 a4, News g1 L1 _ [(lk, listOf ([] : List Value).toArray 0), (xo, instObj 184 dd), (dd, pathD w a1 a2 a3 a4 t0 lk .none .none)] :=
    ⟨_, _, _, _, kst_newsOf NN fun q hq => by
      simp only [List.mem_cons, List.not_mem_nil, or_false] at hq
      rcases hq with rfl | rfl | rfl
      · walk_at "MY_MEM"
      · walk_at "MY_MEM"
      · walk_at "MY_MEM"⟩
  have bl1 : g1.get? al = some (listOf (Value.ref ar :: vs1).toArray nl) := H1 _ ml
  have hxk : @LT.lt Nat _ xo lk := lkk.1
  have hdx : @LT.lt Nat _ dd xo := lxd
  refine turn_list (σ := PS) (PS.led w a1 a2 a3 a4 t0 xo dd lk) (fun c => []) [Str.ofString "row"] (fun i c => c.good olds xo dd lk (Row.m p :: rows) i) ⟨[], 0, [], [], .none, .none⟩ rfl (FF.keep _ _ bl1) (ne_locals FF (FF.keep _ _ bl1)) FF NK ?_ ?_ ?_ ?_ ?_ ?_
  · exact fun q hq => nomatch hq
  · exact ⟨.nil, rfl, .inl ⟨rfl, rfl⟩, .inl ⟨rfl, rfl⟩, fun q hq => (nomatch hq), fun q hq => (nomatch hq)⟩
  · intro i c hg q hq
    simp only [PS.led, List.mem_cons] at hq
    rcases hq with rfl | rfl | rfl | hq
    · exact .inl (by simp)
    · exact .inl (by simp [instObj])
    · exact .inl (by simp [pathD, dictOf])
    · exact .inl (hg.cls q hq)
  · intro i c h m' hg F' N'
    exact F'.keep _ _ bl1
  · clear FF NN NK
    rintro i v ⟨fs, nf, Tl, out, b, pp⟩ u hh tk9 I oI hvi ⟨g1', g2, g3, g4, g5, g6⟩ hcI kF kN
    dsimp only [PS.led] at g1' g2 g3 g4 g5 g6 kF kN
    have hI1 : (@Ne Nat I lk) := ne_iter kN hcI
    have hI2 : (@Ne Nat I dd) := ne_cls (kN _ (List.Mem.head _)).1 (kN _ (List.Mem.tail _ (List.Mem.tail _ (List.Mem.tail _ (List.Mem.head _))))).1 (by rw [hcI]; simp [pathD, dictOf])
    have hI3 : (@Ne Nat I xo) := ne_cls (kN _ (List.Mem.head _)).1 (kN _ (List.Mem.tail _ (List.Mem.tail _ (List.Mem.head _)))).1 (by rw [hcI]; simp [instObj])
    have hTk : ∀ q ∈ Tl, (@Ne Nat q.1 lk) := fun q hq => (g5 q hq).1
    have hTd : ∀ q ∈ Tl, (@Ne Nat q.1 dd) := fun q hq => (g5 q hq).2
    rcases i with _ | i
    · obtain rfl : v = Value.ref ar := (Option.some.inj hvi).symm
      obtain rfl : out = [] := g2
      obtain rfl : fs = [] := by cases g1'; rfl
      obtain rfl : b = .none := by rcases g3 with h | h; exact h.2; exact absurd rfl h.1
      obtain rfl : pp = .none := by rcases g4 with h | h; exact h.2; exact absurd rfl h.1
      unfold pathD at kN
      (try k_fold)
      k_steps
      refine Stop.mk ?_
      rename_i tkr D3 _ e3 _ _ D2 _ e2 _ _ D1 _ e1 _ _ _ FL NL _ _
      refine turn_end ⟨[Value.ref D3], nf + 1, (D1, tupO [Value.int p.1 t2, Value.int p.2 t3] 0) :: (D2, tupO [Value.int p.1 t2, Value.int p.2 t3] 0) :: (D3, tupO [Value.str (Str.ofString "m") (tkr + 1), Value.int p.1 t2, Value.int p.2 t3] 0) :: Tl, [Row.m p], .ref D2, .ref D1⟩ FL NL ?_ ?_ ?_ ?_ ⟨?_, rfl, .inr ⟨Nat.succ_ne_zero _, D2, 0, Value.int p.1 t2, Value.int p.2 t3, rfl, ?_⟩, .inr ⟨Nat.succ_ne_zero _, D1, 0, Value.int p.1 t2, Value.int p.2 t3, rfl, ?_⟩, ?_, ?_⟩
      · walk_at "MY_MEM"
      · intro q hq
        simp only [PS.led, List.mem_cons] at hq ⊢
        rcases hq with h | h | h | h | h | h | h
        · exact .inr (.inr (.inr (.inr (.inr (.inl h)))))
        · exact .inr (.inr (.inr (.inr (.inr (.inr (.inl h))))))
        · exact .inr (.inr (.inr (.inr (.inr (.inr (.inr (.inl h)))))))
        · exact .inl h
        · exact .inr (.inl h)
        · exact .inr (.inr (.inl h))
        · exact .inr (.inr (.inr (.inr (.inr (.inr (.inr (.inr h)))))))
      · exact fun q hq => nomatch hq
      · intro z h2 h3
        have q3 : z ≠ Str.ofString "row" := stored_ne h3 _ (by decide)
        simp [kstB, q3]
      · exact .one (.tuple (List.Mem.tail _ (List.Mem.tail _ (List.Mem.head _))) (.cons (.str _ _) (.cons (.int _ _) (.cons (.int _ _) .nil))))
      · exact List.Mem.tail _ (List.Mem.head _)
      · exact List.Mem.head _
      · intro q hq
        simp only [List.mem_cons] at hq
        rcases hq with rfl | rfl | rfl | hq
        · exact ⟨Nat.ne_of_gt e1.2.2.2.2.1, Nat.ne_of_gt e1.2.2.2.2.2.2.1⟩
        · exact ⟨Nat.ne_of_gt e2.2.2.2.1, Nat.ne_of_gt e2.2.2.2.2.2.1⟩
        · exact ⟨Nat.ne_of_gt e3.2.2.1, Nat.ne_of_gt e3.2.2.2.2.1⟩
        · exact g5 q hq
      · intro q hq
        simp only [List.mem_cons] at hq
        rcases hq with rfl | rfl | rfl | hq
        · simp
        · simp
        · simp
        · exact g6 q hq
    · have hvi' : vs1[i]? = some v := hvi
      have hir : i < rows.length := by rw [← hrl]; exact (List.getElem?_eq_some_iff.mp hvi').1
      obtain ⟨v', hv', hd'⟩ := hd1.get (k := i) (by rw [List.length_map]; exact hir)
      have ev : v' = v := by rw [hvi'] at hv'; exact (Option.some.inj hv').symm
      subst ev
      rw [List.getElem_map] at hd'
      obtain ⟨ab, nb, xb, yb, rfl, mb⟩ : ∃ a n x y, b = .ref a ∧ (a, tupO [x, y] n) ∈ Tl := by
        rcases g3 with h | h
        · exact absurd h.1 (Nat.succ_ne_zero _)
        · exact h.2
      obtain ⟨ap, np, xp, yp, rfl, mp⟩ : ∃ a n x y, pp = .ref a ∧ (a, tupO [x, y] n) ∈ Tl := by
        rcases g4 with h | h
        · exact absurd h.1 (Nat.succ_ne_zero _)
        · exact h.2
      have hil : i < (Row.m p :: rows).length := by rw [List.length_cons]; omega
      have hlast : ∃ c x y, (c == Str.ofString "z") = false ∧ rowD (Row.m p :: rows)[i] = .tuple [.str c, .int x, .int y] := by
        rcases i with _ | j
        · exact ⟨_, _, _, by decide +kernel, rfl⟩
        · rcases hkind j (by omega) with ⟨q, hq⟩ | ⟨_, hq⟩
          · exact ⟨Str.ofString "l", q.1, q.2, by decide +kernel, by rw [List.getElem_cons_succ, hq]; rfl⟩
          · omega
      obtain ⟨c, cx, cy, hcz, hce⟩ := hlast
      have hout : out = (Row.m p :: rows).take i ++ [(Row.m p :: rows)[i]] := by rw [g2, List.take_add_one, List.getElem?_eq_getElem hil]; rfl
      have g1c := g1'
      rw [hout, List.map_append, List.map_singleton, hce] at g1c
      obtain ⟨fs0, vl, rfl, gl0, gl1⟩ := datAll_concat g1c
      cases gl1 with | @tuple al1 _ nl1 _ ml1 gl2 =>
      obtain ⟨y1, y2, y3, rfl, h1, h2, h3⟩ := all3 gl2
      obtain ⟨ty1, rfl⟩ := str_of h1
      obtain ⟨ty2, rfl⟩ := int_of h2
      obtain ⟨ty3, rfl⟩ := int_of h3
      clear h1 h2 h3 gl2 gl0 g1c hce
      have hfl : fs0.length ≤ 1301 := by
        have h1 := g1'.length
        have h3 := List.length_take_le i (Row.m p :: rows)
        have h4 : i ≤ 1301 := by omega
        rw [List.length_map, hout, List.length_append, List.length_append, List.length_singleton, List.length_singleton, List.length_take] at h1
        omega
      have hlen1 : (fs0 ++ [Value.ref al1]).length ≤ 1302 := by rw [List.length_append, List.length_singleton]; omega
      unfold pathD at kN
      rcases hkind i hir with ⟨q, hq⟩ | ⟨hz, hlast⟩
      · rw [hq] at hd'
        have hd2 : DatIn olds v' (.tuple [.str (Str.ofString "l"), .int q.1, .int q.2]) := hd'
        cases hd' with | @tuple av vr nr dr mr h9 =>
        obtain ⟨x1, x2, x3, rfl, h1, h2, h3⟩ := all3 h9
        obtain ⟨tv1, rfl⟩ := str_of h1
        obtain ⟨tv2, rfl⟩ := int_of h2
        obtain ⟨tv3, rfl⟩ := int_of h3
        clear h1 h2 h3 h9
        --LCASE
        (try k_fold)
        k_steps
        refine Stop.mk ?_
        rename_i FL NL _ _
        obtain ⟨D1, D2, tkr, NL2⟩ : ∃ D1 D2 tkr, News g1 L1 _ ((D1, tupO [Value.int q.1 tv2, Value.int q.2 tv3] 0) :: (D2, tupO [Value.str (Str.ofString "l") tkr, Value.int q.1 tv2, Value.int q.2 tv3] 0) :: (I, oI) :: (lk, listOf ((fs0 ++ [Value.ref al1]).toArray.push (.ref D2)) (nf + 1)) :: (xo, instObj 184 dd) :: (dd, pathD w a1 a2 a3 a4 t0 lk (.ref ab) (.ref D1)) :: Tl) := ⟨_, _, _, NL⟩
        have htk : (Row.m p :: rows).take (i + 1 + 1) = (Row.m p :: rows).take (i + 1) ++ [Row.l q] := by
          rw [List.take_add_one, List.getElem?_eq_getElem (by rw [List.length_cons]; omega), List.getElem_cons_succ, hq]
          rfl
        rw [List.push_toArray] at NL2
        have m1 := (NL2 _ (List.Mem.head _)).1
        have m2 := (NL2 _ (List.Mem.tail _ (List.Mem.head _))).1
        have m4 := (NL2 _ (List.Mem.tail _ (List.Mem.tail _ (List.Mem.tail _ (List.Mem.head _))))).1
        have m6 := (NL2 _ (List.Mem.tail _ (List.Mem.tail _ (List.Mem.tail _ (List.Mem.tail _ (List.Mem.tail _ (List.Mem.head _))))))).1
        refine turn_end ⟨(fs0 ++ [Value.ref al1]) ++ [Value.ref D2], nf + 1, (D1, tupO [Value.int q.1 tv2, Value.int q.2 tv3] 0) :: (D2, tupO [Value.str (Str.ofString "l") tkr, Value.int q.1 tv2, Value.int q.2 tv3] 0) :: Tl, out ++ [Row.l q], .ref ab, .ref D1⟩ FL NL2 ?_ ?_ ?_ ?_ ⟨?_, ?_, .inr ⟨Nat.succ_ne_zero _, ab, nb, xb, yb, rfl, ?_⟩, .inr ⟨Nat.succ_ne_zero _, D1, 0, Value.int q.1 tv2, Value.int q.2 tv3, rfl, ?_⟩, ?_, ?_⟩
        · walk_at "MY_MEM"
        · intro q hq
          simp only [PS.led, List.mem_cons] at hq ⊢
          rcases hq with h | h | h | h | h | h
          · exact .inr (.inr (.inr (.inl h)))
          · exact .inr (.inr (.inr (.inr (.inl h))))
          · exact .inr (.inr (.inr (.inr (.inr (.inl h)))))
          · exact .inl h
          · exact .inr (.inl h)
          · exact .inr (.inr (.inr (.inr (.inr (.inr h)))))
        · exact fun q hq => nomatch hq
        · intro z h2 h3
          have q3 : z ≠ Str.ofString "row" := stored_ne h3 _ (by decide)
          simp [kstB, q3]
        · show DatAll _ _ (List.map rowD (out ++ [_]))
          rw [List.map_append]
          exact (g1'.mono fun q hq => List.Mem.tail _ (List.Mem.tail _ hq)).append (.one (.tuple (List.Mem.tail _ (List.Mem.head _)) (.cons (.str _ _) (.cons (.int _ _) (.cons (.int _ _) .nil)))))
        · show out ++ _ = _
          rw [htk, g2]
        · exact List.Mem.tail _ (List.Mem.tail _ mb)
        · exact List.Mem.head _
        · intro q hq
          simp only [List.mem_cons] at hq
          rcases hq with rfl | rfl | hq
          · exact ⟨ne_cls m1 m4 (by simp), ne_cls m1 m6 (by simp [pathD, dictOf])⟩
          · exact ⟨ne_cls m2 m4 (by simp), ne_cls m2 m6 (by simp [pathD, dictOf])⟩
          · exact g5 q hq
        · intro q hq
          simp only [List.mem_cons] at hq
          rcases hq with rfl | rfl | hq
          · simp
          · simp
          · exact g6 q hq
      · rw [hz] at hd'
        have hd2 : DatIn olds v' (.tuple [.str (Str.ofString "z")]) := hd'
        cases hd' with | @tuple av vr nr dr mr h9 =>
        obtain ⟨x1, rfl, h1⟩ := all1 h9
        obtain ⟨tv1, rfl⟩ := str_of h1
        clear h1 h9
        (try k_fold)
        k_steps
        refine Stop.mk ?_
        rename_i FL NL _ _
        obtain ⟨D2, tkr, NL2⟩ : ∃ D2 tkr, News g1 L1 _ ((D2, tupO [Value.str (Str.ofString "z") tkr] 0) :: (I, oI) :: (lk, listOf ((fs0 ++ [Value.ref al1]).toArray.push (.ref D2)) (nf + 1)) :: (xo, instObj 184 dd) :: (dd, pathD w a1 a2 a3 a4 t0 lk (.ref ab) (.ref ab)) :: Tl) := ⟨_, _, NL⟩
        have htk : (Row.m p :: rows).take (i + 1 + 1) = (Row.m p :: rows).take (i + 1) ++ [Row.z] := by
          rw [List.take_add_one, List.getElem?_eq_getElem (by rw [List.length_cons]; omega), List.getElem_cons_succ, hz]
          rfl
        rw [List.push_toArray] at NL2
        have m2 := (NL2 _ (List.Mem.head _)).1
        have m4 := (NL2 _ (List.Mem.tail _ (List.Mem.tail _ (List.Mem.head _)))).1
        have m6 := (NL2 _ (List.Mem.tail _ (List.Mem.tail _ (List.Mem.tail _ (List.Mem.tail _ (List.Mem.head _)))))).1
        refine turn_end ⟨(fs0 ++ [Value.ref al1]) ++ [Value.ref D2], nf + 1, (D2, tupO [Value.str (Str.ofString "z") tkr] 0) :: Tl, out ++ [Row.z], .ref ab, .ref ab⟩ FL NL2 ?_ ?_ ?_ ?_ ⟨?_, ?_, .inr ⟨Nat.succ_ne_zero _, ab, nb, xb, yb, rfl, ?_⟩, .inr ⟨Nat.succ_ne_zero _, ab, nb, xb, yb, rfl, ?_⟩, ?_, ?_⟩
        · walk_at "MY_MEM"
        · intro q hq
          simp only [PS.led, List.mem_cons] at hq ⊢
          rcases hq with h | h | h | h | h
          · exact .inr (.inr (.inl h))
          · exact .inr (.inr (.inr (.inl h)))
          · exact .inr (.inr (.inr (.inr (.inl h))))
          · exact .inl h
          · exact .inr (.inr (.inr (.inr (.inr h))))
        · exact fun q hq => nomatch hq
        · intro z h2 h3
          have q3 : z ≠ Str.ofString "row" := stored_ne h3 _ (by decide)
          simp [kstB, q3]
        · show DatAll _ _ (List.map rowD (out ++ [_]))
          rw [List.map_append]
          exact (g1'.mono fun q hq => List.Mem.tail _ hq).append (.one (.tuple (List.Mem.head _) (.cons (.str _ _) .nil)))
        · show out ++ _ = _
          rw [htk, g2]
        · exact List.Mem.tail _ mb
        · exact List.Mem.tail _ mb
        · intro q hq
          simp only [List.mem_cons] at hq
          rcases hq with rfl | hq
          · exact ⟨ne_cls m2 m4 (by simp), ne_cls m2 m6 (by simp [pathD, dictOf])⟩
          · exact g5 q hq
        · intro q hq
          simp only [List.mem_cons] at hq
          rcases hq with rfl | hq
          · simp
          · exact g6 q hq
  · rintro ⟨fs, nf, Tl, out, b, pp⟩ u hh tk9 ⟨g1', g2, g3, g4, g5, g6⟩ kF kN
    dsimp only [PS.led] at g1' g2 g3 g4 g5 g6 kF kN
    clear FF NN NK
    (try k_fold)
    k_steps
    (try dsimp only); (try k_unfold); (try dsimp only)
    refine con_end hret (by assumption) (by assumption) ⟨xo, dd, lk, a1, a2, a3, a4, t0, b, pp, fs, nf, rfl, ?_, ?_, ?_, ?_⟩
    · walk_at "MY_MEM"
    · walk_at "MY_MEM"
    · walk_at "MY_MEM"
    · have ho : out = pathRows p ls cz := by
        rw [g2, hrows, List.take_of_length_le (by rw [List.length_cons, List.length_cons, hrl]; exact Nat.le_refl _)]
      rw [← ho]
      exact g1'.mono fun q hq => (List.mem_append.mp hq).elim (fun h => List.mem_append.mpr (.inl (List.Mem.tail _ (List.Mem.tail _ (List.Mem.tail _ h))))) fun h => List.mem_append.mpr (.inr h)
end
section
/-! the plain mathematics: no program in sight -/
theorem fd2 (x : Int) : Int.fdiv x 2 = x / 2 := Int.fdiv_eq_ediv_of_nonneg _ (by decide)
theorem sq2 (x : Int) : x ^ Int.toNat 2 = x * x := by show x ^ 2 = _; rw [Int.pow_succ, Int.pow_succ, Int.pow_zero, Int.one_mul]
theorem sq_nonneg (x : Int) : 0 ≤ x * x := by
  rcases Int.le_total 0 x with h | h
  · exact Int.mul_nonneg h h
  · exact Int.mul_nonneg_of_nonpos_of_nonpos h h
theorem sq_le {x m : Int} (h1 : -m ≤ x) (h2 : x ≤ m) : x * x ≤ m * m := by
  have h : 0 ≤ (m - x) * (m + x) := Int.mul_nonneg (by omega) (by omega)
  have e : (m - x) * (m + x) = m * m - x * x := by grind
  omega
theorem le_of_mul_sq {d x y : Int} (hd : 0 < d) (h : d * d * x ≤ d * d * y) : x ≤ y := Int.le_of_mul_le_mul_left h (Int.mul_pos hd hd)
/-- a point of the stretch that is near makes it near -/
theorem near_core {p1 p2 e1 e2 n d R : Int} (hd : 0 < d) (hn : 0 ≤ n) (hnd : n ≤ d) (h : (d * p1 - n * e1) * (d * p1 - n * e1) + (d * p2 - n * e2) * (d * p2 - n * e2) ≤ d * d * (R * R)) :
    (e1 * e1 + e2 * e2 = 0 ∨ p1 * e1 + p2 * e2 ≤ 0 → p1 * p1 + p2 * p2 ≤ R * R) ∧
    (p1 * e1 + p2 * e2 ≥ e1 * e1 + e2 * e2 → (p1 - e1) * (p1 - e1) + (p2 - e2) * (p2 - e2) ≤ R * R) ∧
    (0 < e1 * e1 + e2 * e2 → (p1 * e2 - p2 * e1) * (p1 * e2 - p2 * e1) ≤ R * R * (e1 * e1 + e2 * e2)) := by
  have i1 : (d * p1 - n * e1) * (d * p1 - n * e1) + (d * p2 - n * e2) * (d * p2 - n * e2) = d * d * (p1 * p1 + p2 * p2) - 2 * (d * n * (p1 * e1 + p2 * e2)) + n * n * (e1 * e1 + e2 * e2) := by grind
  have i2 : (d * p1 - n * e1) * (d * p1 - n * e1) + (d * p2 - n * e2) * (d * p2 - n * e2) = d * d * ((p1 - e1) * (p1 - e1) + (p2 - e2) * (p2 - e2)) + 2 * (d * (d - n) * (p1 * e1 + p2 * e2 - (e1 * e1 + e2 * e2))) + (d - n) * (d - n) * (e1 * e1 + e2 * e2) := by grind
  have i3 : d * d * ((p1 * e2 - p2 * e1) * (p1 * e2 - p2 * e1)) = ((d * p1 - n * e1) * (d * p1 - n * e1) + (d * p2 - n * e2) * (d * p2 - n * e2)) * (e1 * e1 + e2 * e2) - ((d * p1 - n * e1) * e1 + (d * p2 - n * e2) * e2) * ((d * p1 - n * e1) * e1 + (d * p2 - n * e2) * e2) := by grind
  have q1 := sq_nonneg e1
  have q2 := sq_nonneg e2
  refine ⟨fun hc => ?_, fun hc => ?_, fun hc => ?_⟩
  · refine le_of_mul_sq hd ?_
    have h1 : d * n * (p1 * e1 + p2 * e2) ≤ 0 := by
      refine Int.mul_nonpos_of_nonneg_of_nonpos (Int.mul_nonneg (by omega) hn) ?_
      rcases hc with hc | hc
      · have z1 : e1 = 0 := by
          have : e1 * e1 = 0 := by omega
          exact (Int.mul_eq_zero.mp this).elim id id
        have z2 : e2 = 0 := by
          have : e2 * e2 = 0 := by omega
          exact (Int.mul_eq_zero.mp this).elim id id
        rw [z1, z2]; omega
      · exact hc
    have h2 : 0 ≤ n * n * (e1 * e1 + e2 * e2) := Int.mul_nonneg (sq_nonneg n) (by omega)
    omega
  · refine le_of_mul_sq hd ?_
    have h1 : 0 ≤ d * (d - n) * (p1 * e1 + p2 * e2 - (e1 * e1 + e2 * e2)) := Int.mul_nonneg (Int.mul_nonneg (by omega) (by omega)) (by omega)
    have h2 : 0 ≤ (d - n) * (d - n) * (e1 * e1 + e2 * e2) := Int.mul_nonneg (sq_nonneg _) (by omega)
    omega
  · refine le_of_mul_sq hd ?_
    have h1 := Int.mul_le_mul_of_nonneg_right h (show (0 : Int) ≤ e1 * e1 + e2 * e2 by omega)
    have h2 := sq_nonneg ((d * p1 - n * e1) * e1 + (d * p2 - n * e2) * e2)
    have h3 : d * d * (R * R) * (e1 * e1 + e2 * e2) = d * d * (R * R * (e1 * e1 + e2 * e2)) := by grind
    omega
theorem near_ok {p b e : Pt} {most times : Int} (n d : Int) (hd : 0 < d) (hn : 0 ≤ n) (hnd : n ≤ d)
    (h : (d * (p.1 - times * b.1) - n * (times * (e.1 - b.1))) * (d * (p.1 - times * b.1) - n * (times * (e.1 - b.1))) + (d * (p.2 - times * b.2) - n * (times * (e.2 - b.2))) * (d * (p.2 - times * b.2) - n * (times * (e.2 - b.2))) ≤ d * d * ((times * most) * (times * most))) : isNear p b e most times = true := by
  obtain ⟨h1, h2, h3⟩ := near_core hd hn hnd h
  have q1 := sq_nonneg (times * (e.1 - b.1))
  have q2 := sq_nonneg (times * (e.2 - b.2))
  unfold isNear
  simp only [sq2]
  split
  · rename_i hc; exact decide_eq_true (h1 hc)
  · split
    · rename_i hc; exact decide_eq_true (h2 hc)
    · exact decide_eq_true (h3 (by omega))
theorem pow2n (x : Int) : x ^ 2 = x * x := by rw [Int.pow_succ, Int.pow_succ, Int.pow_zero, Int.one_mul]
theorem toNat2 : Int.toNat 2 = 2 := rfl
theorem toNat3 : Int.toNat 3 = 3 := rfl
/-- the sum of two short ways is short -/
theorem minkowski {x1 x2 y1 y2 M N : Int} (hM : 0 ≤ M) (hN : 0 ≤ N) (hx : x1 * x1 + x2 * x2 ≤ M * M) (hy : y1 * y1 + y2 * y2 ≤ N * N) : (x1 + y1) * (x1 + y1) + (x2 + y2) * (x2 + y2) ≤ (M + N) * (M + N) := by
  have key : x1 * y1 + x2 * y2 ≤ M * N := by
    rcases Int.lt_or_eq_of_le hM with hM | hM
    · rcases Int.lt_or_eq_of_le hN with hN | hN
      · have a1 := sq_nonneg (N * x1 - M * y1)
        have a2 := sq_nonneg (N * x2 - M * y2)
        have a3 := Int.mul_le_mul_of_nonneg_left hx (sq_nonneg N)
        have a4 := Int.mul_le_mul_of_nonneg_left hy (sq_nonneg M)
        have e : (N * x1 - M * y1) * (N * x1 - M * y1) + (N * x2 - M * y2) * (N * x2 - M * y2) = N * N * (x1 * x1 + x2 * x2) + M * M * (y1 * y1 + y2 * y2) - 2 * (M * N * (x1 * y1 + x2 * y2)) := by grind
        have e2 : N * N * (M * M) = M * N * (M * N) := by grind
        have e3 : M * M * (N * N) = M * N * (M * N) := by grind
        exact Int.le_of_mul_le_mul_left (by omega) (Int.mul_pos hM hN)
      · subst hN
        have s1 := sq_nonneg y1
        have s2 := sq_nonneg y2
        have z1 : y1 = 0 := by
          have : y1 * y1 = 0 := by omega
          exact (Int.mul_eq_zero.mp this).elim id id
        have z2 : y2 = 0 := by
          have : y2 * y2 = 0 := by omega
          exact (Int.mul_eq_zero.mp this).elim id id
        subst z1 z2
        simp
    · subst hM
      have s1 := sq_nonneg x1
      have s2 := sq_nonneg x2
      have z1 : x1 = 0 := by
        have : x1 * x1 = 0 := by omega
        exact (Int.mul_eq_zero.mp this).elim id id
      have z2 : x2 = 0 := by
        have : x2 * x2 = 0 := by omega
        exact (Int.mul_eq_zero.mp this).elim id id
      subst z1 z2
      simp
  have e : (x1 + y1) * (x1 + y1) + (x2 + y2) * (x2 + y2) = x1 * x1 + x2 * x2 + 2 * (x1 * y1 + x2 * y2) + (y1 * y1 + y2 * y2) := by grind
  have e2 : (M + N) * (M + N) = M * M + 2 * (M * N) + N * N := by grind
  omega

/-- second differences of one axis are so small -/
def SD (B a b c d : Int) : Prop := -B ≤ a - 2 * b + c ∧ a - 2 * b + c ≤ B ∧ -B ≤ b - 2 * c + d ∧ b - 2 * c + d ≤ B
def SQ (Bx By : Int) (q : Quad) : Prop := SD Bx q.1.1 q.2.1.1 q.2.2.1.1 q.2.2.2.1 ∧ SD By q.1.2 q.2.1.2 q.2.2.1.2 q.2.2.2.2
abbrev hv (x y : Int) : Int := Int.fdiv (x + y) 2
theorem SD.half1 {B a b c d : Int} (h : SD B a b c d) : SD ((B + 4) / 4) a (hv a b) (hv (hv a b) (hv b c)) (hv (hv (hv a b) (hv b c)) (hv (hv b c) (hv c d))) := by
  unfold SD at *
  simp only [hv, fd2]
  omega
theorem SD.half2 {B a b c d : Int} (h : SD B a b c d) : SD ((B + 4) / 4) (hv (hv (hv a b) (hv b c)) (hv (hv b c) (hv c d))) (hv (hv b c) (hv c d)) (hv c d) d := by
  unfold SD at *
  simp only [hv, fd2]
  omega
theorem SQ.half1 {Bx By : Int} {q : Quad} (h : SQ Bx By q) : SQ ((Bx + 4) / 4) ((By + 4) / 4) (half1 q) := ⟨h.1.half1, h.2.half1⟩
theorem SQ.half2 {Bx By : Int} {q : Quad} (h : SQ Bx By q) : SQ ((Bx + 4) / 4) ((By + 4) / 4) (half2 q) := ⟨h.1.half2, h.2.half2⟩
theorem far_SD {B a b c d : Int} (h : SD B a b c d) : 0 ≤ farOf a b c d ∧ farOf a b c d ≤ 3 * B := by
  unfold SD at h
  unfold farOf imax iabs
  split <;> split <;> split <;> omega
theorem flat_iff {q : Quad} {f : Int} : isFlat q f = true ↔ farOf q.1.1 q.2.1.1 q.2.2.1.1 q.2.2.2.1 * farOf q.1.1 q.2.1.1 q.2.2.1.1 q.2.2.2.1 + farOf q.1.2 q.2.1.2 q.2.2.1.2 q.2.2.2.2 * farOf q.1.2 q.2.1.2 q.2.2.1.2 q.2.2.2.2 ≤ 16 * (f * f) := by
  unfold isFlat
  rw [decide_eq_true_iff]
  simp only [sq2]
  omega
theorem flat_SQ {Bx By f : Int} {q : Quad} (h : SQ Bx By q) (hf : 3 * Bx * (3 * Bx) + 3 * By * (3 * By) ≤ 16 * (f * f)) : isFlat q f = true := by
  rw [flat_iff]
  have h1 := far_SD h.1
  have h2 := far_SD h.2
  have a1 := sq_le (x := farOf q.1.1 q.2.1.1 q.2.2.1.1 q.2.2.2.1) (m := 3 * Bx) (by omega) (by omega)
  have a2 := sq_le (x := farOf q.1.2 q.2.1.2 q.2.2.1.2 q.2.2.2.2) (m := 3 * By) (by omega) (by omega)
  omega
/-- so many halvings do -/
def deep (f : Int) : Nat → Quad → Prop
  | 0, q => isFlat q f = true
  | n + 1, q => isFlat q f = true ∨ (deep f n (half1 q) ∧ deep f n (half2 q))
def sdAt (B : Int) : Nat → Int
  | 0 => B
  | n + 1 => sdAt ((B + 4) / 4) n
theorem deep_SQ (f : Int) : ∀ (n : Nat) (Bx By : Int) (q : Quad), SQ Bx By q → 3 * sdAt Bx n * (3 * sdAt Bx n) + 3 * sdAt By n * (3 * sdAt By n) ≤ 16 * (f * f) → deep f n q
  | 0, _, _, _, h, hf => flat_SQ h hf
  | n + 1, _, _, _, h, hf => .inr ⟨deep_SQ f n _ _ _ h.half1 hf, deep_SQ f n _ _ _ h.half2 hf⟩
theorem ends_deep (f : Int) : ∀ (n N : Nat) (q : Quad), deep f n q → (ends f N q).length ≤ 2 ^ n
  | _, 0, _, _ => by simp only [ends, List.length_singleton]; exact Nat.one_le_two_pow
  | 0, N + 1, q, h => by rw [ends_flat h]; simp
  | n + 1, N + 1, q, h => by
    rw [ends]
    split
    · simp only [List.length_singleton]; exact Nat.one_le_two_pow
    · rename_i hf
      rcases h with h | ⟨h1, h2⟩
      · exact absurd h hf
      · have a := ends_deep f n N _ h1
        have b := ends_deep f n N _ h2
        rw [List.length_append, Nat.pow_succ]
        omega
theorem ends_last (f : Int) : ∀ (n : Nat) (q : Quad), ∃ l, ends f n q = l ++ [q.2.2.2]
  | 0, q => ⟨[], rfl⟩
  | n + 1, q => by
    rw [ends]
    split
    · exact ⟨[], rfl⟩
    · obtain ⟨l, e⟩ := ends_last f n (half2 q)
      exact ⟨ends f n (half1 q) ++ l, by rw [e, List.append_assoc]; rfl⟩
/-- a coordinate between two -/
def Btw (lo hi : Int) (x : Int) : Prop := lo ≤ x ∧ x ≤ hi
theorem Btw.hv {lo hi x y : Int} (h : Btw lo hi x) (k : Btw lo hi y) : Btw lo hi (hv x y) := by
  unfold Btw at *
  simp only [Mine.hv, fd2]
  omega
theorem ends_box (f : Int) {lx hx ly hy : Int} : ∀ (n : Nat) (q : Quad), (Btw lx hx q.1.1 ∧ Btw lx hx q.2.1.1 ∧ Btw lx hx q.2.2.1.1 ∧ Btw lx hx q.2.2.2.1) → (Btw ly hy q.1.2 ∧ Btw ly hy q.2.1.2 ∧ Btw ly hy q.2.2.1.2 ∧ Btw ly hy q.2.2.2.2) →
    ∀ e ∈ ends f n q, Btw lx hx e.1 ∧ Btw ly hy e.2
  | 0, q, h1, h2, e, he => by rw [ends, List.mem_singleton] at he; rw [he]; exact ⟨h1.2.2.2, h2.2.2.2⟩
  | n + 1, q, ⟨a1, a2, a3, a4⟩, ⟨b1, b2, b3, b4⟩, e, he => by
    rw [ends] at he
    split at he
    · rw [List.mem_singleton] at he; rw [he]; exact ⟨a4, b4⟩
    · rcases List.mem_append.mp he with he | he
      · exact ends_box f n (half1 q) ⟨a1, a1.hv a2, (a1.hv a2).hv (a2.hv a3), ((a1.hv a2).hv (a2.hv a3)).hv ((a2.hv a3).hv (a3.hv a4))⟩ ⟨b1, b1.hv b2, (b1.hv b2).hv (b2.hv b3), ((b1.hv b2).hv (b2.hv b3)).hv ((b2.hv b3).hv (b3.hv b4))⟩ e he
      · exact ends_box f n (half2 q) ⟨((a1.hv a2).hv (a2.hv a3)).hv ((a2.hv a3).hv (a3.hv a4)), (a2.hv a3).hv (a3.hv a4), a3.hv a4, a4⟩ ⟨((b1.hv b2).hv (b2.hv b3)).hv ((b2.hv b3).hv (b3.hv b4)), (b2.hv b3).hv (b3.hv b4), b3.hv b4, b4⟩ e he
theorem cv7 (a b c d : Int) : cv a b c d 0 7 = 343 * a ∧ cv a b c d 1 7 = 216 * a + 108 * b + 18 * c + d ∧ cv a b c d 2 7 = 125 * a + 150 * b + 60 * c + 8 * d ∧ cv a b c d 3 7 = 64 * a + 144 * b + 108 * c + 27 * d ∧ cv a b c d 4 7 = 27 * a + 108 * b + 144 * c + 64 * d ∧ cv a b c d 5 7 = 8 * a + 60 * b + 150 * c + 125 * d ∧ cv a b c d 6 7 = a + 18 * b + 108 * c + 216 * d ∧ cv a b c d 7 7 = 343 * d := by
  simp [cv, toNat2, toNat3]
  omega
theorem step7 (a b c d k : Int) (h0 : 0 ≤ k) (h7 : k ≤ 7) :
    (2 * k ≤ 7 → 0 ≤ cv a b c d k 7 - cv a (hv a b) (hv (hv a b) (hv b c)) (hv (hv (hv a b) (hv b c)) (hv (hv b c) (hv c d))) (2 * k) 7 ∧ cv a b c d k 7 - cv a (hv a b) (hv (hv a b) (hv b c)) (hv (hv (hv a b) (hv b c)) (hv (hv b c) (hv c d))) (2 * k) 7 ≤ 147 * k) ∧
    (7 < 2 * k → 0 ≤ cv a b c d k 7 - cv (hv (hv (hv a b) (hv b c)) (hv (hv b c) (hv c d))) (hv (hv b c) (hv c d)) (hv c d) d (2 * k - 7) 7 ∧ cv a b c d k 7 - cv (hv (hv (hv a b) (hv b c)) (hv (hv b c) (hv c d))) (hv (hv b c) (hv c d)) (hv c d) d (2 * k - 7) 7 ≤ 147 * (7 - k)) := by
  have hk : k = 0 ∨ k = 1 ∨ k = 2 ∨ k = 3 ∨ k = 4 ∨ k = 5 ∨ k = 6 ∨ k = 7 := by omega
  simp only [hv, fd2]
  refine ⟨fun h => ?_, fun h => ?_⟩
  · rcases hk with rfl | rfl | rfl | rfl | rfl | rfl | rfl | rfl <;> (try omega) <;> simp only [Int.reduceMul, cv7] <;> omega
  · rcases hk with rfl | rfl | rfl | rfl | rfl | rfl | rfl | rfl <;> (try omega) <;> simp only [Int.reduceMul, Int.reduceSub, cv7] <;> omega
abbrev mn7 (k : Int) : Int := if 2 * k ≤ 7 then k else 7 - k
structure Err7 (n : Nat) (q r : Quad) (k k' : Int) : Prop where
  x0 : 0 ≤ cv q.1.1 q.2.1.1 q.2.2.1.1 q.2.2.2.1 k 7 - cv r.1.1 r.2.1.1 r.2.2.1.1 r.2.2.2.1 k' 7
  x1 : cv q.1.1 q.2.1.1 q.2.2.1.1 q.2.2.2.1 k 7 - cv r.1.1 r.2.1.1 r.2.2.1.1 r.2.2.2.1 k' 7 ≤ 343 * (n : Int) + 49 * mn7 k
  y0 : 0 ≤ cv q.1.2 q.2.1.2 q.2.2.1.2 q.2.2.2.2 k 7 - cv r.1.2 r.2.1.2 r.2.2.1.2 r.2.2.2.2 k' 7
  y1 : cv q.1.2 q.2.1.2 q.2.2.1.2 q.2.2.2.2 k 7 - cv r.1.2 r.2.1.2 r.2.2.1.2 r.2.2.2.2 k' 7 ≤ 343 * (n : Int) + 49 * mn7 k
/-- where the piece lies that a place of the curve falls on -/
theorem piece7 (f : Int) : ∀ (n N : Nat) (q : Quad) (k : Int), n ≤ N → deep f n q → 0 ≤ k → k ≤ 7 →
    ∃ (r : Quad) (k' : Int) (l1 l2 : List Pt), q.1 :: ends f N q = l1 ++ r.1 :: r.2.2.2 :: l2 ∧ isFlat r f = true ∧ 0 ≤ k' ∧ k' ≤ 7 ∧ Err7 n q r k k' := by
  have base : ∀ (n N : Nat) (q : Quad) (k : Int), isFlat q f = true → 0 ≤ k → k ≤ 7 → ∃ (r : Quad) (k' : Int) (l1 l2 : List Pt), q.1 :: ends f N q = l1 ++ r.1 :: r.2.2.2 :: l2 ∧ isFlat r f = true ∧ 0 ≤ k' ∧ k' ≤ 7 ∧ Err7 n q r k k' := by
    intro n N q k hf h0 h7
    refine ⟨q, k, [], [], by rw [ends_flat hf]; rfl, hf, h0, h7, ?_⟩
    have : 0 ≤ mn7 k := by unfold mn7; split <;> omega
    constructor <;> omega
  intro n
  induction n with
  | zero => intro N q k _ hd h0 h7; exact base 0 N q k hd h0 h7
  | succ n ih =>
    intro N q k hN hd h0 h7
    obtain ⟨M, rfl⟩ : ∃ M, N = M + 1 := ⟨N - 1, by omega⟩
    by_cases hf : isFlat q f = true
    · exact base (n + 1) (M + 1) q k hf h0 h7
    · rcases hd with hd | ⟨hd1, hd2⟩
      · exact absurd hd hf
      · have hf' : isFlat q f = false := by simpa using hf
        rw [ends_halves hf']
        have sx := step7 q.1.1 q.2.1.1 q.2.2.1.1 q.2.2.2.1 k h0 h7
        have sy := step7 q.1.2 q.2.1.2 q.2.2.1.2 q.2.2.2.2 k h0 h7
        by_cases hk : 2 * k ≤ 7
        · obtain ⟨r, k', l1, l2, e, hr, hk0, hk7, hE⟩ := ih M (half1 q) (2 * k) (by omega) hd1 (by omega) (by omega)
          refine ⟨r, k', l1, l2 ++ ends f M (half2 q), ?_, hr, hk0, hk7, ?_⟩
          · rw [show q.1 :: (ends f M (half1 q) ++ ends f M (half2 q)) = ((half1 q).1 :: ends f M (half1 q)) ++ ends f M (half2 q) from rfl, e]
            simp
          · have sx1 := sx.1 hk
            have sy1 := sy.1 hk
            have hx0 : 0 ≤ cv q.1.1 (hv q.1.1 q.2.1.1) (hv (hv q.1.1 q.2.1.1) (hv q.2.1.1 q.2.2.1.1)) (hv (hv (hv q.1.1 q.2.1.1) (hv q.2.1.1 q.2.2.1.1)) (hv (hv q.2.1.1 q.2.2.1.1) (hv q.2.2.1.1 q.2.2.2.1))) (2 * k) 7 - cv r.1.1 r.2.1.1 r.2.2.1.1 r.2.2.2.1 k' 7 := hE.x0
            have hx1 : cv q.1.1 (hv q.1.1 q.2.1.1) (hv (hv q.1.1 q.2.1.1) (hv q.2.1.1 q.2.2.1.1)) (hv (hv (hv q.1.1 q.2.1.1) (hv q.2.1.1 q.2.2.1.1)) (hv (hv q.2.1.1 q.2.2.1.1) (hv q.2.2.1.1 q.2.2.2.1))) (2 * k) 7 - cv r.1.1 r.2.1.1 r.2.2.1.1 r.2.2.2.1 k' 7 ≤ 343 * (n : Int) + 49 * mn7 (2 * k) := hE.x1
            have hy0 : 0 ≤ cv q.1.2 (hv q.1.2 q.2.1.2) (hv (hv q.1.2 q.2.1.2) (hv q.2.1.2 q.2.2.1.2)) (hv (hv (hv q.1.2 q.2.1.2) (hv q.2.1.2 q.2.2.1.2)) (hv (hv q.2.1.2 q.2.2.1.2) (hv q.2.2.1.2 q.2.2.2.2))) (2 * k) 7 - cv r.1.2 r.2.1.2 r.2.2.1.2 r.2.2.2.2 k' 7 := hE.y0
            have hy1 : cv q.1.2 (hv q.1.2 q.2.1.2) (hv (hv q.1.2 q.2.1.2) (hv q.2.1.2 q.2.2.1.2)) (hv (hv (hv q.1.2 q.2.1.2) (hv q.2.1.2 q.2.2.1.2)) (hv (hv q.2.1.2 q.2.2.1.2) (hv q.2.2.1.2 q.2.2.2.2))) (2 * k) 7 - cv r.1.2 r.2.1.2 r.2.2.1.2 r.2.2.2.2 k' 7 ≤ 343 * (n : Int) + 49 * mn7 (2 * k) := hE.y1
            have hm : 147 * k + 49 * mn7 (2 * k) ≤ 343 + 49 * mn7 k := by unfold mn7; rw [if_pos hk]; split <;> omega
            constructor <;> omega
        · obtain ⟨r, k', l1, l2, e, hr, hk0, hk7, hE⟩ := ih M (half2 q) (2 * k - 7) (by omega) hd2 (by omega) (by omega)
          obtain ⟨l, hl⟩ := ends_last f M (half1 q)
          refine ⟨r, k', q.1 :: (l ++ l1), l2, ?_, hr, hk0, hk7, ?_⟩
          · rw [hl, List.append_assoc, show [(half1 q).2.2.2] ++ ends f M (half2 q) = (half2 q).1 :: ends f M (half2 q) from rfl, e]
            simp
          · have sx1 := sx.2 (by omega)
            have sy1 := sy.2 (by omega)
            have hx0 : 0 ≤ cv (hv (hv (hv q.1.1 q.2.1.1) (hv q.2.1.1 q.2.2.1.1)) (hv (hv q.2.1.1 q.2.2.1.1) (hv q.2.2.1.1 q.2.2.2.1))) (hv (hv q.2.1.1 q.2.2.1.1) (hv q.2.2.1.1 q.2.2.2.1)) (hv q.2.2.1.1 q.2.2.2.1) q.2.2.2.1 (2 * k - 7) 7 - cv r.1.1 r.2.1.1 r.2.2.1.1 r.2.2.2.1 k' 7 := hE.x0
            have hx1 : cv (hv (hv (hv q.1.1 q.2.1.1) (hv q.2.1.1 q.2.2.1.1)) (hv (hv q.2.1.1 q.2.2.1.1) (hv q.2.2.1.1 q.2.2.2.1))) (hv (hv q.2.1.1 q.2.2.1.1) (hv q.2.2.1.1 q.2.2.2.1)) (hv q.2.2.1.1 q.2.2.2.1) q.2.2.2.1 (2 * k - 7) 7 - cv r.1.1 r.2.1.1 r.2.2.1.1 r.2.2.2.1 k' 7 ≤ 343 * (n : Int) + 49 * mn7 (2 * k - 7) := hE.x1
            have hy0 : 0 ≤ cv (hv (hv (hv q.1.2 q.2.1.2) (hv q.2.1.2 q.2.2.1.2)) (hv (hv q.2.1.2 q.2.2.1.2) (hv q.2.2.1.2 q.2.2.2.2))) (hv (hv q.2.1.2 q.2.2.1.2) (hv q.2.2.1.2 q.2.2.2.2)) (hv q.2.2.1.2 q.2.2.2.2) q.2.2.2.2 (2 * k - 7) 7 - cv r.1.2 r.2.1.2 r.2.2.1.2 r.2.2.2.2 k' 7 := hE.y0
            have hy1 : cv (hv (hv (hv q.1.2 q.2.1.2) (hv q.2.1.2 q.2.2.1.2)) (hv (hv q.2.1.2 q.2.2.1.2) (hv q.2.2.1.2 q.2.2.2.2))) (hv (hv q.2.1.2 q.2.2.1.2) (hv q.2.2.1.2 q.2.2.2.2)) (hv q.2.2.1.2 q.2.2.2.2) q.2.2.2.2 (2 * k - 7) 7 - cv r.1.2 r.2.1.2 r.2.2.1.2 r.2.2.2.2 k' 7 ≤ 343 * (n : Int) + 49 * mn7 (2 * k - 7) := hE.y1
            have hm : 147 * (7 - k) + 49 * mn7 (2 * k - 7) ≤ 343 + 49 * mn7 k := by unfold mn7; rw [if_neg hk]; split <;> omega
            constructor <;> omega
/-- on a flat piece the curve keeps so near to the chord -/
theorem chord7 {a b c d k B : Int} (h0 : 0 ≤ k) (h7 : k ≤ 7) (hB : farOf a b c d ≤ B) : -(588 * B) ≤ 7 * (cv a b c d k 7 - 343 * a) - k * (343 * (d - a)) ∧ 7 * (cv a b c d k 7 - 343 * a) - k * (343 * (d - a)) ≤ 588 * B := by
  have hx : -B ≤ 3 * b - 2 * a - d ∧ 3 * b - 2 * a - d ≤ B ∧ -B ≤ 3 * c - 2 * d - a ∧ 3 * c - 2 * d - a ≤ B := by
    unfold farOf imax iabs at hB
    split at hB <;> split at hB <;> split at hB <;> omega
  have hk : k = 0 ∨ k = 1 ∨ k = 2 ∨ k = 3 ∨ k = 4 ∨ k = 5 ∨ k = 6 ∨ k = 7 := by omega
  rcases hk with rfl | rfl | rfl | rfl | rfl | rfl | rfl | rfl <;> simp only [cv7] <;> omega
theorem near7 {f : Int} {q r : Quad} {k k' : Int} (hf : 0 ≤ f) (hr : isFlat r f = true) (h0 : 0 ≤ k') (h7 : k' ≤ 7) (hE : Err7 5 q r k k') (hk : 0 ≤ k ∧ k ≤ 7) :
    isNear (cv q.1.1 q.2.1.1 q.2.2.1.1 q.2.2.2.1 k 7, cv q.1.2 q.2.1.2 q.2.2.1.2 q.2.2.2.2 k 7) r.1 r.2.2.2 (f + 9) 343 = true := by
  obtain ⟨x0, x1, y0, y1⟩ := hE
  have hm : mn7 k ≤ 3 := by unfold mn7; split <;> omega
  generalize cv q.1.1 q.2.1.1 q.2.2.1.1 q.2.2.2.1 k 7 = X at *
  generalize cv q.1.2 q.2.1.2 q.2.2.1.2 q.2.2.2.2 k 7 = Y at *
  rw [flat_iff] at hr
  have cx := chord7 (a := r.1.1) (b := r.2.1.1) (c := r.2.2.1.1) (d := r.2.2.2.1) h0 h7 (Int.le_refl _)
  have cy := chord7 (a := r.1.2) (b := r.2.1.2) (c := r.2.2.1.2) (d := r.2.2.2.2) h0 h7 (Int.le_refl _)
  generalize cv r.1.1 r.2.1.1 r.2.2.1.1 r.2.2.2.1 k' 7 = U at *
  generalize cv r.1.2 r.2.1.2 r.2.2.1.2 r.2.2.2.2 k' 7 = V at *
  generalize farOf r.1.1 r.2.1.1 r.2.2.1.1 r.2.2.2.1 = A at *
  generalize farOf r.1.2 r.2.1.2 r.2.2.1.2 r.2.2.2.2 = B at *
  refine near_ok k' 7 (by decide) h0 h7 ?_
  dsimp only
  have e1 : 7 * (X - 343 * r.1.1) - k' * (343 * (r.2.2.2.1 - r.1.1)) = (7 * (U - 343 * r.1.1) - k' * (343 * (r.2.2.2.1 - r.1.1))) + 7 * (X - U) := by omega
  have e2 : 7 * (Y - 343 * r.1.2) - k' * (343 * (r.2.2.2.2 - r.1.2)) = (7 * (V - 343 * r.1.2) - k' * (343 * (r.2.2.2.2 - r.1.2))) + 7 * (Y - V) := by omega
  rw [e1, e2]
  generalize 7 * (U - 343 * r.1.1) - k' * (343 * (r.2.2.2.1 - r.1.1)) = D1 at *
  generalize 7 * (V - 343 * r.1.2) - k' * (343 * (r.2.2.2.2 - r.1.2)) = D2 at *
  have s1 := sq_le cx.1 cx.2
  have s2 := sq_le cy.1 cy.2
  have s3 := sq_le (x := 7 * (X - U)) (m := 13034) (by omega) (by omega)
  have s4 := sq_le (x := 7 * (Y - V)) (m := 13034) (by omega) (by omega)
  have m1 := minkowski (x1 := D1) (x2 := D2) (y1 := 7 * (X - U)) (y2 := 7 * (Y - V)) (M := 2352 * f) (N := 21609) (by omega) (by decide) ?_ (by omega)
  · refine Int.le_trans m1 ?_
    have m2 := sq_le (x := 2352 * f + 21609) (m := 7 * (343 * (f + 9))) (by omega) (by omega)
    have e3 : 7 * (343 * (f + 9)) * (7 * (343 * (f + 9))) = 7 * 7 * (343 * (f + 9) * (343 * (f + 9))) := by grind
    omega
  · have e4 : 588 * A * (588 * A) = 345744 * (A * A) := by grind
    have e5 : 588 * B * (588 * B) = 345744 * (B * B) := by grind
    have e6 : 2352 * f * (2352 * f) = 5531904 * (f * f) := by grind
    omega
theorem filter_ne_nil {p : Nat → Bool} {n k : Nat} (hk : k < n) (h : p k = true) : (((List.range n).filter p).map Int.ofNat) ≠ [] := by
  intro e
  have : k ∈ (List.range n).filter p := List.mem_filter.mpr ⟨List.mem_range.mpr hk, h⟩
  rw [List.map_eq_nil_iff.mp e] at this
  exact absurd this List.not_mem_nil
theorem isOn_of {p : Pt} {es l1 l2 : List Pt} {a b : Pt} {most times : Int} (e : es = l1 ++ a :: b :: l2) (h : isNear p a b most times = true) : isOn p es most times = true := by
  unfold isOn
  rw [decide_eq_false (filter_ne_nil (k := l1.length) (by subst e; simp) ?_)]
  · rfl
  · subst e
    unfold nearAt
    rw [List.getD_eq_getElem?_getD, List.getD_eq_getElem?_getD, List.getElem?_append_right (Nat.le_refl _), List.getElem?_append_right (Nat.le_succ _)]
    simpa using h
theorem on7 {f : Int} {q : Quad} {k : Int} (hf : 0 ≤ f) (hd : deep f 5 q) (hk : 0 ≤ k ∧ k ≤ 7) :
    isOn (cv q.1.1 q.2.1.1 q.2.2.1.1 q.2.2.2.1 k 7, cv q.1.2 q.2.1.2 q.2.2.1.2 q.2.2.2.2 k 7) (q.1 :: ends f 10 q) (f + 9) 343 = true := by
  obtain ⟨r, k', l1, l2, e, hr, h0, h7, hE⟩ := piece7 f 5 10 q k (by decide) hd hk.1 hk.2
  exact isOn_of e (near7 hf hr h0 h7 hE hk)
set_option linter.unusedSimpArgs false
theorem step32 (a b c d j : Int) (h0 : 0 ≤ j) (h7 : j ≤ 32) :
    (j ≤ 16 → 0 ≤ cv a b c d j 32 - cv a (hv a b) (hv (hv a b) (hv b c)) (hv (hv (hv a b) (hv b c)) (hv (hv b c) (hv c d))) (2 * j) 32 ∧ cv a b c d j 32 - cv a (hv a b) (hv (hv a b) (hv b c)) (hv (hv (hv a b) (hv b c)) (hv (hv b c) (hv c d))) (2 * j) 32 ≤ 3072 * j) ∧
    (16 ≤ j → 0 ≤ cv a b c d j 32 - cv (hv (hv (hv a b) (hv b c)) (hv (hv b c) (hv c d))) (hv (hv b c) (hv c d)) (hv c d) d (2 * j - 32) 32 ∧ cv a b c d j 32 - cv (hv (hv (hv a b) (hv b c)) (hv (hv b c) (hv c d))) (hv (hv b c) (hv c d)) (hv c d) d (2 * j - 32) 32 ≤ 3072 * (32 - j)) := by
  have hk : j = 0 ∨ j = 1 ∨ j = 2 ∨ j = 3 ∨ j = 4 ∨ j = 5 ∨ j = 6 ∨ j = 7 ∨ j = 8 ∨ j = 9 ∨ j = 10 ∨ j = 11 ∨ j = 12 ∨ j = 13 ∨ j = 14 ∨ j = 15 ∨ j = 16 ∨ j = 17 ∨ j = 18 ∨ j = 19 ∨ j = 20 ∨ j = 21 ∨ j = 22 ∨ j = 23 ∨ j = 24 ∨ j = 25 ∨ j = 26 ∨ j = 27 ∨ j = 28 ∨ j = 29 ∨ j = 30 ∨ j = 31 ∨ j = 32 := by omega
  simp only [hv, fd2]
  have h1 : ∀ x y : Int, 2 * ((x + y) / 2) ≤ x + y ∧ x + y ≤ 2 * ((x + y) / 2) + 1 := fun x y => by omega
  have i1 := h1 a b
  have i2 := h1 b c
  have i3 := h1 c d
  generalize (a + b) / 2 = ab at *
  generalize (b + c) / 2 = bc at *
  generalize (c + d) / 2 = cd at *
  have i4 := h1 ab bc
  have i5 := h1 bc cd
  generalize (ab + bc) / 2 = abc at *
  generalize (bc + cd) / 2 = bcd at *
  have i6 := h1 abc bcd
  generalize (abc + bcd) / 2 = mm at *
  clear h1
  refine ⟨fun h => ?_, fun h => ?_⟩
  · rcases hk with rfl | rfl | rfl | rfl | rfl | rfl | rfl | rfl | rfl | rfl | rfl | rfl | rfl | rfl | rfl | rfl | rfl | rfl | rfl | rfl | rfl | rfl | rfl | rfl | rfl | rfl | rfl | rfl | rfl | rfl | rfl | rfl | rfl <;> (first | (exfalso; omega) | (simp only [cv, toNat2, toNat3, Int.reduceMul, Int.reduceSub, Int.reducePow]; omega))
  · rcases hk with rfl | rfl | rfl | rfl | rfl | rfl | rfl | rfl | rfl | rfl | rfl | rfl | rfl | rfl | rfl | rfl | rfl | rfl | rfl | rfl | rfl | rfl | rfl | rfl | rfl | rfl | rfl | rfl | rfl | rfl | rfl | rfl | rfl <;> (first | (exfalso; omega) | (simp only [cv, toNat2, toNat3, Int.reduceMul, Int.reduceSub, Int.reducePow]; omega))
def chI (j : Int) : Int := if j = 32 then 7 else j / 4
def chN (j : Int) : Int := [0, 9, 17, 25, 0, 9, 17, 25, 0, 9, 17, 25, 0, 9, 17, 25, 0, 7, 15, 23, 0, 7, 15, 23, 0, 7, 15, 23, 0, 7, 15, 23, 32].getD j.toNat 0
abbrev mn32 (j : Int) : Int := if j ≤ 16 then j else 32 - j
theorem ch_ok {j : Int} (h0 : 0 ≤ j) (h7 : j ≤ 32) : 0 ≤ chI j ∧ chI j ≤ 7 ∧ 0 ≤ chN j ∧ chN j ≤ 32 := by
  have hk : j = 0 ∨ j = 1 ∨ j = 2 ∨ j = 3 ∨ j = 4 ∨ j = 5 ∨ j = 6 ∨ j = 7 ∨ j = 8 ∨ j = 9 ∨ j = 10 ∨ j = 11 ∨ j = 12 ∨ j = 13 ∨ j = 14 ∨ j = 15 ∨ j = 16 ∨ j = 17 ∨ j = 18 ∨ j = 19 ∨ j = 20 ∨ j = 21 ∨ j = 22 ∨ j = 23 ∨ j = 24 ∨ j = 25 ∨ j = 26 ∨ j = 27 ∨ j = 28 ∨ j = 29 ∨ j = 30 ∨ j = 31 ∨ j = 32 := by omega
  rcases hk with rfl | rfl | rfl | rfl | rfl | rfl | rfl | rfl | rfl | rfl | rfl | rfl | rfl | rfl | rfl | rfl | rfl | rfl | rfl | rfl | rfl | rfl | rfl | rfl | rfl | rfl | rfl | rfl | rfl | rfl | rfl | rfl | rfl <;> decide
theorem axis32 {a b c d e j : Int} (h0 : 0 ≤ j) (h7 : j ≤ 32) (ha : -300 ≤ a ∧ a ≤ 300) (hb : -300 ≤ b ∧ b ≤ 300) (hc : -300 ≤ c ∧ c ≤ 300) (hd : -300 ≤ d ∧ d ≤ 300)
    (h1 : 0 ≤ cv a b c d j 32 - 32768 * e) (h2 : cv a b c d j 32 - 32768 * e ≤ 163840 + 1024 * mn32 j) :
    -229376 ≤ 32 * (512 * e - cv a b c d (chI j) 8) - chN j * (cv a b c d (chI j + 1) 8 - cv a b c d (chI j) 8) ∧ 32 * (512 * e - cv a b c d (chI j) 8) - chN j * (cv a b c d (chI j + 1) 8 - cv a b c d (chI j) 8) ≤ 229376 := by
  have hk : j = 0 ∨ j = 1 ∨ j = 2 ∨ j = 3 ∨ j = 4 ∨ j = 5 ∨ j = 6 ∨ j = 7 ∨ j = 8 ∨ j = 9 ∨ j = 10 ∨ j = 11 ∨ j = 12 ∨ j = 13 ∨ j = 14 ∨ j = 15 ∨ j = 16 ∨ j = 17 ∨ j = 18 ∨ j = 19 ∨ j = 20 ∨ j = 21 ∨ j = 22 ∨ j = 23 ∨ j = 24 ∨ j = 25 ∨ j = 26 ∨ j = 27 ∨ j = 28 ∨ j = 29 ∨ j = 30 ∨ j = 31 ∨ j = 32 := by omega
  rcases hk with rfl | rfl | rfl | rfl | rfl | rfl | rfl | rfl | rfl | rfl | rfl | rfl | rfl | rfl | rfl | rfl | rfl | rfl | rfl | rfl | rfl | rfl | rfl | rfl | rfl | rfl | rfl | rfl | rfl | rfl | rfl | rfl | rfl
  · rw [show chI 0 = 0 from by decide, show chN 0 = 0 from by decide]; simp only [cv, mn32, toNat2, toNat3, Int.reduceMul, Int.reduceSub, Int.reducePow, Int.reduceAdd, Int.reduceLE, if_true, if_false, reduceIte] at *; omega
  · rw [show chI 1 = 0 from by decide, show chN 1 = 9 from by decide]; simp only [cv, mn32, toNat2, toNat3, Int.reduceMul, Int.reduceSub, Int.reducePow, Int.reduceAdd, Int.reduceLE, if_true, if_false, reduceIte] at *; omega
  · rw [show chI 2 = 0 from by decide, show chN 2 = 17 from by decide]; simp only [cv, mn32, toNat2, toNat3, Int.reduceMul, Int.reduceSub, Int.reducePow, Int.reduceAdd, Int.reduceLE, if_true, if_false, reduceIte] at *; omega
  · rw [show chI 3 = 0 from by decide, show chN 3 = 25 from by decide]; simp only [cv, mn32, toNat2, toNat3, Int.reduceMul, Int.reduceSub, Int.reducePow, Int.reduceAdd, Int.reduceLE, if_true, if_false, reduceIte] at *; omega
  · rw [show chI 4 = 1 from by decide, show chN 4 = 0 from by decide]; simp only [cv, mn32, toNat2, toNat3, Int.reduceMul, Int.reduceSub, Int.reducePow, Int.reduceAdd, Int.reduceLE, if_true, if_false, reduceIte] at *; omega
  · rw [show chI 5 = 1 from by decide, show chN 5 = 9 from by decide]; simp only [cv, mn32, toNat2, toNat3, Int.reduceMul, Int.reduceSub, Int.reducePow, Int.reduceAdd, Int.reduceLE, if_true, if_false, reduceIte] at *; omega
  · rw [show chI 6 = 1 from by decide, show chN 6 = 17 from by decide]; simp only [cv, mn32, toNat2, toNat3, Int.reduceMul, Int.reduceSub, Int.reducePow, Int.reduceAdd, Int.reduceLE, if_true, if_false, reduceIte] at *; omega
  · rw [show chI 7 = 1 from by decide, show chN 7 = 25 from by decide]; simp only [cv, mn32, toNat2, toNat3, Int.reduceMul, Int.reduceSub, Int.reducePow, Int.reduceAdd, Int.reduceLE, if_true, if_false, reduceIte] at *; omega
  · rw [show chI 8 = 2 from by decide, show chN 8 = 0 from by decide]; simp only [cv, mn32, toNat2, toNat3, Int.reduceMul, Int.reduceSub, Int.reducePow, Int.reduceAdd, Int.reduceLE, if_true, if_false, reduceIte] at *; omega
  · rw [show chI 9 = 2 from by decide, show chN 9 = 9 from by decide]; simp only [cv, mn32, toNat2, toNat3, Int.reduceMul, Int.reduceSub, Int.reducePow, Int.reduceAdd, Int.reduceLE, if_true, if_false, reduceIte] at *; omega
  · rw [show chI 10 = 2 from by decide, show chN 10 = 17 from by decide]; simp only [cv, mn32, toNat2, toNat3, Int.reduceMul, Int.reduceSub, Int.reducePow, Int.reduceAdd, Int.reduceLE, if_true, if_false, reduceIte] at *; omega
  · rw [show chI 11 = 2 from by decide, show chN 11 = 25 from by decide]; simp only [cv, mn32, toNat2, toNat3, Int.reduceMul, Int.reduceSub, Int.reducePow, Int.reduceAdd, Int.reduceLE, if_true, if_false, reduceIte] at *; omega
  · rw [show chI 12 = 3 from by decide, show chN 12 = 0 from by decide]; simp only [cv, mn32, toNat2, toNat3, Int.reduceMul, Int.reduceSub, Int.reducePow, Int.reduceAdd, Int.reduceLE, if_true, if_false, reduceIte] at *; omega
  · rw [show chI 13 = 3 from by decide, show chN 13 = 9 from by decide]; simp only [cv, mn32, toNat2, toNat3, Int.reduceMul, Int.reduceSub, Int.reducePow, Int.reduceAdd, Int.reduceLE, if_true, if_false, reduceIte] at *; omega
  · rw [show chI 14 = 3 from by decide, show chN 14 = 17 from by decide]; simp only [cv, mn32, toNat2, toNat3, Int.reduceMul, Int.reduceSub, Int.reducePow, Int.reduceAdd, Int.reduceLE, if_true, if_false, reduceIte] at *; omega
  · rw [show chI 15 = 3 from by decide, show chN 15 = 25 from by decide]; simp only [cv, mn32, toNat2, toNat3, Int.reduceMul, Int.reduceSub, Int.reducePow, Int.reduceAdd, Int.reduceLE, if_true, if_false, reduceIte] at *; omega
  · rw [show chI 16 = 4 from by decide, show chN 16 = 0 from by decide]; simp only [cv, mn32, toNat2, toNat3, Int.reduceMul, Int.reduceSub, Int.reducePow, Int.reduceAdd, Int.reduceLE, if_true, if_false, reduceIte] at *; omega
  · rw [show chI 17 = 4 from by decide, show chN 17 = 7 from by decide]; simp only [cv, mn32, toNat2, toNat3, Int.reduceMul, Int.reduceSub, Int.reducePow, Int.reduceAdd, Int.reduceLE, if_true, if_false, reduceIte] at *; omega
  · rw [show chI 18 = 4 from by decide, show chN 18 = 15 from by decide]; simp only [cv, mn32, toNat2, toNat3, Int.reduceMul, Int.reduceSub, Int.reducePow, Int.reduceAdd, Int.reduceLE, if_true, if_false, reduceIte] at *; omega
  · rw [show chI 19 = 4 from by decide, show chN 19 = 23 from by decide]; simp only [cv, mn32, toNat2, toNat3, Int.reduceMul, Int.reduceSub, Int.reducePow, Int.reduceAdd, Int.reduceLE, if_true, if_false, reduceIte] at *; omega
  · rw [show chI 20 = 5 from by decide, show chN 20 = 0 from by decide]; simp only [cv, mn32, toNat2, toNat3, Int.reduceMul, Int.reduceSub, Int.reducePow, Int.reduceAdd, Int.reduceLE, if_true, if_false, reduceIte] at *; omega
  · rw [show chI 21 = 5 from by decide, show chN 21 = 7 from by decide]; simp only [cv, mn32, toNat2, toNat3, Int.reduceMul, Int.reduceSub, Int.reducePow, Int.reduceAdd, Int.reduceLE, if_true, if_false, reduceIte] at *; omega
  · rw [show chI 22 = 5 from by decide, show chN 22 = 15 from by decide]; simp only [cv, mn32, toNat2, toNat3, Int.reduceMul, Int.reduceSub, Int.reducePow, Int.reduceAdd, Int.reduceLE, if_true, if_false, reduceIte] at *; omega
  · rw [show chI 23 = 5 from by decide, show chN 23 = 23 from by decide]; simp only [cv, mn32, toNat2, toNat3, Int.reduceMul, Int.reduceSub, Int.reducePow, Int.reduceAdd, Int.reduceLE, if_true, if_false, reduceIte] at *; omega
  · rw [show chI 24 = 6 from by decide, show chN 24 = 0 from by decide]; simp only [cv, mn32, toNat2, toNat3, Int.reduceMul, Int.reduceSub, Int.reducePow, Int.reduceAdd, Int.reduceLE, if_true, if_false, reduceIte] at *; omega
  · rw [show chI 25 = 6 from by decide, show chN 25 = 7 from by decide]; simp only [cv, mn32, toNat2, toNat3, Int.reduceMul, Int.reduceSub, Int.reducePow, Int.reduceAdd, Int.reduceLE, if_true, if_false, reduceIte] at *; omega
  · rw [show chI 26 = 6 from by decide, show chN 26 = 15 from by decide]; simp only [cv, mn32, toNat2, toNat3, Int.reduceMul, Int.reduceSub, Int.reducePow, Int.reduceAdd, Int.reduceLE, if_true, if_false, reduceIte] at *; omega
  · rw [show chI 27 = 6 from by decide, show chN 27 = 23 from by decide]; simp only [cv, mn32, toNat2, toNat3, Int.reduceMul, Int.reduceSub, Int.reducePow, Int.reduceAdd, Int.reduceLE, if_true, if_false, reduceIte] at *; omega
  · rw [show chI 28 = 7 from by decide, show chN 28 = 0 from by decide]; simp only [cv, mn32, toNat2, toNat3, Int.reduceMul, Int.reduceSub, Int.reducePow, Int.reduceAdd, Int.reduceLE, if_true, if_false, reduceIte] at *; omega
  · rw [show chI 29 = 7 from by decide, show chN 29 = 7 from by decide]; simp only [cv, mn32, toNat2, toNat3, Int.reduceMul, Int.reduceSub, Int.reducePow, Int.reduceAdd, Int.reduceLE, if_true, if_false, reduceIte] at *; omega
  · rw [show chI 30 = 7 from by decide, show chN 30 = 15 from by decide]; simp only [cv, mn32, toNat2, toNat3, Int.reduceMul, Int.reduceSub, Int.reducePow, Int.reduceAdd, Int.reduceLE, if_true, if_false, reduceIte] at *; omega
  · rw [show chI 31 = 7 from by decide, show chN 31 = 23 from by decide]; simp only [cv, mn32, toNat2, toNat3, Int.reduceMul, Int.reduceSub, Int.reducePow, Int.reduceAdd, Int.reduceLE, if_true, if_false, reduceIte] at *; omega
  · rw [show chI 32 = 7 from by decide, show chN 32 = 32 from by decide]; simp only [cv, mn32, toNat2, toNat3, Int.reduceMul, Int.reduceSub, Int.reducePow, Int.reduceAdd, Int.reduceLE, if_true, if_false, reduceIte] at *; omega
structure Err32 (n : Nat) (q : Quad) (e : Pt) (j : Int) : Prop where
  x0 : 0 ≤ cv q.1.1 q.2.1.1 q.2.2.1.1 q.2.2.2.1 j 32 - 32768 * e.1
  x1 : cv q.1.1 q.2.1.1 q.2.2.1.1 q.2.2.2.1 j 32 - 32768 * e.1 ≤ 32768 * (n : Int) + 1024 * mn32 j
  y0 : 0 ≤ cv q.1.2 q.2.1.2 q.2.2.1.2 q.2.2.2.2 j 32 - 32768 * e.2
  y1 : cv q.1.2 q.2.1.2 q.2.2.1.2 q.2.2.2.2 j 32 - 32768 * e.2 ≤ 32768 * (n : Int) + 1024 * mn32 j
theorem cv_end (a b c d : Int) : cv a b c d 32 32 = 32768 * d ∧ cv a b c d 0 8 = 512 * a ∧ cv a b c d 8 8 = 512 * d := by
  simp only [cv, toNat2, toNat3, Int.reduceMul, Int.reduceSub, Int.reducePow]
  omega
/-- where on the curve an end lies -/
theorem place32 (f : Int) : ∀ (n N : Nat) (q : Quad) (e : Pt), n ≤ 5 → n ≤ N → deep f n q → e ∈ ends f N q → ∃ (j i : Int), 0 ≤ j ∧ j ≤ 32 ∧ j * 2 ^ n = 32 * i ∧ Err32 n q e j := by
  have base : ∀ (n N : Nat) (q : Quad) (e : Pt), isFlat q f = true → e ∈ ends f N q → ∃ (j i : Int), 0 ≤ j ∧ j ≤ 32 ∧ j * 2 ^ n = 32 * i ∧ Err32 n q e j := by
    intro n N q e hf he
    rw [ends_flat hf, List.mem_singleton] at he
    subst he
    refine ⟨32, 2 ^ n, by decide, by decide, rfl, ?_⟩
    have : mn32 32 = 0 := by decide
    constructor <;> simp only [cv_end] <;> omega
  intro n
  induction n with
  | zero => intro N q e _ _ hd he; exact base 0 N q e hd he
  | succ n ih =>
    intro N q e h5 hN hd he
    obtain ⟨M, rfl⟩ : ∃ M, N = M + 1 := ⟨N - 1, by omega⟩
    by_cases hf : isFlat q f = true
    · exact base (n + 1) (M + 1) q e hf he
    · rcases hd with hd | ⟨hd1, hd2⟩
      · exact absurd hd hf
      · have hf' : isFlat q f = false := by simpa using hf
        rw [ends_halves hf'] at he
        have even : ∀ j i : Int, j * 2 ^ n = 32 * i → ∃ t, j = 2 * t ∧ t * 2 ^ (n + 1) = 32 * i := by
          intro j i hj
          have hn : n = 0 ∨ n = 1 ∨ n = 2 ∨ n = 3 ∨ n = 4 := by omega
          rcases hn with rfl | rfl | rfl | rfl | rfl <;> simp only [Nat.zero_add, Nat.reduceAdd, Int.reducePow] at * <;> exact ⟨j / 2, by omega, by omega⟩
        rcases List.mem_append.mp he with he | he
        · obtain ⟨j, i, hj0, hj32, hji, hE⟩ := ih M (half1 q) e (by omega) (by omega) hd1 he
          obtain ⟨t, rfl, ht⟩ := even j i hji
          have sx := (step32 q.1.1 q.2.1.1 q.2.2.1.1 q.2.2.2.1 t (by omega) (by omega)).1 (by omega)
          have sy := (step32 q.1.2 q.2.1.2 q.2.2.1.2 q.2.2.2.2 t (by omega) (by omega)).1 (by omega)
          refine ⟨t, i, by omega, by omega, ht, ?_⟩
          have hx0 : 0 ≤ cv q.1.1 (hv q.1.1 q.2.1.1) (hv (hv q.1.1 q.2.1.1) (hv q.2.1.1 q.2.2.1.1)) (hv (hv (hv q.1.1 q.2.1.1) (hv q.2.1.1 q.2.2.1.1)) (hv (hv q.2.1.1 q.2.2.1.1) (hv q.2.2.1.1 q.2.2.2.1))) (2 * t) 32 - 32768 * e.1 := hE.x0
          have hx1 : cv q.1.1 (hv q.1.1 q.2.1.1) (hv (hv q.1.1 q.2.1.1) (hv q.2.1.1 q.2.2.1.1)) (hv (hv (hv q.1.1 q.2.1.1) (hv q.2.1.1 q.2.2.1.1)) (hv (hv q.2.1.1 q.2.2.1.1) (hv q.2.2.1.1 q.2.2.2.1))) (2 * t) 32 - 32768 * e.1 ≤ 32768 * (n : Int) + 1024 * mn32 (2 * t) := hE.x1
          have hy0 : 0 ≤ cv q.1.2 (hv q.1.2 q.2.1.2) (hv (hv q.1.2 q.2.1.2) (hv q.2.1.2 q.2.2.1.2)) (hv (hv (hv q.1.2 q.2.1.2) (hv q.2.1.2 q.2.2.1.2)) (hv (hv q.2.1.2 q.2.2.1.2) (hv q.2.2.1.2 q.2.2.2.2))) (2 * t) 32 - 32768 * e.2 := hE.y0
          have hy1 : cv q.1.2 (hv q.1.2 q.2.1.2) (hv (hv q.1.2 q.2.1.2) (hv q.2.1.2 q.2.2.1.2)) (hv (hv (hv q.1.2 q.2.1.2) (hv q.2.1.2 q.2.2.1.2)) (hv (hv q.2.1.2 q.2.2.1.2) (hv q.2.2.1.2 q.2.2.2.2))) (2 * t) 32 - 32768 * e.2 ≤ 32768 * (n : Int) + 1024 * mn32 (2 * t) := hE.y1
          have hm : 3072 * t + 1024 * mn32 (2 * t) ≤ 32768 + 1024 * mn32 t := by unfold mn32; rw [if_pos (show t ≤ 16 by omega)]; split <;> omega
          constructor <;> omega
        · obtain ⟨j, i, hj0, hj32, hji, hE⟩ := ih M (half2 q) e (by omega) (by omega) hd2 he
          obtain ⟨t, rfl, ht⟩ := even j i hji
          have sx := (step32 q.1.1 q.2.1.1 q.2.2.1.1 q.2.2.2.1 (t + 16) (by omega) (by omega)).2 (by omega)
          have sy := (step32 q.1.2 q.2.1.2 q.2.2.1.2 q.2.2.2.2 (t + 16) (by omega) (by omega)).2 (by omega)
          rw [show 2 * (t + 16) - 32 = 2 * t by omega] at sx sy
          refine ⟨t + 16, i + 2 ^ n, by omega, by omega, ?_, ?_⟩
          · rw [Int.add_mul, ht, Int.pow_succ, Int.mul_add]; omega
          have hx0 : 0 ≤ cv (hv (hv (hv q.1.1 q.2.1.1) (hv q.2.1.1 q.2.2.1.1)) (hv (hv q.2.1.1 q.2.2.1.1) (hv q.2.2.1.1 q.2.2.2.1))) (hv (hv q.2.1.1 q.2.2.1.1) (hv q.2.2.1.1 q.2.2.2.1)) (hv q.2.2.1.1 q.2.2.2.1) q.2.2.2.1 (2 * t) 32 - 32768 * e.1 := hE.x0
          have hx1 : cv (hv (hv (hv q.1.1 q.2.1.1) (hv q.2.1.1 q.2.2.1.1)) (hv (hv q.2.1.1 q.2.2.1.1) (hv q.2.2.1.1 q.2.2.2.1))) (hv (hv q.2.1.1 q.2.2.1.1) (hv q.2.2.1.1 q.2.2.2.1)) (hv q.2.2.1.1 q.2.2.2.1) q.2.2.2.1 (2 * t) 32 - 32768 * e.1 ≤ 32768 * (n : Int) + 1024 * mn32 (2 * t) := hE.x1
          have hy0 : 0 ≤ cv (hv (hv (hv q.1.2 q.2.1.2) (hv q.2.1.2 q.2.2.1.2)) (hv (hv q.2.1.2 q.2.2.1.2) (hv q.2.2.1.2 q.2.2.2.2))) (hv (hv q.2.1.2 q.2.2.1.2) (hv q.2.2.1.2 q.2.2.2.2)) (hv q.2.2.1.2 q.2.2.2.2) q.2.2.2.2 (2 * t) 32 - 32768 * e.2 := hE.y0
          have hy1 : cv (hv (hv (hv q.1.2 q.2.1.2) (hv q.2.1.2 q.2.2.1.2)) (hv (hv q.2.1.2 q.2.2.1.2) (hv q.2.2.1.2 q.2.2.2.2))) (hv (hv q.2.1.2 q.2.2.1.2) (hv q.2.2.1.2 q.2.2.2.2)) (hv q.2.2.1.2 q.2.2.2.2) q.2.2.2.2 (2 * t) 32 - 32768 * e.2 ≤ 32768 * (n : Int) + 1024 * mn32 (2 * t) := hE.y1
          have hm : 3072 * (32 - (t + 16)) + 1024 * mn32 (2 * t) ≤ 32768 + 1024 * mn32 (t + 16) := by unfold mn32; split <;> split <;> omega
          constructor <;> omega
theorem isOn_at {p : Pt} {es : List Pt} {most times : Int} {k : Nat} (hk : k < es.length - 1) (h : isNear p (es.getD k (0, 0)) (es.getD (k + 1) (0, 0)) most times = true) : isOn p es most times = true := by
  unfold isOn
  rw [decide_eq_false (filter_ne_nil (k := k) hk h)]
  rfl
/-- nine points of the curve -/
def chordsOf (q : Quad) : List Pt := (List.range 9).map fun k : Nat => (cv q.1.1 q.2.1.1 q.2.2.1.1 q.2.2.2.1 k 8, cv q.1.2 q.2.1.2 q.2.2.1.2 q.2.2.2.2 k 8)
theorem chords_at (q : Quad) {k : Nat} (hk : k < 9) : (chordsOf q).getD k (0, 0) = (cv q.1.1 q.2.1.1 q.2.2.1.1 q.2.2.2.1 k 8, cv q.1.2 q.2.1.2 q.2.2.1.2 q.2.2.2.2 k 8) := by
  unfold chordsOf
  rw [List.getD_eq_getElem?_getD, List.getElem?_map, List.getElem?_range hk]
  rfl
theorem on8_chord {q : Quad} {p : Pt} (i : Nat) (n d : Int) (hi : i < 8) (hd : 0 < d) (hn : 0 ≤ n) (hnd : n ≤ d)
    (h : (d * (p.1 - cv q.1.1 q.2.1.1 q.2.2.1.1 q.2.2.2.1 i 8) - n * (cv q.1.1 q.2.1.1 q.2.2.1.1 q.2.2.2.1 ((i : Int) + 1) 8 - cv q.1.1 q.2.1.1 q.2.2.1.1 q.2.2.2.1 i 8)) * (d * (p.1 - cv q.1.1 q.2.1.1 q.2.2.1.1 q.2.2.2.1 i 8) - n * (cv q.1.1 q.2.1.1 q.2.2.1.1 q.2.2.2.1 ((i : Int) + 1) 8 - cv q.1.1 q.2.1.1 q.2.2.1.1 q.2.2.2.1 i 8))
      + (d * (p.2 - cv q.1.2 q.2.1.2 q.2.2.1.2 q.2.2.2.2 i 8) - n * (cv q.1.2 q.2.1.2 q.2.2.1.2 q.2.2.2.2 ((i : Int) + 1) 8 - cv q.1.2 q.2.1.2 q.2.2.1.2 q.2.2.2.2 i 8)) * (d * (p.2 - cv q.1.2 q.2.1.2 q.2.2.1.2 q.2.2.2.2 i 8) - n * (cv q.1.2 q.2.1.2 q.2.2.1.2 q.2.2.2.2 ((i : Int) + 1) 8 - cv q.1.2 q.2.1.2 q.2.2.1.2 q.2.2.2.2 i 8)) ≤ d * d * 104857600) :
    isOn p (chordsOf q) 10240 1 = true := by
  refine isOn_at (k := i) (by simp [chordsOf]; omega) ?_
  rw [chords_at q (by omega), chords_at q (by omega)]
  refine near_ok n d hd hn hnd ?_
  simp only [Int.one_mul, Int.natCast_add, Int.natCast_one]
  exact h
theorem on8_first (q : Quad) : isOn (512 * q.1.1, 512 * q.1.2) (chordsOf q) 10240 1 = true := by
  refine on8_chord 0 0 1 (by decide) (by decide) (by decide) (by decide) ?_
  rw [show ((0 : Nat) : Int) = 0 from rfl, (cv_end q.1.1 q.2.1.1 q.2.2.1.1 q.2.2.2.1).2.1, (cv_end q.1.2 q.2.1.2 q.2.2.1.2 q.2.2.2.2).2.1]
  simp
theorem on8_last (q : Quad) : isOn (512 * q.2.2.2.1, 512 * q.2.2.2.2) (chordsOf q) 10240 1 = true := by
  refine on8_chord 7 1 1 (by decide) (by decide) (by decide) (by decide) ?_
  rw [show ((7 : Nat) : Int) + 1 = 8 from rfl, (cv_end q.1.1 q.2.1.1 q.2.2.1.1 q.2.2.2.1).2.2, (cv_end q.1.2 q.2.1.2 q.2.2.1.2 q.2.2.2.2).2.2]
  dsimp only
  rw [Int.one_mul, Int.one_mul, Int.one_mul, Int.one_mul, Int.sub_self, Int.sub_self]
  decide
theorem on8 {f : Int} {q : Quad} {e : Pt} (hq : QB 300 q) (hd : deep f 5 q) (he : e ∈ ends f 10 q) : isOn (512 * e.1, 512 * e.2) (chordsOf q) 10240 1 = true := by
  obtain ⟨j, _, h0, h32, _, x0, x1, y0, y1⟩ := place32 f 5 10 q e (by decide) (by decide) hd he
  obtain ⟨c1, c2, c3, c4⟩ := ch_ok h0 h32
  obtain ⟨⟨q1, q2, q3, q4⟩, ⟨q5, q6, q7, q8⟩, ⟨q9, q10, q11, q12⟩, ⟨q13, q14, q15, q16⟩⟩ := hq
  have ax := axis32 (e := e.1) h0 h32 ⟨q1, q2⟩ ⟨q5, q6⟩ ⟨q9, q10⟩ ⟨q13, q14⟩ x0 (by omega)
  have ay := axis32 (e := e.2) h0 h32 ⟨q3, q4⟩ ⟨q7, q8⟩ ⟨q11, q12⟩ ⟨q15, q16⟩ y0 (by omega)
  have sx := sq_le ax.1 ax.2
  have sy := sq_le ay.1 ay.2
  refine on8_chord (chI j).toNat (chN j) 32 (by omega) (by decide) c3 c4 ?_
  rw [Int.toNat_of_nonneg c1]
  dsimp only
  omega
theorem sdAt_le : ∀ (n : Nat) (B Y : Int), 0 ≤ B → 0 ≤ Y → B ≤ Y + 2 → 0 ≤ sdAt B n ∧ sdAt B n ≤ Y / 4 ^ n + 2
  | 0, B, Y, h, hY, hB => by simp only [sdAt, Int.pow_zero, Int.ediv_one]; omega
  | n + 1, B, Y, h, hY, hB => by
    obtain ⟨h1, h2⟩ := sdAt_le n ((B + 4) / 4) (Y / 4) (by omega) (by omega) (by omega)
    rw [sdAt]
    refine ⟨h1, ?_⟩
    rw [Int.ediv_ediv_of_nonneg (by decide)] at h2
    rw [Int.pow_succ, Int.mul_comm (4 ^ n) 4]
    exact h2
theorem SD_bent (a b c d : Int) : 0 ≤ bentOf a b c d ∧ SD (bentOf a b c d) a b c d := by
  unfold SD bentOf imax iabs
  split <;> split <;> split <;> omega
theorem ends_most {q : Quad} {f : Int} {j : Nat} (hj : j ≤ 10) (h : j = 10 ∨ (farAt q j).1 * (farAt q j).1 + ((farAt q j).2 * (farAt q j).2 + 0) ≤ 16 * f * f) : (ends f 10 q).length ≤ 2 ^ j := by
  rcases h with rfl | h
  · exact (ends_length f 10 q).2
  · refine ends_deep f j 10 q ?_
    rw [Int.mul_assoc] at h
    cases j with
    | zero =>
      show isFlat q f = true
      rw [flat_iff]
      simp only [farAt] at h
      omega
    | succ n =>
      obtain ⟨bx, sx⟩ := SD_bent q.1.1 q.2.1.1 q.2.2.1.1 q.2.2.2.1
      obtain ⟨by_, sy⟩ := SD_bent q.1.2 q.2.1.2 q.2.2.1.2 q.2.2.2.2
      refine deep_SQ f (n + 1) _ _ q ⟨sx, sy⟩ ?_
      simp only [farAt] at h
      obtain ⟨x0, x1⟩ := sdAt_le (n + 1) _ _ bx bx (by omega)
      obtain ⟨y0, y1⟩ := sdAt_le (n + 1) _ _ by_ by_ (by omega)
      have p : (0 : Int) ≤ 4 ^ (n + 1) := Int.le_of_lt (Int.pow_pos (by decide))
      rw [Int.fdiv_eq_ediv_of_nonneg _ p, Int.fdiv_eq_ediv_of_nonneg _ p] at h
      have s1 := sq_le (x := 3 * sdAt (bentOf q.1.1 q.2.1.1 q.2.2.1.1 q.2.2.2.1) (n + 1)) (m := 3 * (bentOf q.1.1 q.2.1.1 q.2.2.1.1 q.2.2.2.1 / 4 ^ (n + 1)) + 8) (by omega) (by omega)
      have s2 := sq_le (x := 3 * sdAt (bentOf q.1.2 q.2.1.2 q.2.2.1.2 q.2.2.2.2) (n + 1)) (m := 3 * (bentOf q.1.2 q.2.1.2 q.2.2.1.2 q.2.2.2.2 / 4 ^ (n + 1)) + 8) (by omega) (by omega)
      omega
theorem deep5 {q : Quad} {f : Int} (hq : QB 300 q) (hf : 4 ≤ f) : deep f 5 q := by
  obtain ⟨⟨q1, q2, q3, q4⟩, ⟨q5, q6, q7, q8⟩, ⟨q9, q10, q11, q12⟩, ⟨q13, q14, q15, q16⟩⟩ := hq
  refine deep_SQ f 5 1200 1200 q ⟨by unfold SD; omega, by unfold SD; omega⟩ ?_
  have e : sdAt 1200 5 = 2 := by decide
  rw [e]
  have s := sq_le (x := 4) (m := f) (by omega) (by omega)
  omega
theorem deep_mono {f : Int} {q : Quad} (h : isFlat q f = true) : ∀ n, deep f n q
  | 0 => h
  | _ + 1 => .inl h
/-- straight points: one line does -/
theorem flat_line {x y r s f : Int} : isFlat ((x, y), (x + r, y + s), (x + 2 * r, y + 2 * s), (x + 3 * r, y + 3 * s)) f = true := by
  rw [flat_iff]
  have h : ∀ x r : Int, farOf x (x + r) (x + 2 * r) (x + 3 * r) = 0 := by
    intro x r
    unfold farOf imax iabs
    split <;> split <;> split <;> omega
  dsimp only
  rw [h, h]
  have := sq_nonneg f
  omega
/-- the whole of what law asks of the ends -/
structure Fine (q : Quad) (f : Int) (st : Bool) : Prop where
  len : 1 ≤ (ends f 10 q).length ∧ (ends f 10 q).length ≤ 1024
  last : ∃ l, ends f 10 q = l ++ [q.2.2.2]
  one : st = true → ends f 10 q = [q.2.2.2]
  most : ∀ j, j ≤ 10 → (j = 10 ∨ (farAt q j).1 * (farAt q j).1 + ((farAt q j).2 * (farAt q j).2 + 0) ≤ 16 * f * f) → (ends f 10 q).length ≤ 2 ^ j
  box : ∀ lx hx ly hy, (Btw lx hx q.1.1 ∧ Btw lx hx q.2.1.1 ∧ Btw lx hx q.2.2.1.1 ∧ Btw lx hx q.2.2.2.1) → (Btw ly hy q.1.2 ∧ Btw ly hy q.2.1.2 ∧ Btw ly hy q.2.2.1.2 ∧ Btw ly hy q.2.2.2.2) →
    ∀ e ∈ q.1 :: ends f 10 q, Btw lx hx e.1 ∧ Btw ly hy e.2
  seven : ∀ k : Int, 0 ≤ k ∧ k ≤ 7 → isOn (cv q.1.1 q.2.1.1 q.2.2.1.1 q.2.2.2.1 k 7, cv q.1.2 q.2.1.2 q.2.2.1.2 q.2.2.2.2 k 7) (q.1 :: ends f 10 q) (f + 9) 343 = true
  eight : ∀ e ∈ q.1 :: ends f 10 q, isOn (512 * e.1, 512 * e.2) (chordsOf q) 10240 1 = true
theorem fine_of {q : Quad} {f : Int} {st : Bool} (hf : 4 ≤ f) (h : (st = false ∧ QB 300 q) ∨ isFlat q f = true) : Fine q f st := by
  have hd : deep f 5 q := by
    rcases h with ⟨_, h⟩ | h
    · exact deep5 h hf
    · exact deep_mono h 5
  refine ⟨⟨(ends_length f 10 q).1, (ends_length f 10 q).2⟩, ends_last f 10 q, fun hs => ?_, fun j h1 h2 => ends_most h1 h2, fun lx hx ly hy h1 h2 e he => ?_, fun k hk => on7 (by omega) hd hk, fun e he => ?_⟩
  · rcases h with ⟨h, _⟩ | h
    · rw [h] at hs; cases hs
    · exact ends_flat h 10
  · rcases List.mem_cons.mp he with rfl | he
    · exact ⟨h1.1, h2.1⟩
    · exact ends_box f 10 q h1 h2 e he
  · rcases List.mem_cons.mp he with rfl | he
    · exact on8_first q
    · rcases h with ⟨_, h⟩ | h
      · exact on8 h hd he
      · rw [ends_flat h, List.mem_singleton] at he
        subst he
        exact on8_last q

end
section
/-- the names that are known, the rest let go -/
theorem fr_kst {h₀ h : Heap} {L : Addr} {m : Str → Option Value} {ps : List (Str × Value)} (F : Fr h₀ L h m) (hk : ∀ p ∈ ps, m p.1 = some p.2) : Fr h₀ L h (kstB m ps) := by
  have e : kstB m ps = m := by
    funext y
    exact kstB_eq hk fun _ => rfl
  rw [e]
  exact F
/-- one statement, then the rest by a word of its own -/
theorem cut_one {M : Model} {A : Around} {E : Value → Shared → Prop} {s : Shared} {st : Stmt} {rest : List Stmt} {env : Env} {Q : Flow → Shared → Prop}
    (h1 : wpAny M A (exec st env) (fun f s' => Stop (f = .next ∧ wpAny M A (execs rest env) Q E s')) E s) : wpAny M A (execs (st :: rest) env) Q E s := by
  refine wpAny_execs_cons (wpAny_mono h1 (fun f s' h => ?_) fun _ _ e => e)
  obtain ⟨rfl, hR⟩ := h.run
  exact hR
/-- things that lie off law's cells -/
def Off (L : Nat) (T : List (Addr × Obj)) : Prop := ∀ p ∈ T, (@Ne Nat p.1 (L + 1 + 1)) ∧ (@Ne Nat p.1 (L + 1 + 1 + 1)) ∧ (@Ne Nat p.1 (L + 1 + 1 + 1 + 1)) ∧ (@Ne Nat p.1 (L + 1 + 1 + 1 + 1 + 1))
theorem Off.nil {L : Nat} : Off L [] := fun _ hp => nomatch hp
theorem Off.cons {L : Nat} {p : Addr × Obj} {T : List (Addr × Obj)} (h : (@Ne Nat p.1 (L + 1 + 1)) ∧ (@Ne Nat p.1 (L + 1 + 1 + 1)) ∧ (@Ne Nat p.1 (L + 1 + 1 + 1 + 1)) ∧ (@Ne Nat p.1 (L + 1 + 1 + 1 + 1 + 1))) (hT : Off L T) : Off L (p :: T) := fun q hq => by
  rcases List.mem_cons.mp hq with rfl | hq
  · exact h
  · exact hT q hq
theorem Off.app {L : Nat} {S T : List (Addr × Obj)} (hS : Off L S) (hT : Off L T) : Off L (S ++ T) := fun q hq => (List.mem_append.mp hq).elim (hS q) (hT q)
/-- what is new lies off the cells that stand -/
theorem off_new {h₀ h : Heap} {L : Nat} {a5 a4 a3 a2 : Obj} {rest : List (Addr × Obj)} {D : Addr} (N : News h₀ L h ((L + 1 + 1 + 1 + 1 + 1, a5) :: (L + 1 + 1 + 1 + 1, a4) :: (L + 1 + 1 + 1, a3) :: (L + 1 + 1, a2) :: rest)) (h0 : h.get? D = none) :
    (@Ne Nat D (L + 1 + 1)) ∧ (@Ne Nat D (L + 1 + 1 + 1)) ∧ (@Ne Nat D (L + 1 + 1 + 1 + 1)) ∧ (@Ne Nat D (L + 1 + 1 + 1 + 1 + 1)) := by
  have hl := allNe_new N h0
  simp only [AllNe] at hl
  obtain ⟨x5, x4, x3, x2, _⟩ := hl
  exact ⟨Ne.symm x2, Ne.symm x3, Ne.symm x4, Ne.symm x5⟩
theorem all8 {news : List (Addr × Obj)} {vs : List Value} {d0 d1 d2 d3 d4 d5 d6 d7 : Dat} (h : DatAll news vs [d0, d1, d2, d3, d4, d5, d6, d7]) :
    ∃ v0 v1 v2 v3 v4 v5 v6 v7, vs = [v0, v1, v2, v3, v4, v5, v6, v7] ∧ DatIn news v0 d0 ∧ DatIn news v1 d1 ∧ DatIn news v2 d2 ∧ DatIn news v3 d3 ∧ DatIn news v4 d4 ∧ DatIn news v5 d5 ∧ DatIn news v6 d6 ∧ DatIn news v7 d7 := by
  cases h with | cons h0 h =>
  cases h with | cons h1 h =>
  cases h with | cons h2 h =>
  cases h with | cons h3 h =>
  obtain ⟨v4, v5, v6, v7, rfl, h4, h5, h6, h7⟩ := all4 h
  exact ⟨_, _, _, _, _, _, _, _, rfl, h0, h1, h2, h3, h4, h5, h6, h7⟩
theorem execs_app {M : Model} {A : Around} {E : Value → Shared → Prop} {env : Env} {Q : Flow → Shared → Prop} (l1 l2 : List Stmt) {s : Shared}
    (h : wpAny M A (execs l1 env) (fun f s' => match f with | .next => wpAny M A (execs l2 env) Q E s' | f => Q f s') E s) : wpAny M A (execs (l1 ++ l2) env) Q E s := fun Γ p hΓ => by
  have h' := h Γ p hΓ
  clear h
  induction l1 generalizing p s with
  | nil => exact h' Γ p hΓ
  | cons a l ih =>
    rw [List.cons_append, execs_cons, Sem.wp_bind']
    rw [execs_cons, Sem.wp_bind'] at h'
    refine Sem.wp_mono M Γ _ (fun f p' s' h2 => ?_) (fun _ _ _ h2 => h2) _ _ h'
    cases f with
    | next => exact ih p' h2
    | _ => exact h2
theorem cut_app {M : Model} {A : Around} {E : Value → Shared → Prop} {s : Shared} {l1 l2 : List Stmt} {env : Env} {Q : Flow → Shared → Prop}
    (h1 : wpAny M A (execs l1 env) (fun f s' => Stop (f = .next ∧ wpAny M A (execs l2 env) Q E s')) E s) : wpAny M A (execs (l1 ++ l2) env) Q E s := by
  refine execs_app l1 l2 (wpAny_mono h1 (fun f s' h => ?_) fun _ _ e => e)
  obtain ⟨rfl, hR⟩ := h.run
  exact hR
/-- the rows of the path that law builds -/
def lawRows (q : Quad) (ah cz : Bool) : List Row := (if ah then [Row.m (7, -7), Row.l q.1] else [Row.m q.1]) ++ Row.c q.2.1 q.2.2.1 q.2.2.2 :: (if cz then [Row.z] else [])
/-- a method of a path that stands in the ledger, for all callers -/
def ConP (w : World) (f : Addr) (lv : Nat) (a1 a2 a3 a4 tm : Tok) (x d k : Nat) (T : List (Addr × Obj)) (fs : List Value) (n : Nat) (b p : Value) (vs : List Value) (Out : List (Addr × Obj) → List Value → Value → Value → Prop) : Prop :=
  ∀ (mean : ExcName → Option Value) (mg mb : Str → Option Value) (dp un : Nat) (gd : Option (List Code)) (cn : Str) (cs : Scope) (a : Addr) (ccd : Value) (cl : List (Str × Addr)) (outer : List Env) (A₀ : Around) (base h₀ : Heap) (L : Addr) (m : Str → Option Value) (s : Shared) (Q E : Value → Shared → Prop),
    Below A₀ base outer h₀ → Fr h₀ L s.heap m → (Mine.hd.heap_39 w.params).In h₀ → Top Mine.hd.view_39 loose0 mean mg mb h₀ → cs.kind = .function →
    News h₀ L s.heap ((k, listOf fs.toArray n) :: (x, instObj 184 d) :: (d, pathD w a1 a2 a3 a4 tm k b p) :: T) → (∀ q ∈ T, (@Ne Nat q.1 k) ∧ (@Ne Nat q.1 d)) → @LT.lt Nat _ d x → @LT.lt Nat _ x k → dp + lv < recursionLimit → un + 8 * lv < cLine →
    (∀ h' tk' tl fs' n' b' p', Fr h₀ L h' m → News h₀ L h' ((k, listOf fs'.toArray n') :: (x, instObj 184 d) :: (d, pathD w a1 a2 a3 a4 tm k b' p') :: (tl ++ T)) → (∀ q ∈ tl, (@Ne Nat q.1 k) ∧ (@Ne Nat q.1 d) ∧ ∀ r ∈ T, (@Ne Nat q.1 r.1)) → Out tl fs' b' p' → Q .none { s with heap := h', toks := tk' }) →
    wpAny (model PySem.Challenge.rw_nt0495_01.row.prog w) (ktrTop dp un gd cn cs L a ccd cl outer) (call (.ref f) vs) Q E s
theorem allLt_ne {d : Nat} : ∀ {l : List (Addr × Obj)}, AllLt d l → ∀ r ∈ l, (@Ne Nat d r.1)
  | [], _, _, hr => nomatch hr
  | p :: l, h, r, hr => by
    rcases List.mem_cons.mp hr with rfl | hr
    · exact Nat.ne_of_gt h.1
    · exact allLt_ne h.2 r hr
theorem conP_use {w : World} {f : Addr} {lv : Nat} {a1 a2 a3 a4 tm : Tok} {x d k : Nat} {T : List (Addr × Obj)} {fs : List Value} {n : Nat} {b p : Value} {vs : List Value} {Out : List (Addr × Obj) → List Value → Value → Value → Prop} (C : ConP w f lv a1 a2 a3 a4 tm x d k T fs n b p vs Out)
    {mean : ExcName → Option Value} {mg mb : Str → Option Value} {dp un : Nat} {gd : Option (List Code)} {cn : Str} {cs : Scope} {a : Addr} {ccd : Value} {cl : List (Str × Addr)} {outer : List Env} {A₀ : Around} {base h₀ : Heap} {L : Addr} {m : Str → Option Value} {s : Shared} {Q E : Value → Shared → Prop}
    (B : Below A₀ base outer h₀) (F : Fr h₀ L s.heap m) (X : (Mine.hd.heap_39 w.params).In h₀) (T9 : Top Mine.hd.view_39 loose0 mean mg mb h₀) (hk : cs.kind = .function)
    (N : News h₀ L s.heap ((k, listOf fs.toArray n) :: (x, instObj 184 d) :: (d, pathD w a1 a2 a3 a4 tm k b p) :: T)) (hT : ∀ q ∈ T, (@Ne Nat q.1 k) ∧ (@Ne Nat q.1 d)) (hdx : @LT.lt Nat _ d x) (hxk : @LT.lt Nat _ x k) (hd : dp + lv < recursionLimit) (hu : un + 8 * lv < cLine)
    (ret : ∀ h' tk' tl fs' n' b' p', Fr h₀ L h' m → News h₀ L h' ((k, listOf fs'.toArray n') :: (x, instObj 184 d) :: (d, pathD w a1 a2 a3 a4 tm k b' p') :: (tl ++ T)) → (∀ q ∈ tl ++ T, (@Ne Nat q.1 k) ∧ (@Ne Nat q.1 d)) → (∀ q ∈ tl, ∀ r ∈ T, (@Ne Nat q.1 r.1)) → Out tl fs' b' p' → Q .none { s with heap := h', toks := tk' }) :
    wpAny (model PySem.Challenge.rw_nt0495_01.row.prog w) (ktrTop dp un gd cn cs L a ccd cl outer) (call (.ref f) vs) Q E s :=
  C mean mg mb dp un gd cn cs a ccd cl outer A₀ base h₀ L m s Q E B F X T9 hk N hT hdx hxk hd hu fun h' tk' tl fs' n' b' p' F' N' h1 h2 => ret h' tk' tl fs' n' b' p' F' N' (fun q hq => (List.mem_append.mp hq).elim (fun h => ⟨(h1 q h).1, (h1 q h).2.1⟩) (hT q)) (fun q hq => (h1 q hq).2.2) h2
/-- off the cells, since they stand in the ledger -/
theorem off_of {L : Nat} {a5 a4 a3 a2 : Obj} {tl T : List (Addr × Obj)} (h : ∀ q ∈ tl, ∀ r ∈ T, (@Ne Nat q.1 r.1)) (m5 : (L + 1 + 1 + 1 + 1 + 1, a5) ∈ T) (m4 : (L + 1 + 1 + 1 + 1, a4) ∈ T) (m3 : (L + 1 + 1 + 1, a3) ∈ T) (m2 : (L + 1 + 1, a2) ∈ T) : Off L tl :=
  fun q hq => ⟨h q hq _ m2, h q hq _ m3, h q hq _ m4, h q hq _ m5⟩
def isSeqO (o : Obj) : Bool := match o.data with | .seq _ _ => true | _ => false
mutual
theorem DatIn.monoS {news news' : List (Addr × Obj)} (hs : ∀ p ∈ news, isSeqO p.2 = true → p ∈ news') : ∀ {v : Value} {d : Dat}, DatIn news v d → DatIn news' v d
  | _, _, .none => .none
  | _, _, .bool b => .bool b
  | _, _, .int i t => .int i t
  | _, _, .str x t => .str x t
  | _, _, .bytes b t => .bytes b t
  | _, _, .tuple h r => .tuple (hs _ h rfl) (DatAll.monoS hs r)
  | _, _, .list h r => .list (hs _ h rfl) (DatAll.monoS hs r)
theorem DatAll.monoS {news news' : List (Addr × Obj)} (hs : ∀ p ∈ news, isSeqO p.2 = true → p ∈ news') : ∀ {vs : List Value} {ds : List Dat}, DatAll news vs ds → DatAll news' vs ds
  | _, _, .nil => .nil
  | _, _, .cons h r => .cons (DatIn.monoS hs h) (DatAll.monoS hs r)
end
theorem cell_noSeq {o : Obj} {v : Option Value} (h : o.data = .cell v) : isSeqO o = false := by unfold isSeqO; rw [h]
end
section
local macro_rules | `(tactic| k_enter) => `(tactic| (refine' code_def ?k1 ?k2 ?k3 ?k4 ?k5 ?kA ?kF ?kK ?k6 ?k7 ?k8 ?k9 ?kB ?_ ?c2 ?c3 ?c4 ?c5; (case kA => exact rfl); (case kF => exact rfl); (case kK => first | exact rfl | assumption); (case k1 => k_asm); (case k2 => k_asm); (case k3 => k_asm); (case k4 => k_asm); (case k5 => k_asm); (case k6 => k_is); (case k7 => k_is); (case k8 => k_room); (case k9 => exact binds_zip (by with_unfolding_all rfl)); (case c5 => decide); (case kB => exact locs rfl); (case c2 => exact rfl); (case c3 => exact rfl); (case c4 => exact rfl); k_whole; intro g' L' h' FG' F' N' B' X' T'; (try dsimp only [List.map_cons, List.map_nil, List.zip_cons_cons, List.zip_nil_left, List.zip_nil_right, List.reverse_cons, List.reverse_nil, List.nil_append, List.cons_append] at F'); (try dsimp only); (try k_lift B'); (try k_fold)))
local macro_rules | `(tactic| walk_at "subscriptTail") => `(tactic| (k_here; (with_reducible show wpAny _ _ (subscriptTail _ _ (Value.ref _) (Value.int _ _)) _ _ _); k_dflt (refine' item_list ?l ?a ?b ?c ?_ ?s ?g; (case l => walk_at "MY_LST"); (case c => assumption); (case a => decide); (case b => decide); (case s => with_unfolding_all rfl); (case g => (intro _; with_unfolding_all rfl)); k_whole)))
local macro_rules | `(tactic| walk_at "compareOp NotEq ref ref") => `(tactic| (k_here; k_dflt (refine' ne_nil0 ?H ?ma ?mb ?hu ?_; (case H => exact has_news (by with_reducible assumption)); (case ma => walk_at "MY_MEM"); (case mb => exact List.Mem.head _); (case hu => ((try dsimp only [ktrTop, Around.deeper]); omega)); k_whole); (try dsimp only)))
local macro_rules | `(tactic| walk_at "subscriptTail") => `(tactic| (k_here; (with_reducible show wpAny _ _ (subscriptTail _ _ (Value.ref _) (Value.int (-1) _)) _ _ _); k_dflt (refine' item_last ?l ?_ ?s; (case l => walk_at "MY_LST"); (case s => with_unfolding_all rfl); k_whole)))
local macro_rules | `(tactic| walk_at "compareOp Eq str str") => `(tactic| (k_here; refine eq_strF (by assumption) ?_))
set_option maxRecDepth 100000 in
set_option maxHeartbeats 4000000 in
theorem move_m {w : World} {a1 a2 a3 a4 tm : Tok} {x d k : Nat} {T : List (Addr × Obj)} {n : Nat} {i j : Int} {ti tj : Tok} :
    ConP w 118 14 a1 a2 a3 a4 tm x d k T [] n .none .none [.ref x, .int i ti, .int j tj] (fun tl fs' b' p' => ∃ D nD tD, fs' = [.ref D] ∧ (D, tupO [Value.str (Str.ofString "m") tD, Value.int i ti, Value.int j tj] nD) ∈ tl ∧ (∃ a, b' = .ref a) ∧ ∃ a, p' = .ref a) := by
  unfold ConP
  k_fill
  intro mean mg mb dp un gd cn cs a ccd cl outer A₀ base h₀ L m s Q E B F X T9 hk N hT hdx hxk hroom hunits hret
  have hTk : ∀ q ∈ T, (@Ne Nat q.1 k) := fun q hq => (hT q hq).1
  have hTd : ∀ q ∈ T, (@Ne Nat q.1 d) := fun q hq => (hT q hq).2
  unfold pathD at N
  k_steps
  rename_i tkm D3 _ e3 _ _ D2 _ e2 _ _ D1 _ e1 _ _ _ kF kN _ _
  refine hret _ _ [(D1, tupO [Value.int i ti, Value.int j tj] 0), (D2, tupO [Value.int i ti, Value.int j tj] 0), (D3, tupO [Value.str (Str.ofString "m") (tkm + 1), Value.int i ti, Value.int j tj] 0)] [.ref D3] (n + 1) (.ref D2) (.ref D1) kF (kst_newsOf kN fun q hq => ?_) (fun q hq => ?_) ⟨D3, 0, tkm + 1, rfl, List.Mem.tail _ (List.Mem.tail _ (List.Mem.head _)), ⟨_, rfl⟩, _, rfl⟩
  · simp only [List.mem_cons, List.mem_append, List.not_mem_nil, or_false] at hq
    rcases hq with rfl | rfl | rfl | (rfl | rfl | rfl) | hq <;> walk_at "MY_MEM"
  · simp only [List.mem_cons, List.not_mem_nil, or_false] at hq
    rcases hq with rfl | rfl | rfl
    · exact ⟨Nat.ne_of_gt e1.2.2.2.1, Nat.ne_of_gt e1.2.2.2.2.2.1, allLt_ne e1.2.2.2.2.2.2⟩
    · exact ⟨Nat.ne_of_gt e2.2.2.1, Nat.ne_of_gt e2.2.2.2.2.1, allLt_ne e2.2.2.2.2.2⟩
    · exact ⟨Nat.ne_of_gt e3.2.1, Nat.ne_of_gt e3.2.2.2.1, allLt_ne e3.2.2.2.2⟩
set_option maxRecDepth 100000 in
set_option maxHeartbeats 4000000 in
theorem line_m {w : World} {a1 a2 a3 a4 tm : Tok} {x d k : Nat} {T : List (Addr × Obj)} {n : Nat} {i j : Int} {ti tj : Tok} {fs0 : List Value} {al nl ap : Nat} {ab : Nat} {c : Str} {tc t2 t3 : Tok} {y2 y3 : Int}
    (hfl : fs0.length ≤ 5) (hm : (al, tupO [Value.str c tc, Value.int y2 t2, Value.int y3 t3] nl) ∈ T) (hcz : (c == Str.ofString "z") = false) :
    ConP w 132 14 a1 a2 a3 a4 tm x d k T (fs0 ++ [.ref al]) n (.ref ab) (.ref ap) [.ref x, .int i ti, .int j tj] (fun tl fs' b' p' => ∃ D nD tD, fs' = fs0 ++ [.ref al] ++ [.ref D] ∧ (D, tupO [Value.str (Str.ofString "l") tD, Value.int i ti, Value.int j tj] nD) ∈ tl ∧ b' = .ref ab ∧ ∃ a, p' = .ref a) := by
  unfold ConP
  k_fill
  intro mean mg mb dp un gd cn cs a ccd cl outer A₀ base h₀ L m s Q E B F X T9 hk N hT hdx hxk hroom hunits hret
  have hTk : ∀ q ∈ T, (@Ne Nat q.1 k) := fun q hq => (hT q hq).1
  have hTd : ∀ q ∈ T, (@Ne Nat q.1 d) := fun q hq => (hT q hq).2
  have hlen1 : (fs0 ++ [Value.ref al]).length ≤ 6 := by rw [List.length_append, List.length_singleton]; omega
  unfold pathD at N
  k_steps
  rename_i kF kN _ _
  obtain ⟨D1, D2, tkr, NL2, e1, e2⟩ : ∃ (D1 D2 : Nat) (tkr : Tok), News h₀ L _ ((D1, tupO [Value.int i ti, Value.int j tj] 0) :: (D2, tupO [Value.str (Str.ofString "l") tkr, Value.int i ti, Value.int j tj] 0) :: (k, listOf ((fs0 ++ [Value.ref al]).toArray.push (.ref D2)) (n + 1)) :: (x, instObj 184 d) :: (d, pathD w a1 a2 a3 a4 tm k (.ref ab) (.ref D1)) :: T) ∧ (@LT.lt Nat _ D2 D1 ∧ @LT.lt Nat _ k D1 ∧ @LT.lt Nat _ x D1 ∧ @LT.lt Nat _ d D1 ∧ AllLt D1 T) ∧ (@LT.lt Nat _ k D2 ∧ @LT.lt Nat _ x D2 ∧ @LT.lt Nat _ d D2 ∧ AllLt D2 T) := ⟨_, _, _, kN, by assumption, by assumption⟩
  rw [List.push_toArray] at NL2
  refine hret _ _ [(D1, tupO [Value.int i ti, Value.int j tj] 0), (D2, tupO [Value.str (Str.ofString "l") tkr, Value.int i ti, Value.int j tj] 0)] (fs0 ++ [Value.ref al] ++ [Value.ref D2]) (n + 1) (.ref ab) (.ref D1) kF (kst_newsOf NL2 fun q hq => ?_) (fun q hq => ?_) ⟨D2, 0, tkr, rfl, List.Mem.tail _ (List.Mem.head _), rfl, _, rfl⟩
  · simp only [List.mem_cons, List.mem_append, List.not_mem_nil, or_false] at hq
    rcases hq with rfl | rfl | rfl | (rfl | rfl) | hq <;> walk_at "MY_MEM"
  · simp only [List.mem_cons, List.not_mem_nil, or_false] at hq
    rcases hq with rfl | rfl
    · exact ⟨Nat.ne_of_gt e1.2.1, Nat.ne_of_gt e1.2.2.2.1, allLt_ne e1.2.2.2.2⟩
    · exact ⟨Nat.ne_of_gt e2.1, Nat.ne_of_gt e2.2.2.1, allLt_ne e2.2.2.2⟩
set_option maxRecDepth 100000 in
set_option maxHeartbeats 4000000 in
theorem curve_m {w : World} {a1 a2 a3 a4 tm : Tok} {x d k : Nat} {T : List (Addr × Obj)} {n : Nat} {i1 j1 i2 j2 i3 j3 : Int} {ti1 tj1 ti2 tj2 ti3 tj3 : Tok} {fs0 : List Value} {al nl ap : Nat} {ab : Nat} {c : Str} {tc t2 t3 : Tok} {y2 y3 : Int}
    (hfl : fs0.length ≤ 5) (hm : (al, tupO [Value.str c tc, Value.int y2 t2, Value.int y3 t3] nl) ∈ T) (hcz : (c == Str.ofString "z") = false) :
    ConP w 139 14 a1 a2 a3 a4 tm x d k T (fs0 ++ [.ref al]) n (.ref ab) (.ref ap) [.ref x, .int i1 ti1, .int j1 tj1, .int i2 ti2, .int j2 tj2, .int i3 ti3, .int j3 tj3] (fun tl fs' b' p' => ∃ D nD tD, fs' = fs0 ++ [.ref al] ++ [.ref D] ∧ (D, tupO [Value.str (Str.ofString "c") tD, Value.int i1 ti1, Value.int j1 tj1, Value.int i2 ti2, Value.int j2 tj2, Value.int i3 ti3, Value.int j3 tj3] nD) ∈ tl ∧ b' = .ref ab ∧ ∃ a, p' = .ref a) := by
  unfold ConP
  k_fill
  intro mean mg mb dp un gd cn cs a ccd cl outer A₀ base h₀ L m s Q E B F X T9 hk N hT hdx hxk hroom hunits hret
  have hTk : ∀ q ∈ T, (@Ne Nat q.1 k) := fun q hq => (hT q hq).1
  have hTd : ∀ q ∈ T, (@Ne Nat q.1 d) := fun q hq => (hT q hq).2
  have hlen1 : (fs0 ++ [Value.ref al]).length ≤ 6 := by rw [List.length_append, List.length_singleton]; omega
  unfold pathD at N
  k_steps
  rename_i kF kN _ _
  obtain ⟨D1, D2, tkr, NL2, e1, e2⟩ : ∃ (D1 D2 : Nat) (tkr : Tok), News h₀ L _ ((D1, tupO [Value.int i3 ti3, Value.int j3 tj3] 0) :: (D2, tupO [Value.str (Str.ofString "c") tkr, Value.int i1 ti1, Value.int j1 tj1, Value.int i2 ti2, Value.int j2 tj2, Value.int i3 ti3, Value.int j3 tj3] 0) :: (k, listOf ((fs0 ++ [Value.ref al]).toArray.push (.ref D2)) (n + 1)) :: (x, instObj 184 d) :: (d, pathD w a1 a2 a3 a4 tm k (.ref ab) (.ref D1)) :: T) ∧ (@LT.lt Nat _ D2 D1 ∧ @LT.lt Nat _ k D1 ∧ @LT.lt Nat _ x D1 ∧ @LT.lt Nat _ d D1 ∧ AllLt D1 T) ∧ (@LT.lt Nat _ k D2 ∧ @LT.lt Nat _ x D2 ∧ @LT.lt Nat _ d D2 ∧ AllLt D2 T) := ⟨_, _, _, kN, by assumption, by assumption⟩
  rw [List.push_toArray] at NL2
  refine hret _ _ [(D1, tupO [Value.int i3 ti3, Value.int j3 tj3] 0), (D2, tupO [Value.str (Str.ofString "c") tkr, Value.int i1 ti1, Value.int j1 tj1, Value.int i2 ti2, Value.int j2 tj2, Value.int i3 ti3, Value.int j3 tj3] 0)] (fs0 ++ [Value.ref al] ++ [Value.ref D2]) (n + 1) (.ref ab) (.ref D1) kF (kst_newsOf NL2 fun q hq => ?_) (fun q hq => ?_) ⟨D2, 0, tkr, rfl, List.Mem.tail _ (List.Mem.head _), rfl, _, rfl⟩
  · simp only [List.mem_cons, List.mem_append, List.not_mem_nil, or_false] at hq
    rcases hq with rfl | rfl | rfl | (rfl | rfl) | hq <;> walk_at "MY_MEM"
  · simp only [List.mem_cons, List.not_mem_nil, or_false] at hq
    rcases hq with rfl | rfl
    · exact ⟨Nat.ne_of_gt e1.2.1, Nat.ne_of_gt e1.2.2.2.1, allLt_ne e1.2.2.2.2⟩
    · exact ⟨Nat.ne_of_gt e2.1, Nat.ne_of_gt e2.2.2.1, allLt_ne e2.2.2.2⟩
set_option maxRecDepth 100000 in
set_option maxHeartbeats 4000000 in
theorem close_m {w : World} {a1 a2 a3 a4 tm : Tok} {x d k : Nat} {T : List (Addr × Obj)} {n : Nat} {i1 j1 i2 j2 i3 j3 : Int} {ti1 tj1 ti2 tj2 ti3 tj3 : Tok} {fs0 : List Value} {al nl ap : Nat} {ab : Nat} {c : Str} {tc : Tok}
    (hfl : fs0.length ≤ 5) (hm : (al, tupO [Value.str c tc, Value.int i1 ti1, Value.int j1 tj1, Value.int i2 ti2, Value.int j2 tj2, Value.int i3 ti3, Value.int j3 tj3] nl) ∈ T) (hcz : (c == Str.ofString "z") = false) :
    ConP w 146 14 a1 a2 a3 a4 tm x d k T (fs0 ++ [.ref al]) n (.ref ab) (.ref ap) [.ref x] (fun tl fs' b' p' => ∃ D nD tD, fs' = fs0 ++ [.ref al] ++ [.ref D] ∧ (D, tupO [Value.str (Str.ofString "z") tD] nD) ∈ tl) := by
  unfold ConP
  k_fill
  intro mean mg mb dp un gd cn cs a ccd cl outer A₀ base h₀ L m s Q E B F X T9 hk N hT hdx hxk hroom hunits hret
  have hTk : ∀ q ∈ T, (@Ne Nat q.1 k) := fun q hq => (hT q hq).1
  have hTd : ∀ q ∈ T, (@Ne Nat q.1 d) := fun q hq => (hT q hq).2
  have hlen1 : (fs0 ++ [Value.ref al]).length ≤ 6 := by rw [List.length_append, List.length_singleton]; omega
  unfold pathD at N
  k_steps
  rename_i kF kN _ _
  obtain ⟨D2, tkr, NL2, e2⟩ : ∃ (D2 : Nat) (tkr : Tok), News h₀ L _ ((D2, tupO [Value.str (Str.ofString "z") tkr] 0) :: (k, listOf ((fs0 ++ [Value.ref al]).toArray.push (.ref D2)) (n + 1)) :: (x, instObj 184 d) :: (d, pathD w a1 a2 a3 a4 tm k (.ref ab) (.ref ab)) :: T) ∧ (@LT.lt Nat _ k D2 ∧ @LT.lt Nat _ x D2 ∧ @LT.lt Nat _ d D2 ∧ AllLt D2 T) := ⟨_, _, kN, by assumption⟩
  rw [List.push_toArray] at NL2
  refine hret _ _ [(D2, tupO [Value.str (Str.ofString "z") tkr] 0)] (fs0 ++ [Value.ref al] ++ [Value.ref D2]) (n + 1) (.ref ab) (.ref ab) kF (kst_newsOf NL2 fun q hq => ?_) (fun q hq => ?_) ⟨D2, 0, tkr, rfl, List.Mem.head _⟩
  · simp only [List.mem_cons, List.mem_append, List.not_mem_nil, or_false] at hq
    rcases hq with rfl | rfl | rfl | rfl | hq <;> walk_at "MY_MEM"
  · simp only [List.mem_cons, List.not_mem_nil, or_false] at hq
    rcases hq with rfl
    exact ⟨Nat.ne_of_gt e2.1, Nat.ne_of_gt e2.2.2.1, allLt_ne e2.2.2.2⟩
end
section
local macro_rules | `(tactic| k_enter) => `(tactic| (refine' code_def ?k1 ?k2 ?k3 ?k4 ?k5 ?kA ?kF ?kK ?k6 ?k7 ?k8 ?k9 ?kB ?_ ?c2 ?c3 ?c4 ?c5; (case kA => exact rfl); (case kF => exact rfl); (case kK => first | exact rfl | assumption); (case k1 => k_asm); (case k2 => k_asm); (case k3 => k_asm); (case k4 => k_asm); (case k5 => k_asm); (case k6 => k_is); (case k7 => k_is); (case k8 => k_room); (case k9 => exact binds_zip (by with_unfolding_all rfl)); (case c5 => decide); (case kB => exact locs rfl); (case c2 => exact rfl); (case c3 => exact rfl); (case c4 => exact rfl); k_whole; intro g' L' h' FG' F' N' B' X' T'; (try dsimp only [List.map_cons, List.map_nil, List.zip_cons_cons, List.zip_nil_left, List.zip_nil_right, List.reverse_cons, List.reverse_nil, List.nil_append, List.cons_append] at F'); (try dsimp only); (try k_lift B'); (try k_fold)))
local macro_rules | `(tactic| walk_at "call ref") => `(tactic| (k_here; (with_reducible show wpAny _ _ (call (Value.ref 243) _) _ _ _); refine stop_here ?_))
local macro_rules | `(tactic| walk_at "call ref") => `(tactic| (k_here; (with_reducible show wpAny _ _ (call (Value.ref 196) _) _ _ _); refine stop_here ?_))
/-- a method of a path that reads alone -/
def ConR (w : World) (f : Addr) (lv : Nat) (a1 a2 a3 a4 tm : Tok) (x d k : Nat) (T : List (Addr × Obj)) (fs : List Value) (n : Nat) (b p : Value) (vs : List Value) (Out : List (Addr × Obj) → Value → Prop) : Prop :=
  ∀ (mean : ExcName → Option Value) (mg mb : Str → Option Value) (dp un : Nat) (gd : Option (List Code)) (cn : Str) (cs : Scope) (a : Addr) (ccd : Value) (cl : List (Str × Addr)) (outer : List Env) (A₀ : Around) (base h₀ : Heap) (L : Addr) (m : Str → Option Value) (s : Shared) (Q E : Value → Shared → Prop),
    Below A₀ base outer h₀ → Fr h₀ L s.heap m → (Mine.hd.heap_39 w.params).In h₀ → Top Mine.hd.view_39 loose0 mean mg mb h₀ → cs.kind = .function →
    News h₀ L s.heap T → (x, instObj 184 d) ∈ T → (d, pathD w a1 a2 a3 a4 tm k b p) ∈ T → (k, listOf fs.toArray n) ∈ T → dp + lv < recursionLimit → un + 8 * lv < cLine →
    (∀ h' tk' tl r, Fr h₀ L h' m → News h₀ L h' (tl ++ T) → (∀ q ∈ tl, ∀ r ∈ T, (@Ne Nat q.1 r.1)) → Out tl r → Q r { s with heap := h', toks := tk' }) →
    wpAny (model PySem.Challenge.rw_nt0495_01.row.prog w) (ktrTop dp un gd cn cs L a ccd cl outer) (call (.ref f) vs) Q E s
local macro_rules | `(tactic| walk_at "call type:list") => `(tactic| (k_here; (with_reducible show wpAny _ _ (call (Value.type _) [Value.ref _]) _ _ _); k_dflt (refine' list_copyK ?k1 ?k2 ?k3 ?_ ?z; (case k1 => with_reducible assumption); (case k2 => with_reducible assumption); (case k3 => exact News.isList (by with_reducible assumption) (by assumption)); (case z => (rw [sizeLine_eq, List.size_toArray]; omega)); k_whole); intro D' c' h' F' N' l1; (try k_sweep)))
set_option maxRecDepth 100000 in
set_option maxHeartbeats 4000000 in
theorem rows_m {w : World} {a1 a2 a3 a4 tm : Tok} {x d k : Nat} {T : List (Addr × Obj)} {fs : List Value} {n : Nat} {b p : Value} (hfl : fs.length ≤ 3000) :
    ConR w 76 14 a1 a2 a3 a4 tm x d k T fs n b p [.ref x] (fun tl r => ∃ D nD, r = .ref D ∧ (D, listOf fs.toArray nD) ∈ tl) := by
  unfold ConR
  k_fill
  intro mean mg mb dp un gd cn cs a ccd cl outer A₀ base h₀ L m s Q E B F X T9 hk N mx md mk hroom hunits hret
  unfold pathD at md
  k_steps
  rename_i D c _ _ _ l1 kF kN _ _
  exact hret _ _ [(D, listOf fs.toArray c)] _ kF kN (fun q hq r hr => by rw [List.mem_singleton.mp hq]; exact Nat.ne_of_gt (l1 r hr)) ⟨D, c, rfl, List.Mem.head _⟩
set_option maxRecDepth 100000 in
set_option maxHeartbeats 4000000 in
theorem flat_m {w : World} {a1 a2 a3 a4 tm : Tok} {x d k : Nat} {T : List (Addr × Obj)} {fs : List Value} {n : Nat} {b p : Value} {f : Int} {tf : Tok} (rows : List Row) {pp : Pt} {ls : List Pt} {cz : Bool} (hD : DatAll T fs (rows.map rowD)) (hok : RowsOk none rows) (hf : 0 ≤ f ∧ f ≤ 100)
    (hflat : flatFrom f none rows = pathRows pp ls cz) (hls : ls.length ≤ 1300) :
    ConR w 167 40 a1 a2 a3 a4 tm x d k T fs n b p [.ref x, .int f tf] (fun tl r => PathOut w (pathRows pp ls cz) tl T r) := by
  unfold ConR
  k_fill
  intro mean mg mb dp un gd cn cs a ccd cl outer A₀ base h₀ L m s Q E B F X T9 hk N mx md mk hroom hunits hret
  unfold pathD at md
  k_steps
  refine Stop.mk ?_
  have htot : (flatFrom f none rows).length ≤ 5000 := by
    rw [hflat, pathRows, List.length_cons, List.length_append, List.length_map]
    split <;> simp <;> omega
  refine' con_useG (flattened_con rows f hok ⟨by omega, by omega⟩ htot) (big := T) ?k1 ?k2 ?k3 ?k4 ?k5 ?kK ?kb ?kD ?kd ?ku ?_
  case k1 => k_asm
  case k2 => k_asm
  case k3 => k_asm
  case k4 => k_asm
  case k5 => k_asm
  case kK => exact rfl
  case kb => exact has_news (by with_reducible assumption)
  case kD => exact .cons (.list mk hD) (.cons (.int _ _) .nil)
  case kd => (try dsimp only [ktrTop, Around.deeper]); omega
  case ku => (try dsimp only [ktrTop, Around.deeper]); omega
  intro r1 tl1 h1 tk1 F1 N1 hl1 ho1
  have ho2 : DatIn (tl1 ++ T) r1 (.list ((pathRows pp ls cz).map rowD)) := hflat ▸ ho1
  clear ho1
  have mx1 : (x, instObj 184 d) ∈ tl1 ++ T := List.mem_append.mpr (.inr mx)
  have md1 := List.mem_append_right tl1 md
  have mk1 := List.mem_append_right tl1 mk
  clear mx md mk hD
  k_steps
  refine Stop.mk ?_
  refine' conW_useG (pathof_con w pp ls cz hls) (big := tl1 ++ T) ?k1 ?k2 ?k3 ?k4 ?k5 ?kK ?kb ?kD ?kd ?ku ?_
  case k1 => k_asm
  case k2 => k_asm
  case k3 => k_asm
  case k4 => k_asm
  case k5 => k_asm
  case kK => exact rfl
  case kb => exact has_news (by with_reducible assumption)
  case kD => exact .cons ho2 (.cons (.int _ _) .nil)
  case kd => (try dsimp only [ktrTop, Around.deeper]); omega
  case ku => (try dsimp only [ktrTop, Around.deeper]); omega
  intro r2 tl2 h2 tk2 F2 N2 hl2 ho3
  k_steps
  rename_i kF kN _ _
  obtain ⟨x2, d2, k2, c1, c2, c3, c4, tm2, b2, p2, fs2, n2, rfl, m1, m2, m3, hd⟩ := ho3
  refine hret _ _ (tl2 ++ tl1) _ kF (by rw [List.append_assoc]; exact kN) (fun q hq r hr => ?_) ⟨x2, d2, k2, c1, c2, c3, c4, tm2, b2, p2, fs2, n2, rfl, List.mem_append.mpr (.inl m1), List.mem_append.mpr (.inl m2), List.mem_append.mpr (.inl m3), by rw [List.append_assoc]; exact hd⟩
  rcases List.mem_append.mp hq with hq | hq
  · exact hl2 r (List.mem_append.mpr (.inr hr)) q hq
  · exact hl1 r hr q hq
theorem conR_use {w : World} {f : Addr} {lv : Nat} {a1 a2 a3 a4 tm : Tok} {x d k : Nat} {T : List (Addr × Obj)} {fs : List Value} {n : Nat} {b p : Value} {vs : List Value} {Out : List (Addr × Obj) → Value → Prop} (C : ConR w f lv a1 a2 a3 a4 tm x d k T fs n b p vs Out)
    {mean : ExcName → Option Value} {mg mb : Str → Option Value} {dp un : Nat} {gd : Option (List Code)} {cn : Str} {cs : Scope} {a : Addr} {ccd : Value} {cl : List (Str × Addr)} {outer : List Env} {A₀ : Around} {base h₀ : Heap} {L : Addr} {m : Str → Option Value} {s : Shared} {Q E : Value → Shared → Prop}
    (B : Below A₀ base outer h₀) (F : Fr h₀ L s.heap m) (X : (Mine.hd.heap_39 w.params).In h₀) (T9 : Top Mine.hd.view_39 loose0 mean mg mb h₀) (hk : cs.kind = .function)
    (N : News h₀ L s.heap T) (mx : (x, instObj 184 d) ∈ T) (md : (d, pathD w a1 a2 a3 a4 tm k b p) ∈ T) (mk : (k, listOf fs.toArray n) ∈ T) (hd : dp + lv < recursionLimit) (hu : un + 8 * lv < cLine)
    (ret : ∀ h' tk' tl r, Fr h₀ L h' m → News h₀ L h' (tl ++ T) → (∀ q ∈ tl, ∀ r ∈ T, (@Ne Nat q.1 r.1)) → Out tl r → Q r { s with heap := h', toks := tk' }) :
    wpAny (model PySem.Challenge.rw_nt0495_01.row.prog w) (ktrTop dp un gd cn cs L a ccd cl outer) (call (.ref f) vs) Q E s :=
  C mean mg mb dp un gd cn cs a ccd cl outer A₀ base h₀ L m s Q E B F X T9 hk N mx md mk hd hu ret
end
section
section
variable {prog : Program} {w : World} {A : Around} {E : Value → Shared → Prop} {s : Shared} {h₀ : Heap} {L : Addr} {m : Str → Option Value} {news : List (Addr × Obj)}
theorem ne_dat {a b : Value} {d e : Dat} {Q : Value → Shared → Prop} (N : News h₀ L s.heap news) (Da : DatIn news a d) (Db : DatIn news b e) (ha : kqdOk 9 d = true) (hb : kqdOk 9 e = true) (hu : A.units + 64 < cLine)
    (c : Bool) (hc : c = true ↔ d ≠ e) (h : Q (.bool c) s) : wpAny (model prog w) A (compareOp .NotEq a b) Q E s := by
  obtain ⟨as, ra⟩ := kqd_in N 9 Da ha
  obtain ⟨bs, rb⟩ := kqd_in N 9 Db hb
  have la := kqd_lay 9 d ha
  have lb := kqd_lay 9 e hb
  have q := kqd_eqv 9 d e 9 ha hb
  refine ne_dataH ra rb ?_ ?_ hu ?_
  · unfold SeqAt.shaped; rw [la.1, Bool.true_and]; exact decide_eq_true (Nat.le_trans la.2 (by decide))
  · unfold SeqAt.shaped; rw [lb.1, Bool.true_and]; exact decide_eq_true (Nat.le_trans lb.2 (by decide))
  · have e2 : (!PyData.eqv (kqdP d) (kqdP e)) = c := by
      cases hx : PyData.eqv (kqdP d) (kqdP e) with
      | true =>
        have hd := q.mp hx
        cases c with
        | true => exact absurd hd (hc.mp rfl)
        | false => rfl
      | false =>
        cases c with
        | true => rfl
        | false =>
          have hd : d = e := Classical.byContradiction fun x => by simpa using hc.mpr x
          rw [q.mpr hd] at hx
          cases hx
    rw [e2]
    exact h
theorem eq_dat {a b : Value} {d e : Dat} {Q : Value → Shared → Prop} (N : News h₀ L s.heap news) (Da : DatIn news a d) (Db : DatIn news b e) (ha : kqdOk 9 d = true) (hb : kqdOk 9 e = true) (hu : A.units + 64 < cLine)
    (c : Bool) (hc : c = true ↔ d = e) (h : Q (.bool c) s) : wpAny (model prog w) A (compareOp .Eq a b) Q E s := by
  obtain ⟨as, ra⟩ := kqd_in N 9 Da ha
  obtain ⟨bs, rb⟩ := kqd_in N 9 Db hb
  have la := kqd_lay 9 d ha
  have lb := kqd_lay 9 e hb
  have q := kqd_eqv 9 d e 9 ha hb
  refine eq_dataH ra rb ?_ ?_ hu ?_
  · unfold SeqAt.shaped; rw [la.1, Bool.true_and]; exact decide_eq_true (Nat.le_trans la.2 (by decide))
  · unfold SeqAt.shaped; rw [lb.1, Bool.true_and]; exact decide_eq_true (Nat.le_trans lb.2 (by decide))
  · have e2 : PyData.eqv (kqdP d) (kqdP e) = c := by
      cases hx : PyData.eqv (kqdP d) (kqdP e) with
      | true =>
        cases c with
        | true => rfl
        | false => exact absurd (hc.mpr (q.mp hx)) Bool.false_ne_true
      | false =>
        cases c with
        | false => rfl
        | true =>
          rw [q.mpr (hc.mp rfl)] at hx
          cases hx
    rw [e2]
    exact h
theorem cut_upto {value slice : Expr} {l : Addr} {vs : List Value} {n : Int} {u : Tok} {k : Nat} {Q : Value → Shared → Prop} (hn : n = (k : Int)) (F : Fr h₀ L s.heap m) (N : News h₀ L s.heap news) (hl : s.heap.IsList l vs.toArray)
    (h : ∀ D h', Fr h₀ L h' m → News h₀ L h' ((D, listOf (vs.take k).toArray 0) :: news) → (∀ p ∈ news, p.1 < D) → Q (.ref D) { s with heap := h' })
    (hs : subscripted slice false (.ref l) (.ref s.heap.objs.size) = operate [.ref s.heap.objs.size, .ref l] (getItem (.ref l) (.ref s.heap.objs.size))) (ht : ∀ r, letTemporaryGo value (.ref l) r = pure ()) (hz : vs.length ≤ sizeLine) :
    wpAny (model prog w) A (subscriptTail value slice (.ref l) (.ref s.heap.objs.size)) Q E { s with heap := s.heap.push { cls := .type "slice", data := .fields #[.none, .int n u, .none] } } := by
  subst hn
  refine kmk_slice F N hl .none (.int _ _) (fun D h' F' N' l1 => h D h' F' ?_ l1) hs ht (by simpa using hz)
  rw [slicePick_upto'] at N'
  exact N'
theorem cut_from {value slice : Expr} {l : Addr} {vs : List Value} {n : Int} {u : Tok} {k : Nat} {Q : Value → Shared → Prop} (hn : n = (k : Int)) (F : Fr h₀ L s.heap m) (N : News h₀ L s.heap news) (hl : s.heap.IsList l vs.toArray)
    (h : ∀ D h', Fr h₀ L h' m → News h₀ L h' ((D, listOf (vs.drop k).toArray 0) :: news) → (∀ p ∈ news, p.1 < D) → Q (.ref D) { s with heap := h' })
    (hs : subscripted slice false (.ref l) (.ref s.heap.objs.size) = operate [.ref s.heap.objs.size, .ref l] (getItem (.ref l) (.ref s.heap.objs.size))) (ht : ∀ r, letTemporaryGo value (.ref l) r = pure ()) (hz : vs.length ≤ sizeLine) :
    wpAny (model prog w) A (subscriptTail value slice (.ref l) (.ref s.heap.objs.size)) Q E { s with heap := s.heap.push { cls := .type "slice", data := .fields #[.int n u, .none, .none] } } := by
  subst hn
  refine kmk_slice F N hl (.int _ _) .none (fun D h' F' N' l1 => h D h' F' ?_ l1) hs ht (by simpa using hz)
  rw [slicePick_from'] at N'
  exact N'
end
theorem DatAll.take {T : List (Addr × Obj)} : ∀ {vs : List Value} {ds : List Dat}, DatAll T vs ds → ∀ k, DatAll T (vs.take k) (ds.take k)
  | _, _, .nil, k => by simp; exact .nil
  | _, _, .cons h r, 0 => .nil
  | _, _, .cons h r, k + 1 => .cons h (DatAll.take r k)
theorem DatAll.drop {T : List (Addr × Obj)} : ∀ {vs : List Value} {ds : List Dat}, DatAll T vs ds → ∀ k, DatAll T (vs.drop k) (ds.drop k)
  | _, _, .nil, k => by simp; exact .nil
  | _, _, .cons h r, 0 => .cons h r
  | _, _, .cons h r, k + 1 => DatAll.drop r k
theorem listD_ok {rows : List Row} : kqdOk 9 (.list (rows.map rowD)) = true := by
  have h := rowsD_ok rows
  unfold kqdOk
  exact List.all_eq_true.mpr h
def lawP (q : Quad) (ah : Bool) : Pt := if ah then (7, -7) else q.1
def lawLs (q : Quad) (f : Int) (ah : Bool) : List Pt := (if ah then [q.1] else []) ++ ends f 10 q
theorem flat_law (q : Quad) (f : Int) (ah cz : Bool) : flatFrom f none (lawRows q ah cz) = pathRows (lawP q ah) (lawLs q f ah) cz := by
  cases ah <;> cases cz <;> simp [lawRows, flatFrom, pathRows, lawP, lawLs]
theorem rowsOk_law {q : Quad} (hq : QB 3000 q) (ah cz : Bool) : RowsOk none (lawRows q ah cz) := by
  have h : QB 1000000 (q.1, q.2.1, q.2.2.1, q.2.2.2) := by
    simp only [QB, PB] at hq ⊢
    omega
  cases ah <;> cases cz <;> exact ⟨⟨_, rfl, h⟩, trivial⟩
theorem lawLs_length (q : Quad) (f : Int) (ah : Bool) : (lawLs q f ah).length ≤ 1300 := by
  have h := (ends_length f 10 q).2
  unfold lawLs
  rw [List.length_append]
  cases ah <;> simp <;> omega
theorem lawLs_ne (q : Quad) (f : Int) (ah : Bool) : lawLs q f ah ≠ [] := by
  have h := (ends_length f 10 q).1
  intro e
  have h2 := congrArg List.length e
  unfold lawLs at h2
  rw [List.length_append, List.length_nil] at h2
  omega
theorem pathRows_last {p : Pt} {ls : List Pt} (h : ls ≠ []) : ∃ rows0 pt, pathRows p ls false = rows0 ++ [Row.l pt] := by
  rcases nil_or_snoc ls with e | ⟨l', x, e⟩
  · exact absurd e h
  · exact ⟨Row.m p :: l'.map Row.l, x, by rw [e]; simp [pathRows]⟩
theorem list_last {T : List (Addr × Obj)} {l : Nat} {rows : List Row} {r : Row} (D : DatIn T (.ref l) (.list ((rows ++ [r]).map rowD))) : ∃ vs v n, (l, listOf (vs ++ [v]).toArray n) ∈ T ∧ DatIn T v (rowD r) ∧ vs.length = rows.length := by
  obtain ⟨a, vs, n, e, h1, h2⟩ := list_of D
  cases e
  rw [List.map_append, List.map_singleton] at h2
  obtain ⟨vs0, v, rfl, g1, g2⟩ := datAll_concat h2
  exact ⟨vs0, v, n, h1, g2, by have := g1.length; rwa [List.length_map] at this⟩
/-- one test alone -/
theorem forIn_one {M : Model} {A : Around} {E : Value → Shared → Prop} {s : Shared} {c : Expr} {env : Env} {P : Bool → Shared → Prop} (h : wpAny M A (isTrue c env (eval c env)) (fun ok s' => P ok s') E s) :
    wpAny M A (forIn [c] true fun c r => if r = true then do let ok ← isTrue c env (eval c env); pure (ForInStep.yield ok) else pure (ForInStep.yield r)) (fun ok s' => P ok s') E s := by
  simp only [List.forIn_cons, List.forIn_nil, if_true]
  refine wpAny_bind (wpAny_bind (wpAny_mono h (fun ok s' hp => ?_) fun _ _ e => e))
  exact wpAny_pure (wpAny_pure hp)
theorem filter_lt : ∀ (k n : Nat), n ≤ k → (List.range k).filter (fun i => decide (i < n)) = List.range n
  | 0, n, h => by
    have : n = 0 := by omega
    subst this; rfl
  | k + 1, n, h => by
    rw [List.range_succ, List.filter_append]
    by_cases e : n = k + 1
    · subst e
      rw [List.filter_eq_self.mpr (by intro i hi; exact decide_eq_true (by have := List.mem_range.mp hi; omega)), List.filter_eq_self.mpr (by intro i hi; rw [List.mem_singleton.mp hi]; exact decide_eq_true (by omega)), List.range_succ]
    · rw [filter_lt k n (by omega), List.filter_eq_nil_iff.mpr (by intro i hi; rw [List.mem_singleton.mp hi]; simp; omega), List.append_nil]
/-- the rows behind the first ones -/
theorem rows_drop (q : Quad) (f : Int) (ah : Int) (h : ah = 0 ∨ ah = 1) (cz : Bool) : (pathRows (lawP q (decide (ah = 1))) (lawLs q f (decide (ah = 1))) cz).drop (1 + ah).toNat = (ends f 10 q).map Row.l ++ (if cz then [Row.z] else []) := by
  rcases h with rfl | rfl
  · rfl
  · rfl
/-- the first part of a list -/
theorem datAll_first {T : List (Addr × Obj)} {vs ws : List Value} {ds es : List Dat} (h : DatAll T vs (ds ++ es)) (hl : ws.length = ds.length) (hw : ∀ (j : Nat) v, ws[j]? = some v → vs[j]? = some v) : DatAll T ws ds := by
  have e : ws = vs.take ds.length := by
    have hv := h.length
    rw [List.length_append] at hv
    apply List.ext_getElem?
    intro j
    by_cases hj : j < ds.length
    · rw [List.getElem?_take, if_pos hj, hw j (ws[j]'(by omega)) (List.getElem?_eq_getElem (by omega))]
      exact List.getElem?_eq_getElem (by omega)
    · rw [List.getElem?_eq_none (by omega), List.getElem?_take, if_neg hj]
  have h2 := Mine.DatAll.take h ds.length
  rw [List.take_left'  rfl] at h2
  rw [e]
  exact h2
theorem rowD_ok9 (r : Row) : kqdOk 9 (rowD r) = true := by
  cases r <;> (simp [rowD, kqdOk]; decide +kernel)
theorem list_last2 {T : List (Addr × Obj)} {l : Nat} {rows : List Row} {r : Row} (D : DatIn T (.ref l) (.list ((rows ++ [r]).map rowD))) : ∃ vs v n, (l, listOf (vs ++ [v]).toArray n) ∈ T ∧ DatIn T v (rowD r) ∧ vs.length = rows.length ∧ DatAll T (vs ++ [v]) ((rows ++ [r]).map rowD) := by
  obtain ⟨a, vs, n, e, h1, h2⟩ := list_of D
  cases e
  have h3 := h2
  rw [List.map_append, List.map_singleton] at h2
  obtain ⟨vs0, v, rfl, g1, g2⟩ := datAll_concat h2
  exact ⟨vs0, v, n, h1, g2, by have := g1.length; rwa [List.length_map] at this, h3⟩
/-- the row of a line -/
theorem lrow_of {T : List (Addr × Obj)} {v : Value} {p : Pt} (h : DatIn T v (rowD (.l p))) : ∃ a n t0 t1 t2, v = .ref a ∧ (a, tupO [Value.str (Str.ofString "l") t0, Value.int p.1 t1, Value.int p.2 t2] n) ∈ T := by
  have h : DatIn T v (.tuple [.str (Str.ofString "l"), .int p.1, .int p.2]) := h
  cases h with
  | tuple hm hd =>
    obtain ⟨x, y, z, rfl, h1, h2, h3⟩ := all3 hd
    obtain ⟨t0, rfl⟩ := str_of h1
    obtain ⟨t1, rfl⟩ := int_of h2
    obtain ⟨t2, rfl⟩ := int_of h3
    exact ⟨_, _, _, _, _, rfl, hm⟩
section
variable {prog : Program} {w : World} {A : Around} {E : Value → Shared → Prop} {s : Shared}
/-- a tuple's end, laid on top of the heap -/
theorem cut_tup {value slice : Expr} {t : Addr} {items : Array Value} {a : Nat} {u : Tok} {Q : Value → Shared → Prop} (ht : IsTup s.heap t items) (h1 : 1 ≤ a) (ha : a ≤ items.size)
    (h : Q (.ref (s.heap.objs.size + 1)) { s with heap := (s.heap.push { cls := .type "slice", data := .fields #[.int a u, .none, .none] }).push { cls := .type "tuple", data := .seq (items.toList.drop a).toArray } })
    (hs : subscripted slice false (.ref t) (.ref s.heap.objs.size) = operate [.ref s.heap.objs.size, .ref t] (getItem (.ref t) (.ref s.heap.objs.size)))
    (hg : ∀ r, letTemporaryGo value (.ref t) r = pure ()) (hsz : items.size ≤ sizeLine) :
    wpAny (model prog w) A (subscriptTail value slice (.ref t) (.ref s.heap.objs.size)) Q E { s with heap := s.heap.push { cls := .type "slice", data := .fields #[.int a u, .none, .none] } } := by
  refine subscriptTail_ops (s := { s with heap := s.heap.push { cls := .type "slice", data := .fields #[.int a u, .none, .none] } }) (ht.keeps fun _ _ e => Heap.get?_push_of_some _ e).typeIs slot_tuple_getitem.lookup
    (getItem_tuple_from (ht.keeps fun _ _ e => Heap.get?_push_of_some _ e) (Heap.IsSliceOf.new ..) h1 ha ?_ hsz) hs hg
  show Q (.ref (s.heap.push _).objs.size) _
  rw [Heap.size_push]
  exact h
end
theorem map_getD {α β : Type} (g : α → β) (d : α) (l : List α) {n : Nat} (hn : n = l.length) : (List.range' 0 n).map (fun i => g (l.getD i d)) = l.map g := by
  subst hn
  apply List.ext_getElem
  · simp
  · intro i h1 h2
    rw [List.length_map] at h2
    simp [List.getD_eq_getElem?_getD, List.getElem?_eq_getElem h2]
/-- what lies on top of the heap is off all that stands -/
theorem off_top {h₀ h : Heap} {L : Nat} {a5 a4 a3 a2 : Obj} {news : List (Addr × Obj)} (N : News h₀ L h news) (m5 : (L + 1 + 1 + 1 + 1 + 1, a5) ∈ news) (m4 : (L + 1 + 1 + 1 + 1, a4) ∈ news) (m3 : (L + 1 + 1 + 1, a3) ∈ news) (m2 : (L + 1 + 1, a2) ∈ news) :
    (@Ne Nat h.objs.size (L + 1 + 1)) ∧ (@Ne Nat h.objs.size (L + 1 + 1 + 1)) ∧ (@Ne Nat h.objs.size (L + 1 + 1 + 1 + 1)) ∧ (@Ne Nat h.objs.size (L + 1 + 1 + 1 + 1 + 1)) :=
  ⟨Nat.ne_of_gt (Heap.lt_size (N _ m2).1), Nat.ne_of_gt (Heap.lt_size (N _ m3).1), Nat.ne_of_gt (Heap.lt_size (N _ m4).1), Nat.ne_of_gt (Heap.lt_size (N _ m5).1)⟩
end
section
section
variable {prog : Program} {w : World} {A : Around} {E : Value → Shared → Prop} {s : Shared} {env : Env} {h₀ : Heap} {target : Expr} {body : List Stmt} {Q : Flow → Shared → Prop}
/-- a for over what a new iterator walks; what it reads stays -/
theorem turn_gen {σ : Type} {cn : String} {io : Obj} {kp : List (Addr × Obj)} {nn : Nat} {P0 : Nat → Value → Prop} {St : Nat → Heap → Prop} {m₀ : Str → Option Value} (Led : σ → List (Addr × Obj)) (ps : σ → List (Str × Value)) (stored : List Str) (P : Nat → σ → Prop) (c₀ : σ)
    (W : Walks prog w A s.heap.objs.size (s.heap.objs.size :: kp.map (·.1)) [s.heap.objs.size] nn P0 St)
    (hlet : ∀ i v (s' : Shared) (Q : Unit → Shared → Prop) (E : Value → Shared → Prop), St i s'.heap → Q () s' → wpAny (model prog w) A (letOwnedTupleGo target (.ref s.heap.objs.size) v) Q E s')
    (hcls : ∀ i h, St i h → ∃ o, h.get? s.heap.objs.size = some o ∧ o.cls = .type cn) (h0 : St 0 (s.heap.push io))
    (hkp : ∀ p ∈ kp, s.heap.get? p.1 = some p.2) (hkL : ∀ p ∈ kp, p.1 ≠ env.locals)
    (F : Fr h₀ env.locals s.heap m₀) (N : News h₀ env.locals s.heap (Led c₀)) (hk : ∀ p ∈ ps c₀, m₀ p.1 = some p.2) (hp : P 0 c₀)
    (hit : ∀ i c, P i c → ∀ p ∈ Led c, p.2.cls ≠ .type cn ∨ (@Ne Nat p.1 s.heap.objs.size))
    (hst : ∀ i c h m, P i c → Fr h₀ env.locals h m → News h₀ env.locals h (Led c) → ∀ p ∈ kp, h.get? p.1 = some p.2)
    (turn : ∀ i v (c : σ) (u : Str → Option Value) h tk oI, P0 i v → P i c → oI.cls = .type cn → i < nn → Fr h₀ env.locals h (kstB (fun z => if stored.contains z then u z else m₀ z) (ps c)) → News h₀ env.locals h ((s.heap.objs.size, oI) :: Led c) →
      wpAny (model prog w) A (assign target env v) (fun _ s₃ => wpAny (model prog w) A (execs body env) (TurnPost h₀ env.locals { s with heap := h, toks := tk } Led ps stored m₀ (P (i + 1)) s.heap.objs.size oI Q) E s₃) E { s with heap := h, toks := tk })
    (done : ∀ (c : σ) (u : Str → Option Value) h tk, P nn c → Fr h₀ env.locals h (kstB (fun z => if stored.contains z then u z else m₀ z) (ps c)) → News h₀ env.locals h (Led c) → Q .next { s with heap := h, toks := tk }) :
    TurnsAt prog w A h₀ env target body Q E (.ref s.heap.objs.size) { s with heap := s.heap.push io } := by
  refine ⟨s.heap.objs.size, _, _, nn, _, _, _, m₀, Led c₀, (fun i m nx => ∃ c, nx = Led c ∧ (∀ p ∈ ps c, m p.1 = some p.2) ∧ (∀ z, (∀ p ∈ ps c, z ≠ p.1) → stored.contains z = false → m z = m₀ z) ∧ P i c), rfl,
    KTurns.ofWalks W (fun i v s Q E st hQ => hlet i v s Q E st hQ), ?_, ?_, ?_, h0, F.push _, (fun p hp => ⟨Heap.get?_push_of_some _ (N p hp).1, (N p hp).2⟩), ⟨c₀, rfl, hk, fun _ _ _ => rfl, hp⟩, ?_, ?_⟩
  · intro hm
    rcases List.mem_cons.mp hm with e | hm
    · exact absurd F.ns.lt (e ▸ Nat.lt_irrefl _)
    · obtain ⟨p, hp1, hp2⟩ := List.mem_map.mp hm
      exact hkL p hp1 hp2
  · intro b hb
    rw [List.mem_singleton.mp hb]
    exact next_is_new F
  · intro p hp hI
    exact absurd (Heap.lt_size (N p hp).1) ((List.mem_singleton.mp hI) ▸ Nat.lt_irrefl _)
  · rintro i v m₁ nx h tk own hin hP ⟨c, rfl, h1, h2, hp'⟩ hoff hown hget hfp hstt F₁ N₁
    have hI0 : h₀.get? s.heap.objs.size = none := next_is_new F
    obtain ⟨oI, hoI, hcI⟩ := hcls _ _ hstt
    have hIown : (s.heap.objs.size, oI) ∈ own := hfp _ (List.mem_cons.mpr (.inl rfl)) hI0 _ hoI
    have Nc : News h₀ env.locals h (Led c) := fun p hp => N₁ p (List.mem_append_right _ hp)
    have hkh : ∀ p ∈ kp, h.get? p.1 = some p.2 := hst i c h m₁ hp' F₁ Nc
    have N₂ : News h₀ env.locals h ((s.heap.objs.size, oI) :: Led c) := fun p hp => (List.mem_cons.mp hp).elim (fun e => e ▸ N₁ _ (List.mem_append_left _ hIown)) (Nc p)
    refine wpAny_mono (turn i v c m₁ h tk oI hP hp' hcI hin (ksw_fr h1 h2 F₁) N₂) (fun _ s₃ h₃ => wpAny_mono h₃ (fun f s₄ p => ?_) fun _ _ e => e) fun _ _ e => e
    have fin : TurnEnd h₀ env.locals { s with heap := h, toks := tk } Led ps stored m₀ (P (i + 1)) s.heap.objs.size oI s₄ →
        LoopStepU h₀ env.locals [s.heap.objs.size] own (fun m nx => ∃ c, nx = Led c ∧ (∀ p ∈ ps c, m p.1 = some p.2) ∧ (∀ z, (∀ p ∈ ps c, z ≠ p.1) → stored.contains z = false → m z = m₀ z) ∧ P (i + 1) c) { s with heap := h, toks := tk } .next s₄ := by
      rintro ⟨c', h', tk', m', news', e, F', N', hI', hn, hk', hr, hP2⟩
      have Nc' : News h₀ env.locals h' (Led c') := fun p hp => N' p (hn p hp)
      have hIh : h'.get? s.heap.objs.size = some oI := (N' _ hI').1
      refine ⟨rfl, h', tk', m', Led c', e, F', fun p hp => ?_, fun p hp hq => ?_, c', rfl, hk', hr, hP2⟩
      · rcases List.mem_append.mp hp with hp | hp
        · rcases List.mem_cons.mp (hown p hp) with h5 | h5
          · have h6 := hget p hp
            rw [h5, hoI] at h6
            have h7 : p = (s.heap.objs.size, oI) := Prod.ext h5 (Option.some.inj h6).symm
            rw [h7]
            exact N' _ hI'
          · obtain ⟨r, hr1, hr2⟩ := List.mem_map.mp h5
            have h6 := hget p hp
            rw [← hr2, hkh r hr1] at h6
            have h7 : p = r := Prod.ext hr2.symm (Option.some.inj h6).symm
            refine ⟨?_, (N₁ p (List.mem_append_left _ hp)).2⟩
            rw [h7]
            exact hst (i + 1) c' h' m' hP2 F' Nc' r hr1
        · exact Nc' p hp
      · have h5 := (Nc' p hp).1
        rcases hit (i + 1) c' hP2 p hp with h6 | h6
        · rw [List.mem_singleton.mp hq, hIh] at h5
          exact h6 ((Option.some.inj h5) ▸ hcI)
        · exact h6 (List.mem_singleton.mp hq)
    cases f with
    | ret v => exact .ret p.run
    | brk => exact .brk p.run
    | next => exact .next (fin p.run)
    | cont => exact .cont (fin p.run)
  · rintro h' tk m' news' F' N' _ ⟨c, rfl, h1, h2, hp'⟩
    exact done c m' h' tk hp' (ksw_fr h1 h2 F') N'
/-- a for over a tuple -/
theorem turn_tup {σ : Type} {l : Addr} {vs : List Value} {n : Nat} {m₀ : Str → Option Value} (Led : σ → List (Addr × Obj)) (ps : σ → List (Str × Value)) (stored : List Str) (P : Nat → σ → Prop) (c₀ : σ)
    (hh : A.handled = none) (hl : s.heap.get? l = some (tupO vs n)) (hlL : l ≠ env.locals) (F : Fr h₀ env.locals s.heap m₀) (N : News h₀ env.locals s.heap (Led c₀)) (hk : ∀ p ∈ ps c₀, m₀ p.1 = some p.2) (hp : P 0 c₀)
    (hit : ∀ i c, P i c → ∀ p ∈ Led c, p.2.cls ≠ .type "tuple_iterator" ∨ (@Ne Nat p.1 s.heap.objs.size))
    (hst : ∀ i c h m, P i c → Fr h₀ env.locals h m → News h₀ env.locals h (Led c) → h.get? l = some (tupO vs n))
    (turn : ∀ i v (c : σ) (u : Str → Option Value) h tk oI, vs[i]? = some v → P i c → oI.cls = .type "tuple_iterator" → Fr h₀ env.locals h (kstB (fun z => if stored.contains z then u z else m₀ z) (ps c)) → News h₀ env.locals h ((s.heap.objs.size, oI) :: Led c) →
      wpAny (model prog w) A (assign target env v) (fun _ s₃ => wpAny (model prog w) A (execs body env) (TurnPost h₀ env.locals { s with heap := h, toks := tk } Led ps stored m₀ (P (i + 1)) s.heap.objs.size oI Q) E s₃) E { s with heap := h, toks := tk })
    (done : ∀ (c : σ) (u : Str → Option Value) h tk, P vs.length c → Fr h₀ env.locals h (kstB (fun z => if stored.contains z then u z else m₀ z) (ps c)) → News h₀ env.locals h (Led c) → Q .next { s with heap := h, toks := tk }) :
    wpAny (model prog w) A (pyIter (.ref l)) (fun it s₂ => TurnsAt prog w A h₀ env target body Q E it s₂) E s := by
  have hls : s.heap.IsTuple l vs.toArray := ⟨_, hl, rfl, n, rfl⟩
  have hlt : @LT.lt Nat _ l s.heap.objs.size := Heap.lt_size hl
  have hne : (@Ne Nat l s.heap.objs.size) := Nat.ne_of_lt hlt
  refine wpAny_pyIter_tuple hls ?_
  have W := Walks.tuple (prog := prog) (w := w) hh s.heap.objs.size l hne vs.toArray
  have hlen : vs.toArray.size = vs.length := by simp
  rw [hlen] at W
  refine turn_gen (kp := [(l, tupO vs n)]) Led ps stored P c₀ W (fun i v s' Q E st hQ => letGo_tupleiter st.1 hQ) (fun i h st => let ⟨o, ho, hc, _⟩ := st.1; ⟨o, ho, hc⟩) ⟨⟨_, Heap.get?_push_size _ rfl, rfl, rfl⟩, ⟨_, Heap.get?_push_of_some _ hl, rfl, n, rfl⟩⟩
    (fun p hp => by rw [List.mem_singleton.mp hp]; exact hl) (fun p hp => by rw [List.mem_singleton.mp hp]; exact hlL) F N hk hp hit (fun i c h m a b d p hp => by rw [List.mem_singleton.mp hp]; exact hst i c h m a b d)
    (fun i v c u h tk oI a b d _ => turn i v c u h tk oI (by simpa using a) b d) done
/-- a for over a range -/
theorem turn_range {σ : Type} {r : Addr} {a b c : Int} {t u v : Tok} {nn : Nat} {m₀ : Str → Option Value} (Led : σ → List (Addr × Obj)) (ps : σ → List (Str × Value)) (stored : List Str) (P : Nat → σ → Prop) (c₀ : σ)
    (hh : A.handled = none) (hr : IsRange s.heap r a b c t u v) (hsm : Builtin.Range.small a b c = true) (hn : Builtin.Range.rangeSize a b c = ((nn : Nat) : Int)) (F : Fr h₀ env.locals s.heap m₀) (N : News h₀ env.locals s.heap (Led c₀)) (hk : ∀ p ∈ ps c₀, m₀ p.1 = some p.2) (hp : P 0 c₀)
    (hit : ∀ i c, P i c → ∀ p ∈ Led c, p.2.cls ≠ .type "range_iterator" ∨ (@Ne Nat p.1 s.heap.objs.size))
    (hlet : ∀ (v : Value) (s' : Shared) (Q : Unit → Shared → Prop) (E : Value → Shared → Prop), (∃ o, s'.heap.get? s.heap.objs.size = some o ∧ o.cls = .type "range_iterator") → Q () s' → wpAny (model prog w) A (letOwnedTupleGo target (.ref s.heap.objs.size) v) Q E s')
    (turn : ∀ i x (k : σ) (u : Str → Option Value) h tk oI, (∃ t, x = .int (a + (i : Int) * c) t) → P i k → oI.cls = .type "range_iterator" → i < nn → Fr h₀ env.locals h (kstB (fun z => if stored.contains z then u z else m₀ z) (ps k)) → News h₀ env.locals h ((s.heap.objs.size, oI) :: Led k) →
      wpAny (model prog w) A (assign target env x) (fun _ s₃ => wpAny (model prog w) A (execs body env) (TurnPost h₀ env.locals { s with heap := h, toks := tk } Led ps stored m₀ (P (i + 1)) s.heap.objs.size oI Q) E s₃) E { s with heap := h, toks := tk })
    (done : ∀ (k : σ) (u : Str → Option Value) h tk, P nn k → Fr h₀ env.locals h (kstB (fun z => if stored.contains z then u z else m₀ z) (ps k)) → News h₀ env.locals h (Led k) → Q .next { s with heap := h, toks := tk }) :
    wpAny (model prog w) A (pyIter (.ref r)) (fun it s₂ => TurnsAt prog w A h₀ env target body Q E it s₂) E s := by
  refine wpAny_pyIter_range hr hsm ?_
  refine turn_gen (kp := []) (cn := "range_iterator") Led ps stored P c₀ (Walks.range hh s.heap.objs.size a c nn) (fun i v s' Q E st hQ => hlet v s' Q E ⟨_, st, rfl⟩ hQ) (fun i h st => ⟨_, st, rfl⟩) ?_ (fun p hp => nomatch hp) (fun p hp => nomatch hp) F N hk hp hit (fun _ _ _ _ _ _ _ p hp => nomatch hp) turn done
  show IsRangeIter _ _ _ _ _
  rw [hn]
  simpa using Heap.get?_push_size _ rfl
end
theorem letGo_name {prog : Program} {w : World} {A : Around} {x : Str} {px : Pos} {I v : Value} {s : Shared} {Q : Unit → Shared → Prop} {E : Value → Shared → Prop} (h : Q () s) : wpAny (model prog w) A (letOwnedTupleGo (.Name x px) I v) Q E s := by
  unfold letOwnedTupleGo
  exact wpAny_pure h
theorem dat_newsN {d : Nat → Dat} {h₀ h : Heap} {L : Addr} : ∀ {vs : List Value} {i : Nat}, (∀ (j : Nat) v, vs[j]? = some v → ∃ nw, News h₀ L h nw ∧ DatIn nw v (d (i + j))) →
    ∃ nws, News h₀ L h nws ∧ DatAll nws vs ((List.range' i vs.length).map d)
  | [], i, _ => ⟨[], News.nil, .nil⟩
  | v :: vs, i, hv => by
    obtain ⟨nw, h1, h2⟩ := hv 0 v rfl
    obtain ⟨nws, h3, h4⟩ := dat_newsN (vs := vs) (i := i + 1) fun j u e => by
      have := hv (j + 1) u e
      rw [show i + (j + 1) = i + 1 + j by omega] at this
      exact this
    refine ⟨nw ++ nws, fun p hp => (List.mem_append.mp hp).elim (h1 p) (h3 p), ?_⟩
    rw [List.length_cons, List.range'_succ, List.map_cons]
    exact .cons (h2.mono fun p hp => List.mem_append.mpr (.inl hp)) (h4.mono fun p hp => List.mem_append.mpr (.inr hp))
end
section
local macro_rules | `(tactic| walk_at "eval ListComp") => `(tactic| (refine stop_here ?_))
local macro_rules | `(tactic| walk_at "exec Assign cons ListComp") => `(tactic| ((with_reducible show wpAny _ _ (exec (Stmt.Assign [Expr.Name _ _] _ _) _) _ _ _); refine stop_here ?_))
local macro_rules | `(tactic| walk_at "eval Name") => `(tactic| (k_here; (with_reducible show wpAny _ _ (eval (Expr.Name _ _) (compEnvC _ _ _ _)) _ _ _); k_dflt (walk_at "MY_BLOCKNAME")))
local macro_rules | `(tactic| walk_at "subscriptTail") => `(tactic| (k_here; (with_reducible show wpAny _ _ (subscriptTail _ _ (Value.ref _) (Value.int _ _)) _ _ _); k_dflt (refine' item_list ?l ?a ?b ?c ?_ ?s ?g; (case l => with_reducible assumption); (case c => assumption); (case a => decide); (case b => decide); (case s => with_unfolding_all rfl); (case g => (intro _; with_unfolding_all rfl)); k_whole)))
local macro_rules | `(tactic| walk_at "newTuple") => `(tactic| ((with_reducible show wpAny _ _ _ (fun _ _ => Stop _) _ _); k_dflt (refine wpAny_newTuple ?_)))
set_option maxRecDepth 100000 in
set_option maxHeartbeats 4000000 in
theorem stage4 {w : World} {S1 : Shared} {L : Nat} {mean : ExcName → Option Value} {mg mb : Str → Option Value} {name qual : Str} {params : Arguments} {body : List Stmt} {scope : Scope} {dV kV doc pm cdv ct oc : Value} {an od : Option Addr} {osl : Array (Option Value)}
    (ho : (Mine.hd.heap_39 w.params).lookup 270 = some ⟨oc, od, .func (fnOf name qual params body scope dV kV doc pm an cdv ct), osl⟩) {fa : Addr} {cdw : Value} {E : Value → Shared → Prop} {Q : Flow → Shared → Prop}
    (XX : (Mine.hd.heap_39 w.params).In S1.heap) (TT : Top Mine.hd.view_39 loose0 mean mg mb S1.heap)
    {h : Heap} {tk : Nat} {m : Str → Option Value} {fst : Int} {tC : Tok} {o5 o4 o3 o2 o1 : Obj} {T : List (Addr × Obj)} {vP vR : Value} {r0 r1 r2 r3 r4 r5 r6 r7 : Int}
    (F : Fr S1.heap L h (kstB m [(Str.ofString "first", .int fst tC)]))
    (N : News S1.heap L h ((L + 1 + 1 + 1 + 1 + 1, o5) :: (L + 1 + 1 + 1 + 1, o4) :: (L + 1 + 1 + 1, o3) :: (L + 1 + 1, o2) :: (L + 1, o1) :: T))
    (d2 : o2.data = .cell (some vP)) (d1 : o1.data = .cell (some vR)) (hT : Off L T)
    (DP : DatIn T vP (.list [ptD (r0, r1), ptD (r2, r3), ptD (r4, r5), ptD (r6, r7)])) (DR : DatIn T vR (.list [.int r0, .int r1, .int r2, .int r3, .int r4, .int r5, .int r6, .int r7]))
    (b0 : -300 ≤ r0 ∧ r0 ≤ 300) (b1 : -300 ≤ r1 ∧ r1 ≤ 300) (b2 : -300 ≤ r2 ∧ r2 ≤ 300) (b3 : -300 ≤ r3 ∧ r3 ≤ 300) (b4 : -300 ≤ r4 ∧ r4 ≤ 300) (b5 : -300 ≤ r5 ∧ r5 ≤ 300) (b6 : -300 ≤ r6 ∧ r6 ≤ 300) (b7 : -300 ≤ r7 ∧ r7 ≤ 300)
    (K : ∀ (h : Heap) (tk : Nat) (m : Str → Option Value) (o2 : Obj) (T : List (Addr × Obj)) (vP : Value) (p0 p1 p2 p3 : Pt),
      Fr S1.heap L h (kstB m [(Str.ofString "first", .int fst tC)]) →
      News S1.heap L h ((L + 1 + 1 + 1 + 1 + 1, o5) :: (L + 1 + 1 + 1 + 1, o4) :: (L + 1 + 1 + 1, o3) :: (L + 1 + 1, o2) :: T) →
      o2.data = .cell (some vP) → Off L T → DatIn T vP (.list [ptD p0, ptD p1, ptD p2, ptD p3]) → QB 3000 (p0, p1, p2, p3) →
      ((decide (Int.fmod fst 5 = 4) = false ∧ QB 300 (p0, p1, p2, p3)) ∨ ∃ r s : Int, p1 = (p0.1 + r, p0.2 + s) ∧ p2 = (p0.1 + 2 * r, p0.2 + 2 * s) ∧ p3 = (p0.1 + 3 * r, p0.2 + 3 * s)) →
      wpAny (model PySem.Challenge.rw_nt0495_01.row.prog w) (callerA.deeper (envOfC qual scope L fa cdw)) (execs (body.drop 4) (envOfC qual scope L fa cdw)) Q E { S1 with heap := h, toks := tk }) :
    wpAny (model PySem.Challenge.rw_nt0495_01.row.prog w) (callerA.deeper (envOfC qual scope L fa cdw)) (execs (body.drop 3) (envOfC qual scope L fa cdw)) Q E { S1 with heap := h, toks := tk } := by
  revert ho
  k_fill
  intro ho
  have e := ho.symm.trans (show _ = some _ from by k_is)
  cases e
  clear ho
  have BB := below_caller S1.heap
  dsimp only [List.drop] at K ⊢
  refine cut_one ?_
  generalize (execs _ _ : Sem Flow) = REST at *
  obtain ⟨aP, vsP, nP, rfl, mP, dP⟩ := list_of DP
  obtain ⟨w0, w1, w2, w3, rfl, e0, e1, e2, e3⟩ := all4 dP
  obtain ⟨q0, n0, ta0, tb0, rfl, mq0⟩ := pt_of e0
  obtain ⟨aR, vsR, nR, rfl, mR, dR⟩ := list_of DR
  obtain ⟨z0, z1, z2, v3, v4, v5, v6, v7, rfl, y0, y1, y2, y3, y4, y5, y6, y7⟩ := all8 dR
  obtain ⟨t3, rfl⟩ := int_of y3
  obtain ⟨t5, rfl⟩ := int_of y5
  clear y0 y1 y2 y3 y4 y5 y6 y7
  k_steps
  · rename_i hf tk1
    refine Stop.mk ?_
    refine wpAny_Assign_Name ?_ (by with_unfolding_all rfl)
    refine comp_plain (k := 4) (F := fun i v nw => DatIn nw v (ptD (r0 + 3 * ((0 : Int) + (i : Int) * 1) * r3, r1 + 3 * ((0 : Int) + (i : Int) * 1) * r5))) (Nat.le_of_ble_eq_true rfl) (by with_unfolding_all rfl) (by decide) (by rfl) (by decide) (by rfl) ?_
    k_steps
    refine Stop.mk ?_
    rename_i hRg F2 N2 _
    refine ⟨_, _, rfl, CSrc.range rfl hRg (by rfl) (by rfl), ?_, ?_⟩
    · intro i v C2 m2' h2 tk2 E2 hik hP hns hm kp2
      obtain ⟨tv, rfl⟩ := hP
      have F3 := F2.keeps kp2
      have N3 := N2.grown kp2
      have hX2 := cell_of N3 (by walk_at "MY_MEM") d2
      have hX1 := cell_of N3 (by walk_at "MY_MEM") d1
      have bP := News.isList N3 (show (aP, _) ∈ _ from by walk_at "MY_MEM")
      have bQ := News.isTup N3 (show (q0, _) ∈ _ from by walk_at "MY_MEM")
      have bR := News.isList N3 (show (aR, _) ∈ _ from by walk_at "MY_MEM")
      clear F2 N2 N3 K
      have zk : Bd 2 ((0 : Int) + (i : Int) * 1) := Bd.of (by omega)
      have hx0 : [Value.ref q0, w1, w2, w3].toArray[Int.toNat 0]? = some (Value.ref q0) := rfl
      have hx3 : [z0, z1, z2, Value.int r3 t3, v4, Value.int r5 t5, v6, v7].toArray[Int.toNat 3]? = some (Value.int r3 t3) := rfl
      have hx5 : [z0, z1, z2, Value.int r3 t3, v4, Value.int r5 t5, v6, v7].toArray[Int.toNat 5]? = some (Value.int r5 t5) := rfl
      (try dsimp only)
      k_steps
      exact Stop.mk ⟨[(h2.objs.size, tupO [Value.int (r0 + 3 * (0 + (i : Int) * 1) * r3) _, Value.int (r1 + 3 * (0 + (i : Int) * 1) * r5) _] 0)], _, _, rfl, fun _ _ e => Heap.get?_push_of_some _ e, fun p hp => by rw [List.mem_singleton.mp hp]; exact ⟨Heap.get?_push_size _ rfl, Heap.get?_none_of_le (Nat.le_refl _)⟩, .tuple (List.Mem.head _) (.cons (.int _ _) (.cons (.int _ _) .nil))⟩
    · intro D h3 tk3 vs3 kp3 hD0 hD hlen hF
      obtain ⟨nws, hn1, hn2⟩ := dat_of (i := 0) (d := fun i => ptD (r0 + 3 * ((0 : Int) + (i : Int) * 1) * r3, r1 + 3 * ((0 : Int) + (i : Int) * 1) * r5)) (fun j v e => by rw [Nat.zero_add]; exact hF j v e)
      rw [hlen] at hn2
      have F3 := F2.keeps kp3
      have N3 := news_tl F2 N2 kp3 (tl := (D, listOf vs3.toArray vs3.length) :: nws) (fun p hp => (List.mem_cons.mp hp).elim (fun e => e ▸ ⟨hD, hD0⟩) (hn1 p))
      have hO : Off L ((D, listOf vs3.toArray vs3.length) :: nws) := Off.cons (off_new N2 hD0) fun p hp => off_new N2 (hn1 p hp).2
      have hO2 : ∀ p ∈ ((D, listOf vs3.toArray vs3.length) :: nws), p.1 ≠ L + 1 + 1 := fun p hp => (hO p hp).1
      have DN : DatIn ((D, listOf vs3.toArray vs3.length) :: nws) (.ref D) (.list ((List.range' 0 4).map fun i : Nat => ptD (r0 + 3 * ((0 : Int) + (i : Int) * 1) * r3, r1 + 3 * ((0 : Int) + (i : Int) * 1) * r5))) := .list (List.Mem.head _) (hn2.mono fun p hp => List.mem_cons_of_mem _ hp)
      have N4 := kst_newsOf (l' := (L + 1 + 1 + 1 + 1 + 1, o5) :: (L + 1 + 1 + 1 + 1, o4) :: (L + 1 + 1 + 1, o3) :: (L + 1 + 1, o2) :: ((D, listOf vs3.toArray vs3.length) :: nws)) N3 fun q hq => by
        rcases List.mem_cons.mp hq with rfl | hq
        · walk_at "MY_MEM"
        rcases List.mem_cons.mp hq with rfl | hq
        · walk_at "MY_MEM"
        rcases List.mem_cons.mp hq with rfl | hq
        · walk_at "MY_MEM"
        rcases List.mem_cons.mp hq with rfl | hq
        · walk_at "MY_MEM"
        exact List.mem_append.mpr (.inl hq)
      clear N2 F2 N3 hF hD hD0 hn1 hn2
      generalize ((D, listOf vs3.toArray vs3.length) :: nws) = T3 at *
      (try dsimp only)
      k_steps
      refine Stop.mk ⟨rfl, ?_⟩
      rename_i F5 N5 d5
      refine K _ _ _ _ T3 (.ref D) (r0 + 3 * ((0 : Int) + ((0 : Nat) : Int) * 1) * r3, r1 + 3 * ((0 : Int) + ((0 : Nat) : Int) * 1) * r5) (r0 + 3 * ((0 : Int) + ((1 : Nat) : Int) * 1) * r3, r1 + 3 * ((0 : Int) + ((1 : Nat) : Int) * 1) * r5) (r0 + 3 * ((0 : Int) + ((2 : Nat) : Int) * 1) * r3, r1 + 3 * ((0 : Int) + ((2 : Nat) : Int) * 1) * r5) (r0 + 3 * ((0 : Int) + ((3 : Nat) : Int) * 1) * r3, r1 + 3 * ((0 : Int) + ((3 : Nat) : Int) * 1) * r5) F5 N5 d5 hO DN ?_ (.inr ⟨3 * r3, 3 * r5, ?_, ?_, ?_⟩)
      · simp only [QB, PB]; omega
      · exact Prod.ext (by dsimp only; omega) (by dsimp only; omega)
      · exact Prod.ext (by dsimp only; omega) (by dsimp only; omega)
      · exact Prod.ext (by dsimp only; omega) (by dsimp only; omega)
  · rename_i hf
    refine Stop.mk ⟨rfl, ?_⟩
    refine K _ _ _ _ T (.ref aP) (r0, r1) (r2, r3) (r4, r5) (r6, r7) (by assumption) (kst_newsOf N fun q hq => ?_) d2 hT DP ?_ (.inl ⟨decide_eq_false hf, ?_⟩)
    · simp only [List.mem_cons] at hq ⊢
      rcases hq with h | h | h | h | h
      · exact .inl h
      · exact .inr (.inl h)
      · exact .inr (.inr (.inl h))
      · exact .inr (.inr (.inr (.inl h)))
      · exact .inr (.inr (.inr (.inr (.inr h))))
    · simp only [QB, PB]; omega
    · simp only [QB, PB]; omega
end
section
local macro_rules | `(tactic| walk_at "MY_STEPS") => `(tactic| repeat' (first | (k_unfold; (try dsimp only)) | ((fail_if_success (with_reducible show Stop _)); k_end; wrow_close) | (dsimp only; walk1) | walk1 | (leave1; walk_say "STEP leave1"; try dsimp only) | fail "no step"))
local macro_rules | `(tactic| walk_at "execs cons") => `(tactic| ((with_reducible show wpAny _ _ (execs (Stmt.If _ _ _ _ :: _) _) _ _ _); refine stop_here ?_))
local macro_rules | `(tactic| walk_at "subscriptTail") => `(tactic| (k_here; (with_reducible show wpAny _ _ (subscriptTail _ _ (Value.ref _) (Value.int _ _)) _ _ _); k_dflt (refine' item_list ?l ?a ?b ?c ?_ ?s ?g; (case l => walk_at "MY_LST"); (case c => assumption); (case a => decide); (case b => decide); (case s => with_unfolding_all rfl); (case g => (intro _; with_unfolding_all rfl)); k_whole)))
set_option maxRecDepth 100000 in
set_option maxHeartbeats 4000000 in
theorem stage5 {w : World} {S1 : Shared} {L : Nat} {mean : ExcName → Option Value} {mg mb : Str → Option Value} {name qual : Str} {params : Arguments} {body : List Stmt} {scope : Scope} {dV kV doc pm cdv ct oc : Value} {an od : Option Addr} {osl : Array (Option Value)}
    (ho : (Mine.hd.heap_39 w.params).lookup 270 = some ⟨oc, od, .func (fnOf name qual params body scope dV kV doc pm an cdv ct), osl⟩) {fa : Addr} {cdw : Value} {E : Value → Shared → Prop} {Q : Flow → Shared → Prop}
    (XX : (Mine.hd.heap_39 w.params).In S1.heap) (TT : Top Mine.hd.view_39 loose0 mean mg mb S1.heap)
    {h : Heap} {tk : Nat} {m : Str → Option Value} {fst : Int} {tC : Tok} {o5 o4 o3 o2 : Obj} {T : List (Addr × Obj)} {vP : Value} {p0 p1 p2 p3 : Pt}
    (F : Fr S1.heap L h (kstB m [(Str.ofString "first", .int fst tC)]))
    (N : News S1.heap L h ((L + 1 + 1 + 1 + 1 + 1, o5) :: (L + 1 + 1 + 1 + 1, o4) :: (L + 1 + 1 + 1, o3) :: (L + 1 + 1, o2) :: T))
    (d2 : o2.data = .cell (some vP)) (hT : Off L T) (DP : DatIn T vP (.list [ptD p0, ptD p1, ptD p2, ptD p3]))
    (K : ∀ (h : Heap) (tk : Nat) (m : Str → Option Value) (f ah : Int) (t1 t2 tm : Tok) (x d k aP nP q0 q1 q2 q3 n0 n1 n2 n3 : Nat) (ta0 ta1 ta2 ta3 tb0 tb1 tb2 tb3 : Tok) (a1 a2 a3 a4 : Tok),
      vP = .ref aP → Fr S1.heap L h (kstB m [(Str.ofString "first", .int fst tC), (Str.ofString "flat", .int f t1), (Str.ofString "path", .ref x), (Str.ofString "ahead", .int ah t2)]) →
      News S1.heap L h ((k, listOf ([] : List Value).toArray 0) :: (x, instObj 184 d) :: (d, pathD w a1 a2 a3 a4 tm k .none .none) :: (L + 1 + 1 + 1 + 1 + 1, o5) :: (L + 1 + 1 + 1 + 1, o4) :: (L + 1 + 1 + 1, o3) :: (L + 1 + 1, o2) :: [(aP, listOf [Value.ref q0, Value.ref q1, Value.ref q2, Value.ref q3].toArray nP), (q0, tupO [Value.int p0.1 ta0, Value.int p0.2 tb0] n0), (q1, tupO [Value.int p1.1 ta1, Value.int p1.2 tb1] n1), (q2, tupO [Value.int p2.1 ta2, Value.int p2.2 tb2] n2), (q3, tupO [Value.int p3.1 ta3, Value.int p3.2 tb3] n3)]) →
      (@LT.lt Nat _ d x ∧ @LT.lt Nat _ x k ∧ @LT.lt Nat _ (L + 1 + 1 + 1 + 1 + 1) d ∧ @LT.lt Nat _ aP d ∧ @LT.lt Nat _ q0 d ∧ @LT.lt Nat _ q1 d ∧ @LT.lt Nat _ q2 d ∧ @LT.lt Nat _ q3 d) → Off L [(aP, listOf [Value.ref q0, Value.ref q1, Value.ref q2, Value.ref q3].toArray nP), (q0, tupO [Value.int p0.1 ta0, Value.int p0.2 tb0] n0), (q1, tupO [Value.int p1.1 ta1, Value.int p1.2 tb1] n1), (q2, tupO [Value.int p2.1 ta2, Value.int p2.2 tb2] n2), (q3, tupO [Value.int p3.1 ta3, Value.int p3.2 tb3] n3)] → 4 ≤ f ∧ f ≤ 33 → (ah = 0 ∨ ah = 1) →
      wpAny (model PySem.Challenge.rw_nt0495_01.row.prog w) (callerA.deeper (envOfC qual scope L fa cdw)) (execs (body.drop 5) (envOfC qual scope L fa cdw)) Q E { S1 with heap := h, toks := tk }) :
    wpAny (model PySem.Challenge.rw_nt0495_01.row.prog w) (callerA.deeper (envOfC qual scope L fa cdw)) (execs (body.drop 4) (envOfC qual scope L fa cdw)) Q E { S1 with heap := h, toks := tk } := by
  revert ho
  k_fill
  intro ho
  have e := ho.symm.trans (show _ = some _ from by k_is)
  cases e
  clear ho
  have BB := below_caller S1.heap
  obtain ⟨aP, vsP, nP, rfl, mP, dP⟩ := list_of DP
  obtain ⟨w0, w1, w2, w3, rfl, e0, e1, e2, e3⟩ := all4 dP
  obtain ⟨q0, n0, ta0, tb0, rfl, mq0⟩ := pt_of e0
  obtain ⟨q1, n1, ta1, tb1, rfl, mq1⟩ := pt_of e1
  obtain ⟨q2, n2, ta2, tb2, rfl, mq2⟩ := pt_of e2
  obtain ⟨q3, n3, ta3, tb3, rfl, mq3⟩ := pt_of e3
  have hx0 : [Value.ref q0, Value.ref q1, Value.ref q2, Value.ref q3].toArray[Int.toNat 0]? = some (Value.ref q0) := rfl
  have hx1 : [Value.ref q0, Value.ref q1, Value.ref q2, Value.ref q3].toArray[Int.toNat 1]? = some (Value.ref q1) := rfl
  have hx2 : [Value.ref q0, Value.ref q1, Value.ref q2, Value.ref q3].toArray[Int.toNat 2]? = some (Value.ref q2) := rfl
  have hx3 : [Value.ref q0, Value.ref q1, Value.ref q2, Value.ref q3].toArray[Int.toNat 3]? = some (Value.ref q3) := rfl
  obtain ⟨u0, u1⟩ : (0 ≤ Int.fmod (Int.fdiv fst 5) 30 ∧ Int.fmod (Int.fdiv fst 5) 30 < 30) ∧ (Int.fmod (Int.fdiv fst 150) 2 = 0 ∨ Int.fmod (Int.fdiv fst 150) 2 = 1) := by
    rw [Int.fmod_eq_emod_of_nonneg _ (by decide), Int.fmod_eq_emod_of_nonneg _ (by decide)]; omega
  have N9 := kst_newsOf (l' := (L + 1 + 1 + 1 + 1 + 1, o5) :: (L + 1 + 1 + 1 + 1, o4) :: (L + 1 + 1 + 1, o3) :: (L + 1 + 1, o2) :: [(aP, listOf [Value.ref q0, Value.ref q1, Value.ref q2, Value.ref q3].toArray nP), (q0, tupO [Value.int p0.1 ta0, Value.int p0.2 tb0] n0), (q1, tupO [Value.int p1.1 ta1, Value.int p1.2 tb1] n1), (q2, tupO [Value.int p2.1 ta2, Value.int p2.2 tb2] n2), (q3, tupO [Value.int p3.1 ta3, Value.int p3.2 tb3] n3)]) N fun q hq => by
    simp only [List.mem_cons, List.not_mem_nil, or_false] at hq
    rcases hq with rfl | rfl | rfl | rfl | rfl | rfl | rfl | rfl | rfl <;> walk_at "MY_MEM"
  clear N dP e0 e1 e2 e3 DP
  have hO : Off L [(aP, listOf [Value.ref q0, Value.ref q1, Value.ref q2, Value.ref q3].toArray nP), (q0, tupO [Value.int p0.1 ta0, Value.int p0.2 tb0] n0), (q1, tupO [Value.int p1.1 ta1, Value.int p1.2 tb1] n1), (q2, tupO [Value.int p2.1 ta2, Value.int p2.2 tb2] n2), (q3, tupO [Value.int p3.1 ta3, Value.int p3.2 tb3] n3)] := fun p hp => hT p (by
    simp only [List.mem_cons, List.not_mem_nil, or_false] at hp
    rcases hp with rfl | rfl | rfl | rfl | rfl <;> assumption)
  clear hT
  dsimp only [List.drop] at K ⊢
  refine cut_one ?_
  generalize (execs (_ :: _ :: _ :: _ :: _ :: _ :: _ :: _) _ : Sem Flow) = REST at *
  show wpAny _ _ _ _ _ _
  k_fold
  walk_at "MY_STEPS"
  refine Stop.mk ⟨rfl, ?_⟩
  rename_i FL NL
  obtain ⟨D, oD, x, d, k, a1, a2, a3, a4, t1, t2, NK, FL2, hlt⟩ : ∃ (D : Nat) (oD : Obj) (x d k : Nat) (a1 a2 a3 a4 t1 t2 : Tok), News S1.heap L _ ((D, oD) :: (k, listOf ([] : List Value).toArray 0) :: (x, instObj 184 d) :: (d, pathD w a1 a2 a3 a4 243 k .none .none) :: (L + 1 + 1 + 1 + 1 + 1, o5) :: (L + 1 + 1 + 1 + 1, o4) :: (L + 1 + 1 + 1, o3) :: (L + 1 + 1, o2) :: [(aP, listOf [Value.ref q0, Value.ref q1, Value.ref q2, Value.ref q3].toArray nP), (q0, tupO [Value.int p0.1 ta0, Value.int p0.2 tb0] n0), (q1, tupO [Value.int p1.1 ta1, Value.int p1.2 tb1] n1), (q2, tupO [Value.int p2.1 ta2, Value.int p2.2 tb2] n2), (q3, tupO [Value.int p3.1 ta3, Value.int p3.2 tb3] n3)]) ∧ Fr S1.heap L _ (fun y => if y = Str.ofString "flat" then some (Value.int (4 + Int.fmod (Int.fdiv fst 5) 30) t1) else if y = Str.ofString "path" then some (Value.ref x) else if y = Str.ofString "ahead" then some (Value.int (Int.fmod (Int.fdiv fst 150) 2) t2) else kstB m [(Str.ofString "first", .int fst tC)] y) ∧ (@LT.lt Nat _ d x ∧ @LT.lt Nat _ x k ∧ @LT.lt Nat _ (L + 1 + 1 + 1 + 1 + 1) d ∧ @LT.lt Nat _ aP d ∧ @LT.lt Nat _ q0 d ∧ @LT.lt Nat _ q1 d ∧ @LT.lt Nat _ q2 d ∧ @LT.lt Nat _ q3 d) := ⟨_, _, _, _, _, _, _, _, _, _, _, NL, FL, by clear K; omega⟩
  have FK := fr_kst (ps := [(Str.ofString "first", .int fst tC), (Str.ofString "flat", .int (4 + Int.fmod (Int.fdiv fst 5) 30) t1), (Str.ofString "path", .ref x), (Str.ofString "ahead", .int (Int.fmod (Int.fdiv fst 150) 2) t2)]) FL2 fun p hp => by
      simp only [List.mem_cons, List.not_mem_nil, or_false] at hp
      rcases hp with rfl | rfl | rfl | rfl <;> rfl
  exact K _ _ _ _ _ t1 t2 243 x d k aP nP q0 q1 q2 q3 n0 n1 n2 n3 ta0 ta1 ta2 ta3 tb0 tb1 tb2 tb3 a1 a2 a3 a4 rfl FK (fun p hp => NK p (List.Mem.tail _ hp)) hlt hO ⟨by omega, by omega⟩ u1
end
section
local macro_rules | `(tactic| walk_at "call ref") => `(tactic| (refine stop_here ?_))
local macro_rules | `(tactic| walk_at "MY_STEPS") => `(tactic| repeat' (first | (k_unfold; (try dsimp only)) | ((fail_if_success (with_reducible show Stop _)); k_end; wrow_close) | (dsimp only; walk1) | walk1 | (leave1; walk_say "STEP leave1"; try dsimp only) | fail "no step"))
local macro_rules | `(tactic| walk_at "execs cons") => `(tactic| ((with_reducible show wpAny _ _ (execs (Stmt.If (Expr.Compare (Expr.BinOp _ _ _ _) [CmpOp.Eq] _ _) _ _ _ :: []) _) _ _ _); refine stop_here ?_))
local macro_rules | `(tactic| walk_at "subscriptTail") => `(tactic| (k_here; (with_reducible show wpAny _ _ (subscriptTail _ _ (Value.ref _) (Value.int _ _)) _ _ _); first
  | (k_dflt (refine' item_list ?l ?a ?b ?c ?_ ?s ?g; (case l => with_reducible assumption); (case c => assumption); (case a => decide); (case b => decide); (case s => with_unfolding_all rfl); (case g => (intro _; with_unfolding_all rfl)); k_whole))
  | (k_dflt (refine' item_tupleT ?t ?a ?b ?c ?d ?_; (case t => with_reducible assumption); (case a => decide); (case b => decide); (case c => rfl); (case d => rfl); k_whole))))
local macro_rules | `(tactic| walk_at "subscriptTail Name Constant ref int") => `(tactic| (k_here; (with_reducible show wpAny _ _ (subscriptTail _ _ (Value.ref _) (Value.int _ _)) _ _ _); first
  | (k_dflt (refine' item_list ?l ?a ?b ?c ?_ ?s ?g; (case l => with_reducible assumption); (case c => assumption); (case a => decide); (case b => decide); (case s => with_unfolding_all rfl); (case g => (intro _; with_unfolding_all rfl)); k_whole))
  | (k_dflt (refine' item_tupleT ?t ?a ?b ?c ?d ?_; (case t => with_reducible assumption); (case a => decide); (case b => decide); (case c => rfl); (case d => rfl); k_whole))))
local macro_rules | `(tactic| walk_at "subscriptTail Subscript Name Constant Constant ref int") => `(tactic| (k_here; (with_reducible show wpAny _ _ (subscriptTail _ _ (Value.ref _) (Value.int _ _)) _ _ _); first
  | (k_dflt (refine' item_list ?l ?a ?b ?c ?_ ?s ?g; (case l => with_reducible assumption); (case c => assumption); (case a => decide); (case b => decide); (case s => with_unfolding_all rfl); (case g => (intro _; with_unfolding_all rfl)); k_whole))
  | (k_dflt (refine' item_tupleT ?t ?a ?b ?c ?d ?_; (case t => with_reducible assumption); (case a => decide); (case b => decide); (case c => rfl); (case d => rfl); k_whole))))
set_option maxRecDepth 100000 in
set_option maxHeartbeats 4000000 in
theorem stage8 {w : World} {S1 : Shared} {L : Nat} {mean : ExcName → Option Value} {mg mb : Str → Option Value} {name qual : Str} {params : Arguments} {body : List Stmt} {scope : Scope} {dV kV doc pm cdv ct oc : Value} {an od : Option Addr} {osl : Array (Option Value)}
    (ho : (Mine.hd.heap_39 w.params).lookup 270 = some ⟨oc, od, .func (fnOf name qual params body scope dV kV doc pm an cdv ct), osl⟩) {fa : Addr} {cdw : Value} {E : Value → Shared → Prop} {Q : Flow → Shared → Prop}
    (XX : (Mine.hd.heap_39 w.params).In S1.heap) (TT : Top Mine.hd.view_39 loose0 mean mg mb S1.heap)
    {h : Heap} {tk : Nat} {m : Str → Option Value} {fst : Int} {tC : Tok} {o5 o4 o3 o2 : Obj} {p0 p1 p2 p3 : Pt} {f ah : Int} {t1 t2 tm : Tok} {x d k aP nP q0 q1 q2 q3 n0 n1 n2 n3 : Nat} {ta0 ta1 ta2 ta3 tb0 tb1 tb2 tb3 : Tok} {a1 a2 a3 a4 : Tok}
    (F : Fr S1.heap L h (kstB m [(Str.ofString "first", .int fst tC), (Str.ofString "flat", .int f t1), (Str.ofString "path", .ref x), (Str.ofString "ahead", .int ah t2)]))
    (N : News S1.heap L h ((k, listOf ([] : List Value).toArray 0) :: (x, instObj 184 d) :: (d, pathD w a1 a2 a3 a4 tm k .none .none) :: (L + 1 + 1 + 1 + 1 + 1, o5) :: (L + 1 + 1 + 1 + 1, o4) :: (L + 1 + 1 + 1, o3) :: (L + 1 + 1, o2) :: [(aP, listOf [Value.ref q0, Value.ref q1, Value.ref q2, Value.ref q3].toArray nP), (q0, tupO [Value.int p0.1 ta0, Value.int p0.2 tb0] n0), (q1, tupO [Value.int p1.1 ta1, Value.int p1.2 tb1] n1), (q2, tupO [Value.int p2.1 ta2, Value.int p2.2 tb2] n2), (q3, tupO [Value.int p3.1 ta3, Value.int p3.2 tb3] n3)]))
    (d2 : o2.data = .cell (some (.ref aP))) (hlt : (@LT.lt Nat _ d x ∧ @LT.lt Nat _ x k ∧ @LT.lt Nat _ (L + 1 + 1 + 1 + 1 + 1) d ∧ @LT.lt Nat _ aP d ∧ @LT.lt Nat _ q0 d ∧ @LT.lt Nat _ q1 d ∧ @LT.lt Nat _ q2 d ∧ @LT.lt Nat _ q3 d)) (hO : Off L [(aP, listOf [Value.ref q0, Value.ref q1, Value.ref q2, Value.ref q3].toArray nP), (q0, tupO [Value.int p0.1 ta0, Value.int p0.2 tb0] n0), (q1, tupO [Value.int p1.1 ta1, Value.int p1.2 tb1] n1), (q2, tupO [Value.int p2.1 ta2, Value.int p2.2 tb2] n2), (q3, tupO [Value.int p3.1 ta3, Value.int p3.2 tb3] n3)]) (hf : 4 ≤ f ∧ f ≤ 33) (hah : ah = 0 ∨ ah = 1)
    (K : ∀ (h : Heap) (tk : Nat) (m : Str → Option Value) (T : List (Addr × Obj)) (tm : Tok) (x d k : Addr) (a1 a2 a3 a4 : Tok) (b p : Value) (fs : List Value) (n : Nat),
      Fr S1.heap L h (kstB m [(Str.ofString "first", .int fst tC), (Str.ofString "flat", .int f t1), (Str.ofString "path", .ref x), (Str.ofString "ahead", .int ah t2)]) →
      News S1.heap L h ((L + 1 + 1 + 1 + 1 + 1, o5) :: (L + 1 + 1 + 1 + 1, o4) :: (L + 1 + 1 + 1, o3) :: (L + 1 + 1, o2) :: T) → Off L T → DatIn T (.ref aP) (.list [ptD p0, ptD p1, ptD p2, ptD p3]) →
      (x, instObj 184 d) ∈ T → (d, pathD w a1 a2 a3 a4 tm k b p) ∈ T → (k, listOf fs.toArray n) ∈ T →
      DatAll T fs ((lawRows (p0, p1, p2, p3) (decide (ah = 1)) (decide (Int.fmod (Int.fdiv fst 300) 2 = 1))).map rowD) →
      wpAny (model PySem.Challenge.rw_nt0495_01.row.prog w) (callerA.deeper (envOfC qual scope L fa cdw)) (execs (body.drop 8) (envOfC qual scope L fa cdw)) Q E { S1 with heap := h, toks := tk }) :
    wpAny (model PySem.Challenge.rw_nt0495_01.row.prog w) (callerA.deeper (envOfC qual scope L fa cdw)) (execs (body.drop 5) (envOfC qual scope L fa cdw)) Q E { S1 with heap := h, toks := tk } := by
  rw [← List.take_append_drop 3 (body.drop 5), List.drop_drop]
  refine cut_app ?_
  revert ho
  k_fill
  intro ho
  have e := ho.symm.trans (show _ = some _ from by k_is)
  cases e
  clear ho
  have BB := below_caller S1.heap
  have hx0 : [Value.ref q0, Value.ref q1, Value.ref q2, Value.ref q3].toArray[Int.toNat 0]? = some (Value.ref q0) := rfl
  have hx1 : [Value.ref q0, Value.ref q1, Value.ref q2, Value.ref q3].toArray[Int.toNat 1]? = some (Value.ref q1) := rfl
  have hx2 : [Value.ref q0, Value.ref q1, Value.ref q2, Value.ref q3].toArray[Int.toNat 2]? = some (Value.ref q2) := rfl
  have hx3 : [Value.ref q0, Value.ref q1, Value.ref q2, Value.ref q3].toArray[Int.toNat 3]? = some (Value.ref q3) := rfl
  dsimp only [List.drop] at K
  dsimp only [List.drop, List.take, Nat.reduceAdd]
  generalize (execs (_ :: _ :: _ :: _ :: _ :: _ :: _ :: _) _ : Sem Flow) = REST at *
  show wpAny _ _ _ _ _ _
  have hT0 : ∀ q ∈ ((L + 1 + 1 + 1 + 1 + 1, o5) :: (L + 1 + 1 + 1 + 1, o4) :: (L + 1 + 1 + 1, o3) :: (L + 1 + 1, o2) :: [(aP, listOf [Value.ref q0, Value.ref q1, Value.ref q2, Value.ref q3].toArray nP), (q0, tupO [Value.int p0.1 ta0, Value.int p0.2 tb0] n0), (q1, tupO [Value.int p1.1 ta1, Value.int p1.2 tb1] n1), (q2, tupO [Value.int p2.1 ta2, Value.int p2.2 tb2] n2), (q3, tupO [Value.int p3.1 ta3, Value.int p3.2 tb3] n3)]), (@Ne Nat q.1 k) ∧ (@Ne Nat q.1 d) := by
    intro q hq
    simp only [List.mem_cons, List.not_mem_nil, or_false] at hq
    rcases hq with rfl | rfl | rfl | rfl | rfl | rfl | rfl | rfl | rfl <;> (dsimp only; omega)
  have bP := News.isList N (show (aP, listOf [Value.ref q0, Value.ref q1, Value.ref q2, Value.ref q3].toArray nP) ∈ _ from by walk_at "MY_MEM")
  have bQ0 := News.isTup N (show (q0, tupO [Value.int p0.1 ta0, Value.int p0.2 tb0] n0) ∈ _ from by walk_at "MY_MEM")
  show wpAny _ _ _ _ _ _
  k_fold
  walk_at "MY_STEPS"
  · (rename (ah = 1) => hah1)
    refine Stop.mk ?_
    refine conP_use (T := _ :: _ :: _ :: _ :: _ :: _ :: _ :: _ :: _ :: []) move_m BB (by assumption) XX TT rfl (by assumption) hT0 hlt.1 hlt.2.1 (by decide) (by decide) ?_
    rintro h1 tk1 tl1 fs1 nn1 b1 c1 F1 N1 hT1 hne1 ⟨D1, nD1, tD1, rfl, mD1, ⟨ab, rfl⟩, ⟨ap, rfl⟩⟩
    clear N bP bQ0
    have bP := News.isList N1 (show (aP, listOf [Value.ref q0, Value.ref q1, Value.ref q2, Value.ref q3].toArray nP) ∈ _ from by walk_at "MY_MEM")
    have bQ0 := News.isTup N1 (show (q0, tupO [Value.int p0.1 ta0, Value.int p0.2 tb0] n0) ∈ _ from by walk_at "MY_MEM")
    have bQ1 := News.isTup N1 (show (q1, tupO [Value.int p1.1 ta1, Value.int p1.2 tb1] n1) ∈ _ from by walk_at "MY_MEM")
    have bQ2 := News.isTup N1 (show (q2, tupO [Value.int p2.1 ta2, Value.int p2.2 tb2] n2) ∈ _ from by walk_at "MY_MEM")
    have bQ3 := News.isTup N1 (show (q3, tupO [Value.int p3.1 ta3, Value.int p3.2 tb3] n3) ∈ _ from by walk_at "MY_MEM")
    walk_at "MY_STEPS"
    refine Stop.mk ?_
    refine conP_use (line_m (fs0 := []) (c := Str.ofString "m") (by simp) (by walk_at "MY_MEM") (by decide +kernel)) BB (by assumption) XX TT rfl (by assumption) hT1 hlt.1 hlt.2.1 (by decide) (by decide) ?_
    rintro h2 tk2 tl2 fs2 nn2 b2 c2 F2 N2 hT2 hne2 ⟨D2, nD2, tD2, rfl, mD2, rfl, ⟨ap2, rfl⟩⟩
    clear N1 bP bQ0 bQ1 bQ2 bQ3
    have bP := News.isList N2 (show (aP, listOf [Value.ref q0, Value.ref q1, Value.ref q2, Value.ref q3].toArray nP) ∈ _ from by walk_at "MY_MEM")
    have bQ0 := News.isTup N2 (show (q0, tupO [Value.int p0.1 ta0, Value.int p0.2 tb0] n0) ∈ _ from by walk_at "MY_MEM")
    have bQ1 := News.isTup N2 (show (q1, tupO [Value.int p1.1 ta1, Value.int p1.2 tb1] n1) ∈ _ from by walk_at "MY_MEM")
    have bQ2 := News.isTup N2 (show (q2, tupO [Value.int p2.1 ta2, Value.int p2.2 tb2] n2) ∈ _ from by walk_at "MY_MEM")
    have bQ3 := News.isTup N2 (show (q3, tupO [Value.int p3.1 ta3, Value.int p3.2 tb3] n3) ∈ _ from by walk_at "MY_MEM")
    walk_at "MY_STEPS"
    refine Stop.mk ?_
    refine conP_use (curve_m (fs0 := [] ++ [Value.ref D1]) (c := Str.ofString "l") (by simp) (by walk_at "MY_MEM") (by decide +kernel)) BB (by assumption) XX TT rfl (by assumption) hT2 hlt.1 hlt.2.1 (by decide) (by decide) ?_
    rintro h3 tk3 tl3 fs3 nn3 b3 c3 F3 N3 hT3 hne3 ⟨D3, nD3, tD3, rfl, mD3, rfl, ⟨ap3, rfl⟩⟩
    clear N2 bP bQ0 bQ1 bQ2 bQ3
    walk_at "MY_STEPS"
    refine Stop.mk ?_
    refine wpAny_execs_cons ?_
    walk_at "MY_STEPS"
    · (rename (Int.fmod (Int.fdiv fst 300) 2 = 1) => hcl)
      refine Stop.mk ?_
      refine conP_use (close_m (fs0 := [] ++ [Value.ref D1] ++ [Value.ref D2]) (c := Str.ofString "c") (by simp) (by walk_at "MY_MEM") (by decide +kernel)) BB (by assumption) XX TT rfl (by assumption) hT3 hlt.1 hlt.2.1 (by decide) (by decide) ?_
      rintro h4 tk4 tl4 fs4 nn4 b4 c4 F4 N4 hT4 hne4 ⟨D4, nD4, tD4, rfl, mD4⟩
      walk_at "MY_STEPS"
      refine Stop.mk ⟨rfl, ?_⟩
      have er : (lawRows (p0, p1, p2, p3) (decide (ah = 1)) (decide (Int.fmod (Int.fdiv fst 300) 2 = 1))).map rowD = [rowD (.m (7, -7)), rowD (.l p0), rowD (.c p1 p2 p3), rowD (.z)] := by
        rw [decide_eq_true hah1, decide_eq_true hcl]; rfl
      rw [er] at K
      clear er
      refine K _ _ m ((k, listOf ([] ++ [Value.ref D1] ++ [Value.ref D2] ++ [Value.ref D3] ++ [Value.ref D4]).toArray nn4) :: (x, instObj 184 d) :: (d, pathD w a1 a2 a3 a4 tm k b4 c4) :: (tl4 ++ tl3 ++ tl2 ++ tl1 ++ [(aP, listOf [Value.ref q0, Value.ref q1, Value.ref q2, Value.ref q3].toArray nP), (q0, tupO [Value.int p0.1 ta0, Value.int p0.2 tb0] n0), (q1, tupO [Value.int p1.1 ta1, Value.int p1.2 tb1] n1), (q2, tupO [Value.int p2.1 ta2, Value.int p2.2 tb2] n2), (q3, tupO [Value.int p3.1 ta3, Value.int p3.2 tb3] n3)])) tm x d k a1 a2 a3 a4 b4 c4 ([] ++ [Value.ref D1] ++ [Value.ref D2] ++ [Value.ref D3] ++ [Value.ref D4]) nn4 (by assumption) (kst_newsOf N4 fun q hq => ?_) ?_ ?_ (List.Mem.tail _ (List.Mem.head _)) (List.Mem.tail _ (List.Mem.tail _ (List.Mem.head _))) (List.Mem.head _) ?_
      · simp only [List.mem_cons, List.mem_append, List.not_mem_nil, or_false] at hq ⊢
        grind
      · refine Off.cons (by dsimp only; omega) (Off.cons (by dsimp only; omega) (Off.cons (by dsimp only; omega) ?_))
        exact Off.app (Off.app (Off.app (Off.app (off_of hne4 (by walk_at "MY_MEM") (by walk_at "MY_MEM") (by walk_at "MY_MEM") (by walk_at "MY_MEM")) (off_of hne3 (by walk_at "MY_MEM") (by walk_at "MY_MEM") (by walk_at "MY_MEM") (by walk_at "MY_MEM"))) (off_of hne2 (by walk_at "MY_MEM") (by walk_at "MY_MEM") (by walk_at "MY_MEM") (by walk_at "MY_MEM"))) (off_of hne1 (by walk_at "MY_MEM") (by walk_at "MY_MEM") (by walk_at "MY_MEM") (by walk_at "MY_MEM"))) hO
      · exact .list (by walk_at "MY_MEM") (.cons (.tuple (by walk_at "MY_MEM") (.cons (.int _ _) (.cons (.int _ _) .nil))) (.cons (.tuple (by walk_at "MY_MEM") (.cons (.int _ _) (.cons (.int _ _) .nil))) (.cons (.tuple (by walk_at "MY_MEM") (.cons (.int _ _) (.cons (.int _ _) .nil))) (.cons (.tuple (by walk_at "MY_MEM") (.cons (.int _ _) (.cons (.int _ _) .nil))) .nil))))
      · exact (.cons (.tuple (by walk_at "MY_MEM") (.cons (.str _ _) (.cons (.int _ _) (.cons (.int _ _) .nil)))) (.cons (.tuple (by walk_at "MY_MEM") (.cons (.str _ _) (.cons (.int _ _) (.cons (.int _ _) .nil)))) (.cons (.tuple (by walk_at "MY_MEM") (.cons (.str _ _) (.cons (.int _ _) (.cons (.int _ _) (.cons (.int _ _) (.cons (.int _ _) (.cons (.int _ _) (.cons (.int _ _) .nil)))))))) (.cons (.tuple (by walk_at "MY_MEM") (.cons (.str _ _) .nil)) .nil))))
    · (rename (¬ Int.fmod (Int.fdiv fst 300) 2 = 1) => hcl)
      refine Stop.mk ⟨rfl, ?_⟩
      have er : (lawRows (p0, p1, p2, p3) (decide (ah = 1)) (decide (Int.fmod (Int.fdiv fst 300) 2 = 1))).map rowD = [rowD (.m (7, -7)), rowD (.l p0), rowD (.c p1 p2 p3)] := by
        rw [decide_eq_true hah1, decide_eq_false hcl]; rfl
      rw [er] at K
      clear er
      refine K _ _ m ((k, listOf ([] ++ [Value.ref D1] ++ [Value.ref D2] ++ [Value.ref D3]).toArray nn3) :: (x, instObj 184 d) :: (d, pathD w a1 a2 a3 a4 tm k (.ref ab) (.ref ap3)) :: (tl3 ++ tl2 ++ tl1 ++ [(aP, listOf [Value.ref q0, Value.ref q1, Value.ref q2, Value.ref q3].toArray nP), (q0, tupO [Value.int p0.1 ta0, Value.int p0.2 tb0] n0), (q1, tupO [Value.int p1.1 ta1, Value.int p1.2 tb1] n1), (q2, tupO [Value.int p2.1 ta2, Value.int p2.2 tb2] n2), (q3, tupO [Value.int p3.1 ta3, Value.int p3.2 tb3] n3)])) tm x d k a1 a2 a3 a4 (.ref ab) (.ref ap3) ([] ++ [Value.ref D1] ++ [Value.ref D2] ++ [Value.ref D3]) nn3 (by assumption) (kst_newsOf N3 fun q hq => ?_) ?_ ?_ (List.Mem.tail _ (List.Mem.head _)) (List.Mem.tail _ (List.Mem.tail _ (List.Mem.head _))) (List.Mem.head _) ?_
      · simp only [List.mem_cons, List.mem_append, List.not_mem_nil, or_false] at hq ⊢
        grind
      · refine Off.cons (by dsimp only; omega) (Off.cons (by dsimp only; omega) (Off.cons (by dsimp only; omega) ?_))
        exact Off.app (Off.app (Off.app (off_of hne3 (by walk_at "MY_MEM") (by walk_at "MY_MEM") (by walk_at "MY_MEM") (by walk_at "MY_MEM")) (off_of hne2 (by walk_at "MY_MEM") (by walk_at "MY_MEM") (by walk_at "MY_MEM") (by walk_at "MY_MEM"))) (off_of hne1 (by walk_at "MY_MEM") (by walk_at "MY_MEM") (by walk_at "MY_MEM") (by walk_at "MY_MEM"))) hO
      · exact .list (by walk_at "MY_MEM") (.cons (.tuple (by walk_at "MY_MEM") (.cons (.int _ _) (.cons (.int _ _) .nil))) (.cons (.tuple (by walk_at "MY_MEM") (.cons (.int _ _) (.cons (.int _ _) .nil))) (.cons (.tuple (by walk_at "MY_MEM") (.cons (.int _ _) (.cons (.int _ _) .nil))) (.cons (.tuple (by walk_at "MY_MEM") (.cons (.int _ _) (.cons (.int _ _) .nil))) .nil))))
      · exact (.cons (.tuple (by walk_at "MY_MEM") (.cons (.str _ _) (.cons (.int _ _) (.cons (.int _ _) .nil)))) (.cons (.tuple (by walk_at "MY_MEM") (.cons (.str _ _) (.cons (.int _ _) (.cons (.int _ _) .nil)))) (.cons (.tuple (by walk_at "MY_MEM") (.cons (.str _ _) (.cons (.int _ _) (.cons (.int _ _) (.cons (.int _ _) (.cons (.int _ _) (.cons (.int _ _) (.cons (.int _ _) .nil)))))))) .nil)))
  · (rename (¬ ah = 1) => hah1)
    refine Stop.mk ?_
    refine conP_use (T := _ :: _ :: _ :: _ :: _ :: _ :: _ :: _ :: _ :: []) move_m BB (by assumption) XX TT rfl (by assumption) hT0 hlt.1 hlt.2.1 (by decide) (by decide) ?_
    rintro h1 tk1 tl1 fs1 nn1 b1 c1 F1 N1 hT1 hne1 ⟨D1, nD1, tD1, rfl, mD1, ⟨ab, rfl⟩, ⟨ap, rfl⟩⟩
    clear N bP bQ0
    have bP := News.isList N1 (show (aP, listOf [Value.ref q0, Value.ref q1, Value.ref q2, Value.ref q3].toArray nP) ∈ _ from by walk_at "MY_MEM")
    have bQ0 := News.isTup N1 (show (q0, tupO [Value.int p0.1 ta0, Value.int p0.2 tb0] n0) ∈ _ from by walk_at "MY_MEM")
    have bQ1 := News.isTup N1 (show (q1, tupO [Value.int p1.1 ta1, Value.int p1.2 tb1] n1) ∈ _ from by walk_at "MY_MEM")
    have bQ2 := News.isTup N1 (show (q2, tupO [Value.int p2.1 ta2, Value.int p2.2 tb2] n2) ∈ _ from by walk_at "MY_MEM")
    have bQ3 := News.isTup N1 (show (q3, tupO [Value.int p3.1 ta3, Value.int p3.2 tb3] n3) ∈ _ from by walk_at "MY_MEM")
    walk_at "MY_STEPS"
    refine Stop.mk ?_
    refine conP_use (curve_m (fs0 := []) (c := Str.ofString "m") (by simp) (by walk_at "MY_MEM") (by decide +kernel)) BB (by assumption) XX TT rfl (by assumption) hT1 hlt.1 hlt.2.1 (by decide) (by decide) ?_
    rintro h3 tk3 tl3 fs3 nn3 b3 c3 F3 N3 hT3 hne3 ⟨D3, nD3, tD3, rfl, mD3, rfl, ⟨ap3, rfl⟩⟩
    clear N1 bP bQ0 bQ1 bQ2 bQ3
    walk_at "MY_STEPS"
    refine Stop.mk ?_
    refine wpAny_execs_cons ?_
    walk_at "MY_STEPS"
    · (rename (Int.fmod (Int.fdiv fst 300) 2 = 1) => hcl)
      refine Stop.mk ?_
      refine conP_use (close_m (fs0 := [] ++ [Value.ref D1]) (c := Str.ofString "c") (by simp) (by walk_at "MY_MEM") (by decide +kernel)) BB (by assumption) XX TT rfl (by assumption) hT3 hlt.1 hlt.2.1 (by decide) (by decide) ?_
      rintro h4 tk4 tl4 fs4 nn4 b4 c4 F4 N4 hT4 hne4 ⟨D4, nD4, tD4, rfl, mD4⟩
      walk_at "MY_STEPS"
      refine Stop.mk ⟨rfl, ?_⟩
      have er : (lawRows (p0, p1, p2, p3) (decide (ah = 1)) (decide (Int.fmod (Int.fdiv fst 300) 2 = 1))).map rowD = [rowD (.m p0), rowD (.c p1 p2 p3), rowD (.z)] := by
        rw [decide_eq_false hah1, decide_eq_true hcl]; rfl
      rw [er] at K
      clear er
      refine K _ _ m ((k, listOf ([] ++ [Value.ref D1] ++ [Value.ref D3] ++ [Value.ref D4]).toArray nn4) :: (x, instObj 184 d) :: (d, pathD w a1 a2 a3 a4 tm k b4 c4) :: (tl4 ++ tl3 ++ tl1 ++ [(aP, listOf [Value.ref q0, Value.ref q1, Value.ref q2, Value.ref q3].toArray nP), (q0, tupO [Value.int p0.1 ta0, Value.int p0.2 tb0] n0), (q1, tupO [Value.int p1.1 ta1, Value.int p1.2 tb1] n1), (q2, tupO [Value.int p2.1 ta2, Value.int p2.2 tb2] n2), (q3, tupO [Value.int p3.1 ta3, Value.int p3.2 tb3] n3)])) tm x d k a1 a2 a3 a4 b4 c4 ([] ++ [Value.ref D1] ++ [Value.ref D3] ++ [Value.ref D4]) nn4 (by assumption) (kst_newsOf N4 fun q hq => ?_) ?_ ?_ (List.Mem.tail _ (List.Mem.head _)) (List.Mem.tail _ (List.Mem.tail _ (List.Mem.head _))) (List.Mem.head _) ?_
      · simp only [List.mem_cons, List.mem_append, List.not_mem_nil, or_false] at hq ⊢
        grind
      · refine Off.cons (by dsimp only; omega) (Off.cons (by dsimp only; omega) (Off.cons (by dsimp only; omega) ?_))
        exact Off.app (Off.app (Off.app (off_of hne4 (by walk_at "MY_MEM") (by walk_at "MY_MEM") (by walk_at "MY_MEM") (by walk_at "MY_MEM")) (off_of hne3 (by walk_at "MY_MEM") (by walk_at "MY_MEM") (by walk_at "MY_MEM") (by walk_at "MY_MEM"))) (off_of hne1 (by walk_at "MY_MEM") (by walk_at "MY_MEM") (by walk_at "MY_MEM") (by walk_at "MY_MEM"))) hO
      · exact .list (by walk_at "MY_MEM") (.cons (.tuple (by walk_at "MY_MEM") (.cons (.int _ _) (.cons (.int _ _) .nil))) (.cons (.tuple (by walk_at "MY_MEM") (.cons (.int _ _) (.cons (.int _ _) .nil))) (.cons (.tuple (by walk_at "MY_MEM") (.cons (.int _ _) (.cons (.int _ _) .nil))) (.cons (.tuple (by walk_at "MY_MEM") (.cons (.int _ _) (.cons (.int _ _) .nil))) .nil))))
      · exact (.cons (.tuple (by walk_at "MY_MEM") (.cons (.str _ _) (.cons (.int _ _) (.cons (.int _ _) .nil)))) (.cons (.tuple (by walk_at "MY_MEM") (.cons (.str _ _) (.cons (.int _ _) (.cons (.int _ _) (.cons (.int _ _) (.cons (.int _ _) (.cons (.int _ _) (.cons (.int _ _) .nil)))))))) (.cons (.tuple (by walk_at "MY_MEM") (.cons (.str _ _) .nil)) .nil)))
    · (rename (¬ Int.fmod (Int.fdiv fst 300) 2 = 1) => hcl)
      refine Stop.mk ⟨rfl, ?_⟩
      have er : (lawRows (p0, p1, p2, p3) (decide (ah = 1)) (decide (Int.fmod (Int.fdiv fst 300) 2 = 1))).map rowD = [rowD (.m p0), rowD (.c p1 p2 p3)] := by
        rw [decide_eq_false hah1, decide_eq_false hcl]; rfl
      rw [er] at K
      clear er
      refine K _ _ m ((k, listOf ([] ++ [Value.ref D1] ++ [Value.ref D3]).toArray nn3) :: (x, instObj 184 d) :: (d, pathD w a1 a2 a3 a4 tm k (.ref ab) (.ref ap3)) :: (tl3 ++ tl1 ++ [(aP, listOf [Value.ref q0, Value.ref q1, Value.ref q2, Value.ref q3].toArray nP), (q0, tupO [Value.int p0.1 ta0, Value.int p0.2 tb0] n0), (q1, tupO [Value.int p1.1 ta1, Value.int p1.2 tb1] n1), (q2, tupO [Value.int p2.1 ta2, Value.int p2.2 tb2] n2), (q3, tupO [Value.int p3.1 ta3, Value.int p3.2 tb3] n3)])) tm x d k a1 a2 a3 a4 (.ref ab) (.ref ap3) ([] ++ [Value.ref D1] ++ [Value.ref D3]) nn3 (by assumption) (kst_newsOf N3 fun q hq => ?_) ?_ ?_ (List.Mem.tail _ (List.Mem.head _)) (List.Mem.tail _ (List.Mem.tail _ (List.Mem.head _))) (List.Mem.head _) ?_
      · simp only [List.mem_cons, List.mem_append, List.not_mem_nil, or_false] at hq ⊢
        grind
      · refine Off.cons (by dsimp only; omega) (Off.cons (by dsimp only; omega) (Off.cons (by dsimp only; omega) ?_))
        exact Off.app (Off.app (off_of hne3 (by walk_at "MY_MEM") (by walk_at "MY_MEM") (by walk_at "MY_MEM") (by walk_at "MY_MEM")) (off_of hne1 (by walk_at "MY_MEM") (by walk_at "MY_MEM") (by walk_at "MY_MEM") (by walk_at "MY_MEM"))) hO
      · exact .list (by walk_at "MY_MEM") (.cons (.tuple (by walk_at "MY_MEM") (.cons (.int _ _) (.cons (.int _ _) .nil))) (.cons (.tuple (by walk_at "MY_MEM") (.cons (.int _ _) (.cons (.int _ _) .nil))) (.cons (.tuple (by walk_at "MY_MEM") (.cons (.int _ _) (.cons (.int _ _) .nil))) (.cons (.tuple (by walk_at "MY_MEM") (.cons (.int _ _) (.cons (.int _ _) .nil))) .nil))))
      · exact (.cons (.tuple (by walk_at "MY_MEM") (.cons (.str _ _) (.cons (.int _ _) (.cons (.int _ _) .nil)))) (.cons (.tuple (by walk_at "MY_MEM") (.cons (.str _ _) (.cons (.int _ _) (.cons (.int _ _) (.cons (.int _ _) (.cons (.int _ _) (.cons (.int _ _) (.cons (.int _ _) .nil)))))))) .nil))
end
section
local macro_rules | `(tactic| walk_at "MY_STEPS") => `(tactic| repeat' (first | (k_unfold; (try dsimp only)) | ((fail_if_success (with_reducible show Stop _)); k_end; wrow_close) | (dsimp only; walk1) | walk1 | (leave1; walk_say "STEP leave1"; try dsimp only) | fail "no step"))
local macro_rules | `(tactic| walk_at "call ref") => `(tactic| (refine stop_here ?_))
set_option maxRecDepth 100000 in
set_option maxHeartbeats 4000000 in
theorem stage9 {w : World} {S1 : Shared} {L : Nat} {mean : ExcName → Option Value} {mg mb : Str → Option Value} {name qual : Str} {params : Arguments} {body : List Stmt} {scope : Scope} {dV kV doc pm cdv ct oc : Value} {an od : Option Addr} {osl : Array (Option Value)}
    (ho : (Mine.hd.heap_39 w.params).lookup 270 = some ⟨oc, od, .func (fnOf name qual params body scope dV kV doc pm an cdv ct), osl⟩) {fa : Addr} {cdw : Value} {E : Value → Shared → Prop} {Q : Flow → Shared → Prop}
    (XX : (Mine.hd.heap_39 w.params).In S1.heap) (TT : Top Mine.hd.view_39 loose0 mean mg mb S1.heap)
    {h : Heap} {tk : Nat} {m : Str → Option Value} {fst : Int} {tC : Tok} {o5 o4 o3 o2 : Obj} {T : List (Addr × Obj)} {vP : Value} {p0 p1 p2 p3 : Pt} {f ah : Int} {t1 t2 tm : Tok} {x d k : Nat} {a1 a2 a3 a4 : Tok} {b p : Value} {fs : List Value} {n : Nat}
    (F : Fr S1.heap L h (kstB m [(Str.ofString "first", .int fst tC), (Str.ofString "flat", .int f t1), (Str.ofString "path", .ref x), (Str.ofString "ahead", .int ah t2)]))
    (N : News S1.heap L h ((L + 1 + 1 + 1 + 1 + 1, o5) :: (L + 1 + 1 + 1 + 1, o4) :: (L + 1 + 1 + 1, o3) :: (L + 1 + 1, o2) :: T)) (hT : Off L T) (DP : DatIn T vP (.list [ptD p0, ptD p1, ptD p2, ptD p3]))
    (c5 : o5.data = .cell none) (c4 : o4.data = .cell none) (c3 : o3.data = .cell none) (e2 : o2.data = .cell (some vP)) (hf : 4 ≤ f ∧ f ≤ 33) (mx : (x, instObj 184 d) ∈ T) (md : (d, pathD w a1 a2 a3 a4 tm k b p) ∈ T) (mk : (k, listOf fs.toArray n) ∈ T) (hq : QB 3000 (p0, p1, p2, p3))
    (DF : DatAll T fs ((lawRows (p0, p1, p2, p3) (decide (ah = 1)) (decide (Int.fmod (Int.fdiv fst 300) 2 = 1))).map rowD))
    (K : ∀ (h : Heap) (tk : Nat) (m : Str → Option Value) (T : List (Addr × Obj)) (W R : Nat),
      Fr S1.heap L h (kstB m [(Str.ofString "first", .int fst tC), (Str.ofString "flat", .int f t1), (Str.ofString "path", .ref x), (Str.ofString "ahead", .int ah t2), (Str.ofString "was", .ref W), (Str.ofString "rows", .ref R)]) →
      News S1.heap L h ((L + 1 + 1 + 1 + 1 + 1, o5) :: (L + 1 + 1 + 1 + 1, o4) :: (L + 1 + 1 + 1, o3) :: (L + 1 + 1, o2) :: T) → Off L T → DatIn T vP (.list [ptD p0, ptD p1, ptD p2, ptD p3]) →
      (x, instObj 184 d) ∈ T → (d, pathD w a1 a2 a3 a4 tm k b p) ∈ T → (k, listOf fs.toArray n) ∈ T →
      DatAll T fs ((lawRows (p0, p1, p2, p3) (decide (ah = 1)) (decide (Int.fmod (Int.fdiv fst 300) 2 = 1))).map rowD) →
      DatIn T (.ref W) (.list ((lawRows (p0, p1, p2, p3) (decide (ah = 1)) (decide (Int.fmod (Int.fdiv fst 300) 2 = 1))).map rowD)) →
      DatIn T (.ref R) (.list ((pathRows (lawP (p0, p1, p2, p3) (decide (ah = 1))) (lawLs (p0, p1, p2, p3) f (decide (ah = 1))) (decide (Int.fmod (Int.fdiv fst 300) 2 = 1))).map rowD)) →
      wpAny (model PySem.Challenge.rw_nt0495_01.row.prog w) (callerA.deeper (envOfC qual scope L fa cdw)) (execs (body.drop 9) (envOfC qual scope L fa cdw)) Q E { S1 with heap := h, toks := tk }) :
    wpAny (model PySem.Challenge.rw_nt0495_01.row.prog w) (callerA.deeper (envOfC qual scope L fa cdw)) (execs (body.drop 8) (envOfC qual scope L fa cdw)) Q E { S1 with heap := h, toks := tk } := by
  revert ho
  k_fill
  intro ho
  have e := ho.symm.trans (show _ = some _ from by k_is)
  cases e
  clear ho
  have BB := below_caller S1.heap
  generalize hcz : decide (Int.fmod (Int.fdiv fst 300) 2 = 1) = cz at *
  generalize hab : decide (ah = 1) = ab at *
  have hfl : fs.length ≤ 3000 := by
    have h1 := DF.length
    rw [List.length_map, lawRows, List.length_append, List.length_cons] at h1
    have h2 : (if ab then [Row.m (7, -7), Row.l (p0, p1, p2, p3).1] else [Row.m (p0, p1, p2, p3).1]).length ≤ 2 := by split <;> simp
    have h3 : (if cz then [Row.z] else []).length ≤ 1 := by split <;> simp
    omega
  dsimp only [List.drop] at K ⊢
  refine cut_one ?_
  generalize (execs (_ :: _ :: _ :: _ :: _ :: _ :: _ :: _) _ : Sem Flow) = REST at *
  show wpAny _ _ _ _ _ _
  k_fold
  walk_at "MY_STEPS"
  refine Stop.mk ?_
  refine conR_use (rows_m (b := b) (p := p) hfl) BB (by assumption) XX TT rfl (by assumption) (by walk_at "MY_MEM") (by walk_at "MY_MEM") (by walk_at "MY_MEM") (by decide) (by decide) ?_
  rintro h1 tk1 tl1 _ F1 N1 hne1 ⟨W, nW, rfl, mW⟩
  clear N F
  walk_at "MY_STEPS"
  refine Stop.mk ?_
  refine conR_use (flat_m (b := b) (p := p) (lawRows (p0, p1, p2, p3) ab cz) (DF.mono fun q hq => ?_) (rowsOk_law hq ab cz) ⟨by omega, by omega⟩ (flat_law _ f ab cz) (lawLs_length _ f ab)) BB (by assumption) XX TT rfl N1 (by walk_at "MY_MEM") (by walk_at "MY_MEM") (by walk_at "MY_MEM") (by decide) (by decide) ?_
  · walk_at "MY_MEM"
  rintro h2 tk2 tl2 _ F2 N2 hne2 ⟨x2, d2, k2, g1, g2, g3, g4, tm2, b2, c2, fs2, nn2, rfl, mx2, md2, mk2, DF2⟩
  clear N1 F1
  walk_at "MY_STEPS"
  refine Stop.mk ?_
  have hfl2 : fs2.length ≤ 3000 := by
    have h1 := DF2.length
    have h4 := lawLs_length (p0, p1, p2, p3) f ab
    rw [List.length_map, pathRows, List.length_cons, List.length_append, List.length_map] at h1
    have h3 : (if cz then [Row.z] else []).length ≤ 1 := by split <;> simp
    omega
  refine conR_use (rows_m (b := b2) (p := c2) hfl2) BB (by assumption) XX TT rfl N2 (by walk_at "MY_MEM") (by walk_at "MY_MEM") (by walk_at "MY_MEM") (by decide) (by decide) ?_
  rintro h3 tk3 tl3 _ F3 N3 hne3 ⟨R, nR, rfl, mR⟩
  clear N2 F2
  walk_at "MY_STEPS"
  refine Stop.mk ⟨rfl, ?_⟩
  rename_i FL NL
  have FK := fr_kst (ps := [(Str.ofString "first", .int fst tC), (Str.ofString "flat", .int f t1), (Str.ofString "path", .ref x), (Str.ofString "ahead", .int ah t2), (Str.ofString "was", .ref W), (Str.ofString "rows", .ref R)]) FL fun p hp => by
      simp only [List.mem_cons, List.not_mem_nil, or_false] at hp
      rcases hp with rfl | rfl | rfl | rfl | rfl | rfl <;> rfl
  have old : ∀ q ∈ T, q ∈ tl3 ++ tl2 ++ tl1 ++ T := fun q hq => List.mem_append.mpr (.inr hq)
  refine K _ _ _ (tl3 ++ tl2 ++ tl1 ++ T) W R FK (kst_newsOf NL fun q hq => ?_) ?_ (DP.mono old) (old _ mx) (old _ md) (old _ mk) (DF.mono old) (.list (show (W, _) ∈ _ from by walk_at "MY_MEM") (DF.mono old)) (.list (show (R, _) ∈ _ from by walk_at "MY_MEM") (Mine.DatAll.monoS (fun q hq hs => ?_) DF2))
  · simp only [List.mem_cons, List.mem_append] at hq ⊢
    grind
  · exact Off.app (Off.app (Off.app (off_of hne3 (by walk_at "MY_MEM") (by walk_at "MY_MEM") (by walk_at "MY_MEM") (by walk_at "MY_MEM")) (off_of hne2 (by walk_at "MY_MEM") (by walk_at "MY_MEM") (by walk_at "MY_MEM") (by walk_at "MY_MEM"))) (off_of hne1 (by walk_at "MY_MEM") (by walk_at "MY_MEM") (by walk_at "MY_MEM") (by walk_at "MY_MEM"))) hT
  · have n5 := cell_noSeq c5
    have n4 := cell_noSeq c4
    have n3 := cell_noSeq c3
    have n2 := cell_noSeq e2
    simp only [List.mem_cons, List.mem_append] at hq ⊢
    rcases hq with hq | hq | hq | hq | hq | hq | hq
    · exact .inl (.inl (.inr hq))
    · exact .inl (.inr hq)
    · rw [hq] at hs; exact absurd (n5.symm.trans hs) (by decide)
    · rw [hq] at hs; exact absurd (n4.symm.trans hs) (by decide)
    · rw [hq] at hs; exact absurd (n3.symm.trans hs) (by decide)
    · rw [hq] at hs; exact absurd (n2.symm.trans hs) (by decide)
    · exact .inr hq
end
section
local macro_rules | `(tactic| walk_at "MY_STEPS") => `(tactic| repeat' (first | (k_unfold; (try dsimp only)) | ((fail_if_success (with_reducible show Stop _)); k_end; wrow_close) | (dsimp only; walk1) | walk1 | (leave1; walk_say "STEP leave1"; try dsimp only) | fail "no step"))
local macro_rules | `(tactic| walk_at "call ref") => `(tactic| (refine stop_here ?_))
local macro_rules | `(tactic| walk_at "compareOp NotEq ref ref") => `(tactic| (refine stop_here ?_))
local macro_rules | `(tactic| walk_at "subscriptTail Name Slice ref ref") => `(tactic| (refine stop_here ?_))
set_option maxRecDepth 100000 in
set_option maxHeartbeats 4000000 in
theorem stage10 {w : World} {S1 : Shared} {L : Nat} {mean : ExcName → Option Value} {mg mb : Str → Option Value} {name qual : Str} {params : Arguments} {body : List Stmt} {scope : Scope} {dV kV doc pm cdv ct oc : Value} {an od : Option Addr} {osl : Array (Option Value)}
    (ho : (Mine.hd.heap_39 w.params).lookup 270 = some ⟨oc, od, .func (fnOf name qual params body scope dV kV doc pm an cdv ct), osl⟩) {fa : Addr} {cdw : Value} {E : Value → Shared → Prop} {Q : Flow → Shared → Prop}
    (XX : (Mine.hd.heap_39 w.params).In S1.heap) (TT : Top Mine.hd.view_39 loose0 mean mg mb S1.heap)
    {h : Heap} {tk : Nat} {m : Str → Option Value} {fst : Int} {tC : Tok} {o5 o4 o3 o2 : Obj} {T : List (Addr × Obj)} {f ah : Int} {t1 t2 tm : Tok} {x d k W R : Nat} {a1 a2 a3 a4 : Tok} {b p : Value} {fs : List Value} {n : Nat} {q : Quad} {cz : Bool}
    (F : Fr S1.heap L h (kstB m [(Str.ofString "first", .int fst tC), (Str.ofString "flat", .int f t1), (Str.ofString "path", .ref x), (Str.ofString "ahead", .int ah t2), (Str.ofString "was", .ref W), (Str.ofString "rows", .ref R)]))
    (N : News S1.heap L h ((L + 1 + 1 + 1 + 1 + 1, o5) :: (L + 1 + 1 + 1 + 1, o4) :: (L + 1 + 1 + 1, o3) :: (L + 1 + 1, o2) :: T)) (hah : ah = 0 ∨ ah = 1)
    (mx : (x, instObj 184 d) ∈ T) (md : (d, pathD w a1 a2 a3 a4 tm k b p) ∈ T) (mk : (k, listOf fs.toArray n) ∈ T)
    (DF : DatAll T fs ((lawRows q (decide (ah = 1)) cz).map rowD)) (DW : DatIn T (.ref W) (.list ((lawRows q (decide (ah = 1)) cz).map rowD)))
    (DR : DatIn T (.ref R) (.list ((pathRows (lawP q (decide (ah = 1))) (lawLs q f (decide (ah = 1))) cz).map rowD)))
    (K : ∀ (h : Heap) (tk : Nat),
      Fr S1.heap L h (kstB m [(Str.ofString "first", .int fst tC), (Str.ofString "flat", .int f t1), (Str.ofString "path", .ref x), (Str.ofString "ahead", .int ah t2), (Str.ofString "was", .ref W), (Str.ofString "rows", .ref R)]) →
      News S1.heap L h ((L + 1 + 1 + 1 + 1 + 1, o5) :: (L + 1 + 1 + 1 + 1, o4) :: (L + 1 + 1 + 1, o3) :: (L + 1 + 1, o2) :: T) →
      wpAny (model PySem.Challenge.rw_nt0495_01.row.prog w) (callerA.deeper (envOfC qual scope L fa cdw)) (execs (body.drop 10) (envOfC qual scope L fa cdw)) Q E { S1 with heap := h, toks := tk }) :
    wpAny (model PySem.Challenge.rw_nt0495_01.row.prog w) (callerA.deeper (envOfC qual scope L fa cdw)) (execs (body.drop 9) (envOfC qual scope L fa cdw)) Q E { S1 with heap := h, toks := tk } := by
  revert ho
  k_fill
  intro ho
  have e := ho.symm.trans (show _ = some _ from by k_is)
  cases e
  clear ho
  have BB := below_caller S1.heap
  generalize hab : decide (ah = 1) = ab at *
  have hfl : fs.length ≤ 3000 := by
    have h1 := DF.length
    rw [List.length_map, lawRows, List.length_append, List.length_cons] at h1
    have h2 : (if ab then [Row.m (7, -7), Row.l q.1] else [Row.m q.1]).length ≤ 2 := by split <;> simp
    have h3 : (if cz then [Row.z] else []).length ≤ 1 := by split <;> simp
    omega
  obtain ⟨_, vsW, nW, rfl, mW, dW⟩ : ∃ a vs n, W = a ∧ (a, listOf vs.toArray n) ∈ T ∧ DatAll T vs ((lawRows q ab cz).map rowD) := by
    obtain ⟨a, vs, n, e, h1, h2⟩ := list_of DW
    cases e
    exact ⟨_, _, _, rfl, h1, h2⟩
  obtain ⟨_, vsR, nR, rfl, mR, dR⟩ : ∃ a vs n, R = a ∧ (a, listOf vs.toArray n) ∈ T ∧ DatAll T vs ((pathRows (lawP q ab) (lawLs q f ab) cz).map rowD) := by
    obtain ⟨a, vs, n, e, h1, h2⟩ := list_of DR
    cases e
    exact ⟨_, _, _, rfl, h1, h2⟩
  have hlW : vsW.length ≤ sizeLine := by
    have h1 := dW.length
    have h2 := DF.length
    rw [sizeLine_eq]
    omega
  have hlR : vsR.length ≤ sizeLine := by
    have h1 := dR.length
    have h4 := lawLs_length q f ab
    rw [List.length_map, pathRows, List.length_cons, List.length_append, List.length_map] at h1
    have h3 : (if cz then [Row.z] else []).length ≤ 1 := by split <;> simp
    rw [sizeLine_eq]
    omega
  dsimp only [List.drop] at K ⊢
  refine cut_one ?_
  generalize (execs (_ :: _ :: _ :: _ :: _ :: _ :: _ :: _) _ : Sem Flow) = REST at *
  show wpAny _ _ _ _ _ _
  k_fold
  walk_at "MY_STEPS"
  refine Stop.mk ?_
  refine conR_use (rows_m (b := b) (p := p) hfl) BB (by assumption) XX TT rfl (by assumption) (by walk_at "MY_MEM") (by walk_at "MY_MEM") (by walk_at "MY_MEM") (by decide) (by decide) ?_
  rintro h1 tk1 tl1 _ F1 N1 hne1 ⟨V, nV, rfl, mV⟩
  clear N F
  walk_at "MY_STEPS"
  refine Stop.mk ?_
  refine ne_dat N1 (.list (show (V, _) ∈ _ from by walk_at "MY_MEM") (DF.mono fun q hq => by walk_at "MY_MEM")) (DW.mono fun q hq => by walk_at "MY_MEM") listD_ok listD_ok (show callerA.units + 3 + 64 < cLine by decide) false (by simp) ?_
  walk_at "MY_STEPS"
  refine Stop.mk ?_
  refine cut_upto (s := { S1 with heap := h1, toks := _ }) (k := (1 + ah).toNat) (by omega) F1 N1 (News.isList N1 (show (R, _) ∈ _ from by walk_at "MY_MEM")) ?_ (by with_unfolding_all rfl) (by intro _; with_unfolding_all rfl) hlR
  intro D2 h2 F2 N2 l2
  clear N1 F1
  walk_at "MY_STEPS"
  refine Stop.mk ?_
  refine cut_upto (s := { S1 with heap := h2, toks := _ }) (k := (1 + ah).toNat) (by omega) F2 N2 (News.isList N2 (show (W, _) ∈ _ from by walk_at "MY_MEM")) ?_ (by with_unfolding_all rfl) (by intro _; with_unfolding_all rfl) hlW
  intro D3 h3 F3 N3 l3
  clear N2 F2
  walk_at "MY_STEPS"
  refine Stop.mk ?_
  have heq : (pathRows (lawP q ab) (lawLs q f ab) cz).take (1 + ah).toNat = (lawRows q ab cz).take (1 + ah).toNat := by
    subst hab
    rcases hah with rfl | rfl
    · rfl
    · rfl
  refine ne_dat N3 (d := .list (((pathRows (lawP q ab) (lawLs q f ab) cz).take (1 + ah).toNat).map rowD)) (e := .list (((lawRows q ab cz).take (1 + ah).toNat).map rowD)) (.list (show (D2, _) ∈ _ from by walk_at "MY_MEM") ?_) (.list (show (D3, _) ∈ _ from by walk_at "MY_MEM") ?_) listD_ok listD_ok (show callerA.units + 3 + 64 < cLine by decide) false ?_ ?_
  · rw [List.map_take]; exact (Mine.DatAll.take dR _).mono fun q hq => by walk_at "MY_MEM"
  · rw [List.map_take]; exact (Mine.DatAll.take dW _).mono fun q hq => by walk_at "MY_MEM"
  · rw [heq]; simp
  walk_at "MY_STEPS"
  refine Stop.mk ⟨rfl, ?_⟩
  exact K _ _ F3 (kst_newsOf N3 fun q hq => by walk_at "MY_MEM")
end
section
local macro_rules | `(tactic| walk_at "MY_STEPS") => `(tactic| repeat' (first | (k_unfold; (try dsimp only)) | ((fail_if_success (with_reducible show Stop _)); k_end; wrow_close) | (dsimp only; walk1) | walk1 | (leave1; walk_say "STEP leave1"; try dsimp only) | fail "no step"))
local macro_rules | `(tactic| walk_at "compareOp NotEq ref ref") => `(tactic| (refine stop_here ?_))
local macro_rules | `(tactic| walk_at "MY_LAST") => `(tactic| (k_here; (with_reducible show wpAny _ _ (subscriptTail _ _ (Value.ref _) (Value.int _ _)) _ _ _); first
  | (exfalso; (with_reducible rename (Int.fmod _ 2 ≠ 1) => hx9); k_dflt (exact hx9 (by with_reducible assumption)))
  | (exfalso; (with_reducible rename (¬ Int.fmod _ 2 = 1) => hx9); k_dflt (exact hx9 (by with_reducible assumption)))
  | ((with_reducible show wpAny _ _ (subscriptTail _ _ (Value.ref _) (Value.int (-1) _)) _ _ _); k_dflt (refine' item_last ?l ?_ ?s; (case l => with_reducible assumption); (case s => with_unfolding_all rfl); k_whole))
  | (k_dflt (refine' item_tupleT ?t ?a ?b ?c ?d ?_; (case t => with_reducible assumption); (case a => decide); (case b => decide); (case c => rfl); (case d => rfl); k_whole))))
local macro_rules | `(tactic| walk_at "subscriptTail") => `(tactic| (walk_at "MY_LAST"))
local macro_rules | `(tactic| walk_at "subscriptTail Name UnaryOp ref int") => `(tactic| (walk_at "MY_LAST"))
local macro_rules | `(tactic| walk_at "subscriptTail Subscript Name UnaryOp Constant ref int") => `(tactic| (walk_at "MY_LAST"))
local macro_rules | `(tactic| walk_at "compareOp Eq str str") => `(tactic| (k_here; refine eq_strF (by decide +kernel) ?_))
set_option maxRecDepth 100000 in
set_option maxHeartbeats 4000000 in
theorem stage11 {w : World} {S1 : Shared} {L : Nat} {mean : ExcName → Option Value} {mg mb : Str → Option Value} {name qual : Str} {params : Arguments} {body : List Stmt} {scope : Scope} {dV kV doc pm cdv ct oc : Value} {an od : Option Addr} {osl : Array (Option Value)}
    (ho : (Mine.hd.heap_39 w.params).lookup 270 = some ⟨oc, od, .func (fnOf name qual params body scope dV kV doc pm an cdv ct), osl⟩) {fa : Addr} {cdw : Value} {E : Value → Shared → Prop} {Q : Flow → Shared → Prop}
    (XX : (Mine.hd.heap_39 w.params).In S1.heap) (TT : Top Mine.hd.view_39 loose0 mean mg mb S1.heap)
    {h : Heap} {tk : Nat} {m : Str → Option Value} {fst : Int} {tC : Tok} {o5 o4 o3 o2 : Obj} {T : List (Addr × Obj)} {f ah : Int} {t1 t2 : Tok} {x W R : Nat} {pp : Pt} {ls : List Pt}
    (F : Fr S1.heap L h (kstB m [(Str.ofString "first", .int fst tC), (Str.ofString "flat", .int f t1), (Str.ofString "path", .ref x), (Str.ofString "ahead", .int ah t2), (Str.ofString "was", .ref W), (Str.ofString "rows", .ref R)]))
    (N : News S1.heap L h ((L + 1 + 1 + 1 + 1 + 1, o5) :: (L + 1 + 1 + 1 + 1, o4) :: (L + 1 + 1 + 1, o3) :: (L + 1 + 1, o2) :: T)) (hls : ls ≠ [])
    (DR : DatIn T (.ref R) (.list ((pathRows pp ls (decide (Int.fmod (Int.fdiv fst 300) 2 = 1))).map rowD)))
    (K : ∀ (h : Heap) (tk : Nat),
      Fr S1.heap L h (kstB m [(Str.ofString "first", .int fst tC), (Str.ofString "flat", .int f t1), (Str.ofString "path", .ref x), (Str.ofString "ahead", .int ah t2), (Str.ofString "was", .ref W), (Str.ofString "rows", .ref R)]) →
      News S1.heap L h ((L + 1 + 1 + 1 + 1 + 1, o5) :: (L + 1 + 1 + 1 + 1, o4) :: (L + 1 + 1 + 1, o3) :: (L + 1 + 1, o2) :: T) →
      wpAny (model PySem.Challenge.rw_nt0495_01.row.prog w) (callerA.deeper (envOfC qual scope L fa cdw)) (execs (body.drop 11) (envOfC qual scope L fa cdw)) Q E { S1 with heap := h, toks := tk }) :
    wpAny (model PySem.Challenge.rw_nt0495_01.row.prog w) (callerA.deeper (envOfC qual scope L fa cdw)) (execs (body.drop 10) (envOfC qual scope L fa cdw)) Q E { S1 with heap := h, toks := tk } := by
  revert ho
  k_fill
  intro ho
  have e := ho.symm.trans (show _ = some _ from by k_is)
  cases e
  clear ho
  have BB := below_caller S1.heap
  dsimp only [List.drop] at K ⊢
  refine cut_one ?_
  generalize (execs (_ :: _ :: _ :: _ :: _ :: _ :: _ :: _) _ : Sem Flow) = REST at *
  by_cases hcz : Int.fmod (Int.fdiv fst 300) 2 = 1
  · rw [decide_eq_true hcz] at DR
    have DR2 : DatIn T (.ref R) (.list (((Row.m pp :: ls.map Row.l) ++ [Row.z]).map rowD)) := DR
    obtain ⟨vs, v, n, mR, dv0, hl⟩ := list_last DR2
    obtain ⟨av, rfl⟩ : ∃ a, v = .ref a := by cases dv0; exact ⟨_, rfl⟩
    have dv : DatIn T (.ref av) (rowD .z) := dv0
    clear dv0
    have bR := News.isList N (show (R, listOf (vs ++ [Value.ref av]).toArray n) ∈ _ from by walk_at "MY_MEM")
    show wpAny _ _ _ _ _ _
    k_fold
    walk_at "MY_STEPS"
    refine Stop.mk ?_
    (with_reducible rename News _ _ _ _ => NL)
    refine ne_dat NL (d := rowD .z) (e := rowD .z) (dv.mono fun q hq => by walk_at "MY_MEM") (.tuple (List.Mem.head _) (.cons (.str _ _) .nil)) (by decide +kernel) (by decide +kernel) (show callerA.units + 3 + 64 < cLine by decide) false (by simp) ?_
    walk_at "MY_STEPS"
    refine Stop.mk ⟨rfl, ?_⟩
    exact K _ _ (by assumption) (kst_newsOf NL fun q hq => by walk_at "MY_MEM")
  · rw [decide_eq_false hcz] at DR
    obtain ⟨rows0, pt, e⟩ := pathRows_last (p := pp) hls
    rw [e] at DR
    obtain ⟨vs, v, n, mR, dv, hl⟩ := list_last DR
    have bR := News.isList N (show (R, listOf (vs ++ [v]).toArray n) ∈ _ from by walk_at "MY_MEM")
    cases dv with | @tuple av _ nv _ mv h1 =>
    obtain ⟨v1, v2, v3, rfl, h1, h2, h3⟩ := all3 h1
    obtain ⟨tv1, rfl⟩ := str_of h1
    have bV := News.isTup N (show (av, tupO [Value.str (Str.ofString "l") tv1, v2, v3] nv) ∈ _ from by walk_at "MY_MEM")
    show wpAny _ _ _ _ _ _
    k_fold
    walk_at "MY_STEPS"
    refine Stop.mk ⟨rfl, ?_⟩
    exact K _ _ (by assumption) (by assumption)
end
section
local macro_rules | `(tactic| walk_at "MY_STEPS") => `(tactic| repeat' (first | (k_unfold; (try dsimp only)) | ((fail_if_success (with_reducible show Stop _)); k_end; wrow_close) | (dsimp only; walk1) | walk1 | (leave1; walk_say "STEP leave1"; try dsimp only) | fail "no step"))
local macro_rules | `(tactic| walk_at "compareOp NotEq ref ref") => `(tactic| (refine stop_here ?_))
local macro_rules | `(tactic| walk_at "subscriptTail Name Slice ref ref") => `(tactic| (refine stop_here ?_))
local macro_rules | `(tactic| walk_at "exec Assign cons ListComp") => `(tactic| ((with_reducible show wpAny _ _ (exec (Stmt.Assign [Expr.Name _ _] _ _) _) _ _ _); refine stop_here ?_))
local macro_rules | `(tactic| walk_at "eval Name") => `(tactic| (k_here; (with_reducible show wpAny _ _ (eval (Expr.Name _ _) (compEnvC _ _ _ _)) _ _ _); k_dflt (walk_at "MY_BLOCKNAME")))
local macro_rules | `(tactic| walk_at "newTuple") => `(tactic| (k_dflt (refine wpAny_newTuple ?_)))
set_option maxRecDepth 100000 in
set_option maxHeartbeats 4000000 in
theorem stage12 {w : World} {S1 : Shared} {L : Nat} {mean : ExcName → Option Value} {mg mb : Str → Option Value} {name qual : Str} {params : Arguments} {body : List Stmt} {scope : Scope} {dV kV doc pm cdv ct oc : Value} {an od : Option Addr} {osl : Array (Option Value)}
    (ho : (Mine.hd.heap_39 w.params).lookup 270 = some ⟨oc, od, .func (fnOf name qual params body scope dV kV doc pm an cdv ct), osl⟩) {fa : Addr} {cdw : Value} {E : Value → Shared → Prop} {Q : Flow → Shared → Prop}
    (XX : (Mine.hd.heap_39 w.params).In S1.heap) (TT : Top Mine.hd.view_39 loose0 mean mg mb S1.heap)
    {h : Heap} {tk : Nat} {m : Str → Option Value} {fst : Int} {tC : Tok} {o5 o4 o3 o2 : Obj} {T : List (Addr × Obj)} {f ah : Int} {t1 t2 : Tok} {x W R : Nat} {q : Quad} {cz : Bool} {vP : Value}
    (F : Fr S1.heap L h (kstB m [(Str.ofString "first", .int fst tC), (Str.ofString "flat", .int f t1), (Str.ofString "path", .ref x), (Str.ofString "ahead", .int ah t2), (Str.ofString "was", .ref W), (Str.ofString "rows", .ref R)]))
    (N : News S1.heap L h ((L + 1 + 1 + 1 + 1 + 1, o5) :: (L + 1 + 1 + 1 + 1, o4) :: (L + 1 + 1 + 1, o3) :: (L + 1 + 1, o2) :: T)) (hT : Off L T) (DP : DatIn T vP (.list [ptD q.1, ptD q.2.1, ptD q.2.2.1, ptD q.2.2.2])) (hah : ah = 0 ∨ ah = 1)
    (DR : DatIn T (.ref R) (.list ((pathRows (lawP q (decide (ah = 1))) (lawLs q f (decide (ah = 1))) cz).map rowD)))
    (K : ∀ (h : Heap) (tk : Nat) (m : Str → Option Value) (T : List (Addr × Obj)) (Ln : Nat),
      Fr S1.heap L h (kstB m [(Str.ofString "first", .int fst tC), (Str.ofString "flat", .int f t1), (Str.ofString "lines", .ref Ln)]) →
      News S1.heap L h ((L + 1 + 1 + 1 + 1 + 1, o5) :: (L + 1 + 1 + 1 + 1, o4) :: (L + 1 + 1 + 1, o3) :: (L + 1 + 1, o2) :: T) → Off L T → DatIn T vP (.list [ptD q.1, ptD q.2.1, ptD q.2.2.1, ptD q.2.2.2]) →
      DatIn T (.ref Ln) (.list (((ends f 10 q).map Row.l).map rowD)) →
      wpAny (model PySem.Challenge.rw_nt0495_01.row.prog w) (callerA.deeper (envOfC qual scope L fa cdw)) (execs (body.drop 12) (envOfC qual scope L fa cdw)) Q E { S1 with heap := h, toks := tk }) :
    wpAny (model PySem.Challenge.rw_nt0495_01.row.prog w) (callerA.deeper (envOfC qual scope L fa cdw)) (execs (body.drop 11) (envOfC qual scope L fa cdw)) Q E { S1 with heap := h, toks := tk } := by
  revert ho
  k_fill
  intro ho
  have e := ho.symm.trans (show _ = some _ from by k_is)
  cases e
  clear ho
  have BB := below_caller S1.heap
  obtain ⟨_, vsR, nR, rfl, mR, dR⟩ : ∃ a vs n, R = a ∧ (a, listOf vs.toArray n) ∈ T ∧ DatAll T vs ((pathRows (lawP q (decide (ah = 1))) (lawLs q f (decide (ah = 1))) cz).map rowD) := by
    obtain ⟨a, vs, n, e, h1, h2⟩ := list_of DR
    cases e
    exact ⟨_, _, _, rfl, h1, h2⟩
  have hlR : vsR.length ≤ 2000 := by
    have h1 := dR.length
    have h4 := lawLs_length q f (decide (ah = 1))
    rw [List.length_map, pathRows, List.length_cons, List.length_append, List.length_map] at h1
    have h3 : (if cz then [Row.z] else []).length ≤ 1 := by split <;> simp
    omega
  have dD := Mine.DatAll.drop dR (1 + ah).toNat
  rw [← List.map_drop, rows_drop q f ah hah cz] at dD
  dsimp only [List.drop] at K ⊢
  refine cut_one ?_
  generalize (execs (_ :: _ :: _ :: _ :: _ :: _ :: _ :: _) _ : Sem Flow) = REST at *
  show wpAny _ _ _ _ _ _
  k_fold
  walk_at "MY_STEPS"
  refine Stop.mk ?_
  have hkl : (vsR.drop (1 + ah).toNat).length = ((ends f 10 q).map Row.l ++ (if cz then [Row.z] else [])).length := by
    rw [dD.length, List.length_map]
  have hk2 : (vsR.drop (1 + ah).toNat).length ≤ 2000 := by rw [List.length_drop]; omega
  generalize hvD : vsR.drop (1 + ah).toNat = vsD at *
  refine assign_comp (k := vsD.length) (b := fun i => decide (i < (ends f 10 q).length)) (F := fun i v _ => vsD[i]? = some v) (by rw [sizeLine_eq]; omega) (by with_unfolding_all rfl) (by rfl) (by rfl) (by with_unfolding_all rfl) (by decide) (by rfl) (by decide) (by rfl) ?_
  walk_at "MY_STEPS"
  refine Stop.mk ?_
  refine cut_from (s := { S1 with heap := h, toks := _ }) (k := (1 + ah).toNat) (by omega) F N (News.isList N (show (R, _) ∈ _ from by walk_at "MY_MEM")) ?_ (by with_unfolding_all rfl) (by intro _; with_unfolding_all rfl) (by rw [sizeLine_eq]; omega)
  intro D2 h2 F2 N2 l2
  rw [hvD] at N2
  clear N F
  walk_at "MY_STEPS"
  refine Stop.mk ?_
  refine ⟨_, _, rfl, CSrc.list rfl (News.isList N2 (List.Mem.head _)) (by rw [List.size_toArray]), ?_, ?_, S1.heap, _, _, F2, N2, ?_⟩
  · intro i v C m2 h3 tk3 E3 hik hP hns hm kp
    have F3 := F2.keeps kp
    have N3 := N2.grown kp
    have hv : vsD[i]? = some v := by rw [← List.getElem?_toArray]; exact hP
    clear N2 F2 K
    refine forIn_one ?_
    obtain ⟨v', hv', dv⟩ := dD.get (k := i) (by rw [List.length_map, ← hkl]; exact hik)
    rw [hv] at hv'
    obtain rfl := Option.some.inj hv'
    have hrow : ∃ r, DatIn T v (rowD r) ∧ (decide (i < (ends f 10 q).length) = true ↔ rowD r ≠ rowD .z) := by
      have hi2 : i < (List.map Row.l (ends f 10 q) ++ if cz = true then [Row.z] else []).length := by rw [← hkl]; exact hik
      refine ⟨(List.map Row.l (ends f 10 q) ++ if cz = true then [Row.z] else [])[i], by rw [List.getElem_map] at dv; exact dv, ?_⟩
      rw [decide_eq_true_iff]
      by_cases hlt : i < (ends f 10 q).length
      · rw [List.getElem_append_left (by rw [List.length_map]; exact hlt), List.getElem_map]
        exact ⟨fun _ h => by simp [rowD] at h, fun _ => hlt⟩
      · rw [List.getElem_append_right (by rw [List.length_map]; omega)]
        cases cz with
        | false => simp at hi2; omega
        | true =>
          refine ⟨fun h => absurd h hlt, fun h => absurd ?_ h⟩
          simp
    clear dv
    obtain ⟨r, dv, hrz⟩ := hrow
    obtain ⟨av, rfl⟩ : ∃ a, v = .ref a := by cases r <;> (cases dv; exact ⟨_, rfl⟩)
    have hok := rowD_ok9 r
    walk_at "MY_STEPS"
    refine Stop.mk ?_
    (try dsimp only)
    have N4 := News.push F3 N3 { cls := .type "tuple", data := .seq #[Value.str (Str.ofString "z") tk3] }
    refine ne_dat N4 (d := rowD r) (e := rowD .z) (dv.mono fun q hq => by walk_at "MY_MEM") (.tuple (List.Mem.head _) (.cons (.str _ _) .nil)) hok (by decide +kernel) (show callerA.units + 3 + 64 < cLine by decide) (decide (i < (ends f 10 q).length)) hrz ?_
    walk_at "MY_STEPS"
    exact Stop.mk ⟨rfl, _, _, rfl, fun _ _ e => Heap.get?_push_of_some _ e⟩
  · intro i v C m2 h3 tk3 E3 hik hP hb hns hm kp
    have hv : vsD[i]? = some v := by rw [← List.getElem?_toArray]; exact hP
    clear K
    walk_at "MY_STEPS"
    exact Stop.mk ⟨[], _, _, rfl, fun _ _ e => e, fun p hp => (nomatch hp), hv⟩
  · intro D h3 tk3 vs F3 N3 hne hlen hF
    have hn : (ends f 10 q).length ≤ vsD.length := by
      rw [hkl, List.length_append, List.length_map]
      omega
    rw [filter_lt _ _ hn] at hlen hF
    rw [List.length_range] at hlen
    have dL : DatAll T vs (((ends f 10 q).map Row.l).map rowD) := by
      rw [List.map_append] at dD
      refine datAll_first dD (by rw [List.length_map, List.length_map]; exact hlen) fun j v hj => ?_
      have hjl := (List.getElem?_eq_some_iff.mp hj).1
      obtain ⟨nw, _, _, h5⟩ := hF j v j hj (by rw [List.getElem?_range (by omega)])
      exact h5
    simp only [AllNe] at hne
    refine Stop.mk ⟨rfl, ?_⟩
    have FK := fr_kst (ps := [(Str.ofString "first", .int fst tC), (Str.ofString "flat", .int f t1), (Str.ofString "lines", .ref D)]) F3 fun p hp => by
      simp only [List.mem_cons, List.not_mem_nil, or_false] at hp
      rcases hp with rfl | rfl | rfl <;> rfl
    refine K _ _ _ ((D, listOf vs.toArray vs.length) :: T) D FK (kst_newsOf N3 fun q hq => ?_) (Off.cons ?_ hT) (DP.mono fun q hq => List.Mem.tail _ hq) (.list (List.Mem.head _) (dL.mono fun q hq => List.Mem.tail _ hq))
    · simp only [List.mem_cons] at hq
      rcases hq with rfl | rfl | rfl | rfl | rfl | hq
      · walk_at "MY_MEM"
      · walk_at "MY_MEM"
      · walk_at "MY_MEM"
      · walk_at "MY_MEM"
      · exact List.Mem.head _
      · walk_at "MY_MEM"
    · dsimp only
      exact ⟨Ne.symm hne.2.2.2.2.1, Ne.symm hne.2.2.2.1, Ne.symm hne.2.2.1, Ne.symm hne.2.1⟩
end
section
local macro_rules | `(tactic| walk_at "MY_STEPS") => `(tactic| repeat' (first | (k_unfold; (try dsimp only)) | ((fail_if_success (with_reducible show Stop _)); k_end; wrow_close) | (dsimp only; walk1) | walk1 | (leave1; walk_say "STEP leave1"; try dsimp only) | fail "no step"))
local macro_rules | `(tactic| walk_at "compareOp NotEq ref ref") => `(tactic| (refine stop_here ?_))
local macro_rules | `(tactic| walk_at "eval ListComp") => `(tactic| (refine stop_here ?_))
local macro_rules | `(tactic| walk_at "MY_LAST") => `(tactic| (k_here; (with_reducible show wpAny _ _ (subscriptTail _ _ (Value.ref _) (Value.int _ _)) _ _ _); first
  | ((with_reducible show wpAny _ _ (subscriptTail _ _ (Value.ref _) (Value.int (-1) _)) _ _ _); k_dflt (refine' item_last ?l ?_ ?s; (case l => with_reducible assumption); (case s => with_unfolding_all rfl); k_whole))
  | (k_dflt (refine' item_tupleT ?t ?a ?b ?c ?d ?_; (case t => with_reducible assumption); (case a => decide); (case b => decide); (case c => rfl); (case d => rfl); k_whole))
  | (k_dflt (refine' item_list ?l ?a ?b ?c ?_ ?s ?g; (case l => with_reducible assumption); (case c => with_reducible assumption); (case a => decide); (case b => decide); (case s => with_unfolding_all rfl); (case g => (intro _; with_unfolding_all rfl)); k_whole))))
local macro_rules | `(tactic| walk_at "subscriptTail Name Constant ref int") => `(tactic| (walk_at "MY_LAST"))
local macro_rules | `(tactic| walk_at "subscriptTail Name UnaryOp ref int") => `(tactic| (walk_at "MY_LAST"))
local macro_rules | `(tactic| walk_at "subscriptTail Subscript Name UnaryOp Slice ref ref") => `(tactic| (refine stop_here ?_))
local macro_rules | `(tactic| walk_at "eval Name") => `(tactic| (k_here; (with_reducible show wpAny _ _ (eval (Expr.Name _ _) (compEnvC _ _ _ _)) _ _ _); k_dflt (walk_at "MY_BLOCKNAME")))
set_option maxRecDepth 100000 in
set_option maxHeartbeats 4000000 in
theorem stage13 {w : World} {S1 : Shared} {L : Nat} {mean : ExcName → Option Value} {mg mb : Str → Option Value} {name qual : Str} {params : Arguments} {body : List Stmt} {scope : Scope} {dV kV doc pm cdv ct oc : Value} {an od : Option Addr} {osl : Array (Option Value)}
    (ho : (Mine.hd.heap_39 w.params).lookup 270 = some ⟨oc, od, .func (fnOf name qual params body scope dV kV doc pm an cdv ct), osl⟩) {fa : Addr} {cdw : Value} {E : Value → Shared → Prop} {Q : Flow → Shared → Prop}
    (XX : (Mine.hd.heap_39 w.params).In S1.heap) (TT : Top Mine.hd.view_39 loose0 mean mg mb S1.heap)
    {h : Heap} {tk : Nat} {m : Str → Option Value} {fst : Int} {tC : Tok} {o5 o4 o3 o2 : Obj} {T : List (Addr × Obj)} {f : Int} {t1 : Tok} {Ln : Nat} {q : Quad} {vP : Value} {E0 : List Pt}
    (F : Fr S1.heap L h (kstB m [(Str.ofString "first", .int fst tC), (Str.ofString "flat", .int f t1), (Str.ofString "lines", .ref Ln)]))
    (N : News S1.heap L h ((L + 1 + 1 + 1 + 1 + 1, o5) :: (L + 1 + 1 + 1 + 1, o4) :: (L + 1 + 1 + 1, o3) :: (L + 1 + 1, o2) :: T)) (e2 : o2.data = .cell (some vP)) (DP : DatIn T vP (.list [ptD q.1, ptD q.2.1, ptD q.2.2.1, ptD q.2.2.2])) (hlen : E0.length ≤ 1023)
    (DL : DatIn T (.ref Ln) (.list (((E0 ++ [q.2.2.2]).map Row.l).map rowD)))
    (K : ∀ (h : Heap) (tk : Nat),
      Fr S1.heap L h (kstB m [(Str.ofString "first", .int fst tC), (Str.ofString "flat", .int f t1), (Str.ofString "lines", .ref Ln)]) →
      News S1.heap L h ((L + 1 + 1 + 1 + 1 + 1, o5) :: (L + 1 + 1 + 1 + 1, o4) :: (L + 1 + 1 + 1, o3) :: (L + 1 + 1, o2) :: T) →
      wpAny (model PySem.Challenge.rw_nt0495_01.row.prog w) (callerA.deeper (envOfC qual scope L fa cdw)) (execs (body.drop 13) (envOfC qual scope L fa cdw)) Q E { S1 with heap := h, toks := tk }) :
    wpAny (model PySem.Challenge.rw_nt0495_01.row.prog w) (callerA.deeper (envOfC qual scope L fa cdw)) (execs (body.drop 12) (envOfC qual scope L fa cdw)) Q E { S1 with heap := h, toks := tk } := by
  revert ho
  k_fill
  intro ho
  have e := ho.symm.trans (show _ = some _ from by k_is)
  cases e
  clear ho
  have BB := below_caller S1.heap
  have DL2 : DatIn T (.ref Ln) (.list ((E0.map Row.l ++ [Row.l q.2.2.2]).map rowD)) := by rw [List.map_append] at DL; exact DL
  obtain ⟨vs, v, n, mL, dv, hl, dvs⟩ := list_last2 DL2
  rw [List.length_map] at hl
  obtain ⟨al, nl, s0, s1, s2, rfl, ml⟩ := lrow_of dv
  obtain ⟨aP, vsP, nP, rfl, mP, dP⟩ := list_of DP
  obtain ⟨w0, w1, w2, w3, rfl, d0, d1, d2, d3⟩ := all4 dP
  obtain ⟨q3, rfl⟩ : ∃ a, w3 = .ref a := by cases d3; exact ⟨_, rfl⟩
  have hx3 : [w0, w1, w2, Value.ref q3].toArray[Int.toNat 3]? = some (Value.ref q3) := rfl
  dsimp only [List.drop] at K ⊢
  refine cut_one ?_
  generalize (execs (_ :: _ :: _ :: _ :: _ :: _ :: _ :: _) _ : Sem Flow) = REST at *
  show wpAny _ _ _ _ _ _
  k_fold
  walk_at "MY_STEPS"
  refine Stop.mk ?_
  refine comp_core (k := (vs ++ [Value.ref al]).length) (b := fun i => false) (F := fun i v _ => True) (by rw [sizeLine_eq, List.length_append, List.length_singleton]; omega) (by with_unfolding_all rfl) (by decide) (by rfl) (by decide) (by rfl) ?_
  walk_at "MY_STEPS"
  refine Stop.mk ?_
  refine ⟨_, _, rfl, CSrc.list rfl (News.isList N (show (Ln, _) ∈ _ from by walk_at "MY_MEM")) (by rw [List.size_toArray]), ?_, ?_, ?_⟩
  · intro i v C m2 h3 tk3 E3 hik hP hns hm kp
    have F3 := F.keeps kp
    have N3 := N.grown kp
    have hv : (vs ++ [Value.ref al])[i]? = some v := by rw [← List.getElem?_toArray]; exact hP
    clear N F K hP
    refine forIn_one ?_
    have hi2 : i < (E0.map Row.l ++ [Row.l q.2.2.2]).length := by
      rw [List.length_append, List.length_map, List.length_singleton]
      rw [List.length_append, List.length_singleton] at hik
      omega
    obtain ⟨v', hv', dw⟩ := dvs.get (k := i) (by rw [List.length_map]; exact hi2)
    rw [hv] at hv'
    obtain rfl := Option.some.inj hv'
    obtain ⟨pt, ept⟩ : ∃ pt, (E0.map Row.l ++ [Row.l q.2.2.2])[i] = Row.l pt := by
      rw [List.getElem_append]
      split
      · exact ⟨_, List.getElem_map ..⟩
      · exact ⟨q.2.2.2, by simp⟩
    rw [List.getElem_map, ept] at dw
    obtain ⟨aw, nw, z0, z1, z2, rfl, mw⟩ := lrow_of dw
    have bV := News.isTup N3 (show (aw, _) ∈ _ from by walk_at "MY_MEM")
    clear dw ept hi2 hv' mw
    walk_at "MY_STEPS"
    exact Stop.mk ⟨rfl, _, _, rfl, fun _ _ e => e⟩
  · intro i v C m2 h3 tk3 E3 hik hP hb hns hm kp
    cases hb
  · intro D h3 tk3 vs3 kp hD0 hD hlen3 hF
    obtain rfl : vs3 = [] := by
      have h0 : (List.range (vs ++ [Value.ref al]).length).filter (fun _ => false) = [] := by
        rw [List.filter_eq_nil_iff]
        intro a _ h
        cases h
      rw [h0] at hlen3
      exact List.length_eq_zero_iff.mp hlen3
    have F3 := F.keeps kp
    have N3 := news_add F N kp hD0 (o := listOf ([] : List Value).toArray 0) hD
    clear F N hF
    walk_at "MY_STEPS"
    refine Stop.mk ?_
    (with_reducible rename News _ _ _ _ => N4)
    refine ne_dat N4 (d := .list []) (e := .list []) (.list (show (D, _) ∈ _ from by walk_at "MY_MEM") .nil) (.list (show (_, listOf _ _) ∈ _ from List.Mem.head _) .nil) (by decide) (by decide) (show callerA.units + 3 + 64 < cLine by decide) false (by simp) ?_
    have bL := News.isList N4 (show (Ln, listOf (vs ++ [Value.ref al]).toArray n) ∈ _ from by walk_at "MY_MEM")
    walk_at "MY_STEPS"
    refine Stop.mk ?_
    (with_reducible rename Fr _ _ _ _ => F4)
    refine kba_turn (value' := PySem.Expr.Name (PySem.Str.ofString "_") ⟨0, 0, 0, 0⟩) (fun _ => rfl) ?_
    refine slice_tuple_from (s := { S1 with heap := _, toks := _ }) (a := 1) F4 N4 (News.isTup N4 (show (al, tupO [Value.str (Str.ofString "l") s0, Value.int q.2.2.2.1 s1, Value.int q.2.2.2.2 s2] nl) ∈ _ from by walk_at "MY_MEM")) (by decide) (by simp) ?_ (by with_unfolding_all rfl) (by intro _; with_unfolding_all rfl) (by simp [sizeLine_eq])
    intro h5 F5 N5
    have bP := News.isList N5 (show (aP, _) ∈ _ from by walk_at "MY_MEM")
    clear F4 N4 bL
    walk_at "MY_STEPS"
    refine Stop.mk ?_
    refine ne_dat N5 (d := ptD q.2.2.2) (e := ptD q.2.2.2) (.tuple (List.Mem.head _) (.cons (.int _ _) (.cons (.int _ _) .nil))) (d3.mono fun q hq => by walk_at "MY_MEM") (by rfl) (by rfl) (show callerA.units + 3 + 64 < cLine by decide) false (by simp) ?_
    walk_at "MY_STEPS"
    refine Stop.mk ⟨rfl, ?_⟩
    exact K _ _ F5 (kst_newsOf N5 fun q hq => by walk_at "MY_MEM")
end
section
local macro_rules | `(tactic| walk_at "MY_STEPS") => `(tactic| repeat' (first | (k_unfold; (try dsimp only)) | ((fail_if_success (with_reducible show Stop _)); k_end; wrow_close) | (dsimp only; walk1) | walk1 | (leave1; walk_say "STEP leave1"; try dsimp only) | fail "no step"))
local macro_rules | `(tactic| walk_at "binaryOp Add ref ref") => `(tactic| (refine stop_here ?_))
local macro_rules | `(tactic| walk_at "eval ListComp") => `(tactic| (refine stop_here ?_))
local macro_rules | `(tactic| walk_at "MY_LAST") => `(tactic| (k_here; (with_reducible show wpAny _ _ (subscriptTail _ _ (Value.ref _) (Value.int _ _)) _ _ _); first
  | (k_dflt (refine' item_list ?l ?a ?b ?c ?_ ?s ?g; (case l => with_reducible assumption); (case c => with_reducible assumption); (case a => decide); (case b => decide); (case s => with_unfolding_all rfl); (case g => (intro _; with_unfolding_all rfl)); k_whole))))
local macro_rules | `(tactic| walk_at "subscriptTail Name Constant ref int") => `(tactic| (walk_at "MY_LAST"))
local macro_rules | `(tactic| walk_at "subscriptTail Name Slice ref ref") => `(tactic| (refine stop_here ?_))
local macro_rules | `(tactic| walk_at "eval Name") => `(tactic| (k_here; (with_reducible show wpAny _ _ (eval (Expr.Name _ _) (compEnvC _ _ _ _)) _ _ _); k_dflt (walk_at "MY_BLOCKNAME")))
set_option maxRecDepth 100000 in
set_option maxHeartbeats 4000000 in
theorem stage14 {w : World} {S1 : Shared} {L : Nat} {mean : ExcName → Option Value} {mg mb : Str → Option Value} {name qual : Str} {params : Arguments} {body : List Stmt} {scope : Scope} {dV kV doc pm cdv ct oc : Value} {an od : Option Addr} {osl : Array (Option Value)}
    (ho : (Mine.hd.heap_39 w.params).lookup 270 = some ⟨oc, od, .func (fnOf name qual params body scope dV kV doc pm an cdv ct), osl⟩) {fa : Addr} {cdw : Value} {E : Value → Shared → Prop} {Q : Flow → Shared → Prop}
    (XX : (Mine.hd.heap_39 w.params).In S1.heap) (TT : Top Mine.hd.view_39 loose0 mean mg mb S1.heap)
    {h : Heap} {tk : Nat} {m : Str → Option Value} {fst : Int} {tC : Tok} {o5 o4 o3 o2 : Obj} {T : List (Addr × Obj)} {f : Int} {t1 : Tok} {Ln : Nat} {q : Quad} {vP : Value} {E0 : List Pt}
    (F : Fr S1.heap L h (kstB m [(Str.ofString "first", .int fst tC), (Str.ofString "flat", .int f t1), (Str.ofString "lines", .ref Ln)]))
    (N : News S1.heap L h ((L + 1 + 1 + 1 + 1 + 1, o5) :: (L + 1 + 1 + 1 + 1, o4) :: (L + 1 + 1 + 1, o3) :: (L + 1 + 1, o2) :: T)) (hT : Off L T) (e2 : o2.data = .cell (some vP)) (DP : DatIn T vP (.list [ptD q.1, ptD q.2.1, ptD q.2.2.1, ptD q.2.2.2])) (hlen : E0.length ≤ 1024)
    (DL : DatIn T (.ref Ln) (.list ((E0.map Row.l).map rowD)))
    (K : ∀ (h : Heap) (tk : Nat) (m : Str → Option Value) (T : List (Addr × Obj)) (En nl : Nat) (vl : List Value),
      Fr S1.heap L h (kstB m [(Str.ofString "first", .int fst tC), (Str.ofString "flat", .int f t1), (Str.ofString "lines", .ref Ln), (Str.ofString "ends", .ref En)]) →
      News S1.heap L h ((L + 1 + 1 + 1 + 1 + 1, o5) :: (L + 1 + 1 + 1 + 1, o4) :: (L + 1 + 1 + 1, o3) :: (L + 1 + 1, o2) :: T) → Off L T → DatIn T vP (.list [ptD q.1, ptD q.2.1, ptD q.2.2.1, ptD q.2.2.2]) →
      (Ln, listOf vl.toArray nl) ∈ T → vl.length = E0.length → DatIn T (.ref En) (.list ((q.1 :: E0).map ptD)) →
      wpAny (model PySem.Challenge.rw_nt0495_01.row.prog w) (callerA.deeper (envOfC qual scope L fa cdw)) (execs (body.drop 14) (envOfC qual scope L fa cdw)) Q E { S1 with heap := h, toks := tk }) :
    wpAny (model PySem.Challenge.rw_nt0495_01.row.prog w) (callerA.deeper (envOfC qual scope L fa cdw)) (execs (body.drop 13) (envOfC qual scope L fa cdw)) Q E { S1 with heap := h, toks := tk } := by
  revert ho
  k_fill
  intro ho
  have e := ho.symm.trans (show _ = some _ from by k_is)
  cases e
  clear ho
  have BB := below_caller S1.heap
  obtain ⟨_, vs, nl, rfl, mL, dvs⟩ : ∃ a vs n, Ln = a ∧ (a, listOf vs.toArray n) ∈ T ∧ DatAll T vs ((E0.map Row.l).map rowD) := by
    obtain ⟨a, vs, n, e, h1, h2⟩ := list_of DL
    cases e
    exact ⟨_, _, _, rfl, h1, h2⟩
  have hlv : vs.length = E0.length := by
    have := dvs.length
    rwa [List.length_map, List.length_map] at this
  obtain ⟨aP, vsP, nP, rfl, mP, dP⟩ := list_of DP
  obtain ⟨w0, w1, w2, w3, rfl, d0, d1, d2, d3⟩ := all4 dP
  obtain ⟨q0, rfl⟩ : ∃ a, w0 = .ref a := by cases d0; exact ⟨_, rfl⟩
  have hx0 : [Value.ref q0, w1, w2, w3].toArray[Int.toNat 0]? = some (Value.ref q0) := rfl
  have bP := News.isList N (show (aP, _) ∈ _ from by walk_at "MY_MEM")
  dsimp only [List.drop] at K ⊢
  refine cut_one ?_
  generalize (execs (_ :: _ :: _ :: _ :: _ :: _ :: _) _ : Sem Flow) = REST at *
  show wpAny _ _ _ _ _ _
  k_fold
  walk_at "MY_STEPS"
  refine Stop.mk ?_
  refine comp_plain (k := vs.length) (F := fun i v nw => DatIn nw v (ptD (E0.getD i (0, 0)))) (by rw [sizeLine_eq]; omega) (by with_unfolding_all rfl) (by decide) (by rfl) (by decide) (by rfl) ?_
  rename_i lq _ F1 N1 lq1
  walk_at "MY_STEPS"
  refine Stop.mk ?_
  refine ⟨_, _, rfl, CSrc.list rfl (News.isList N1 (show (Ln, _) ∈ _ from by walk_at "MY_MEM")) (by rw [List.size_toArray]), ?_, ?_⟩
  · intro i v C m2 h3 tk3 E3 hik hP hns hm kp
    have F3 := F1.keeps kp
    have N3 := N1.grown kp
    have hv : vs[i]? = some v := by rw [← List.getElem?_toArray]; exact hP
    obtain ⟨v', hv', dw⟩ := dvs.get (k := i) (by rw [List.length_map, List.length_map, ← hlv]; exact hik)
    rw [hv] at hv'
    obtain rfl := Option.some.inj hv'
    have hg : E0.getD i (0, 0) = E0[i]'(by rw [← hlv]; exact hik) := by
      rw [List.getD_eq_getElem?_getD, List.getElem?_eq_getElem (by rw [← hlv]; exact hik)]
      rfl
    rw [List.getElem_map, List.getElem_map] at dw
    rw [hg]
    generalize (E0[i]'(by rw [← hlv]; exact hik)) = pt at *
    obtain ⟨aw, nw, z0, z1, z2, rfl, mw⟩ := lrow_of dw
    have bV := News.isTup N3 (show (aw, _) ∈ _ from by walk_at "MY_MEM")
    clear N1 F1 K hP bP
    walk_at "MY_STEPS"
    refine Stop.mk ?_
    refine cut_tup (s := { S1 with heap := h3, toks := _ }) (a := 1) bV (by decide) (by simp) ?_ (by with_unfolding_all rfl) (by intro _; with_unfolding_all rfl) (by simp [sizeLine_eq])
    refine Stop.mk ⟨[(h3.objs.size + 1, tupO [Value.int pt.1 z1, Value.int pt.2 z2] 0)], _, _, rfl, fun _ _ e => Heap.get?_push_of_some _ (Heap.get?_push_of_some _ e), fun p hp => ?_, .tuple (List.Mem.head _) (.cons (.int _ _) (.cons (.int _ _) .nil))⟩
    rw [List.mem_singleton.mp hp]
    exact ⟨(congrArg (fun a => Heap.get? _ a) (Heap.size_push ..).symm).trans (Heap.get?_push_size _ rfl), Heap.get?_none_of_le (Nat.le_succ _)⟩
  · intro D h3 tk3 vs3 kp hD0 hD hlen3 hF
    obtain ⟨nws, hn1, hn2⟩ := dat_of (i := 0) (d := fun i => ptD (E0.getD i (0, 0))) (fun j v e => by rw [Nat.zero_add]; exact hF j v e)
    have F3 := F1.keeps kp
    have N3 := news_tl F1 N1 kp (tl := (D, listOf vs3.toArray vs3.length) :: nws) (fun p hp => (List.mem_cons.mp hp).elim (fun e => e ▸ ⟨hD, hD0⟩) (hn1 p))
    have hs1 : ∀ p ∈ (D, listOf vs3.toArray vs3.length) :: nws, AllNe p.1 _ := fun p hp => allNe_new N1 (by
      rcases List.mem_cons.mp hp with rfl | hp
      · exact hD0
      · exact (hn1 p hp).2)
    clear bP
    walk_at "MY_STEPS"
    refine Stop.mk ?_
    refine add_lists (vs := [Value.ref q0]) (ws := vs3) F3 N3 (News.isList N3 (show (lq, listOf [Value.ref q0].toArray 0) ∈ _ from by walk_at "MY_MEM")) (News.isList N3 (show (D, listOf vs3.toArray vs3.length) ∈ _ from by walk_at "MY_MEM")) ?_ (by rw [sizeLine_eq, List.length_singleton]; omega)
    intro h5 F5 N5
    have hoff := off_top N3 (by walk_at "MY_MEM") (by walk_at "MY_MEM") (by walk_at "MY_MEM") (by walk_at "MY_MEM")
    clear N3 F3 N1 F1
    walk_at "MY_STEPS"
    refine Stop.mk ⟨rfl, ?_⟩
    rename_i FL NL
    have FK := fr_kst (ps := [(Str.ofString "first", .int fst tC), (Str.ofString "flat", .int f t1), (Str.ofString "lines", .ref Ln), (Str.ofString "ends", .ref h3.objs.size)]) FL fun p hp => by
      simp only [List.mem_cons, List.not_mem_nil, or_false] at hp
      rcases hp with rfl | rfl | rfl | rfl <;> rfl
    have em : (List.range' 0 vs3.length).map (fun i => ptD (E0.getD i (0, 0))) = E0.map ptD := map_getD ptD _ _ (by omega)
    rw [em] at hn2
    refine K _ _ _ ((h3.objs.size, listOf ([Value.ref q0] ++ vs3).toArray 0) :: ((D, listOf vs3.toArray vs3.length) :: nws ++ T)) h3.objs.size nl vs FK (kst_newsOf NL fun q hq => ?_) (Off.cons hoff (Off.app (fun p hp => ?_) hT)) (.list (show (aP, _) ∈ _ from by walk_at "MY_MEM") (dP.mono fun q hq => by walk_at "MY_MEM")) (by walk_at "MY_MEM") hlv (.list (List.Mem.head _) (.cons (d0.mono fun q hq => by walk_at "MY_MEM") (hn2.mono fun q hq => by walk_at "MY_MEM")))
    · simp only [List.mem_cons, List.mem_append] at hq ⊢
      grind
    · have h9 := hs1 p hp
      simp only [AllNe] at h9
      exact ⟨Ne.symm h9.2.2.2.2.1, Ne.symm h9.2.2.2.1, Ne.symm h9.2.2.1, Ne.symm h9.2.1⟩
end
section
local macro_rules | `(tactic| walk_at "MY_STEPS") => `(tactic| repeat' (first | (k_unfold; (try dsimp only)) | ((fail_if_success (with_reducible show Stop _)); k_end; wrow_close) | (dsimp only; walk1) | walk1 | (leave1; walk_say "STEP leave1"; try dsimp only) | fail "no step"))
local macro_rules | `(tactic| walk_at "compareOp NotEq ref ref") => `(tactic| (refine stop_here ?_))
local macro_rules | `(tactic| walk_at "eval ListComp") => `(tactic| (refine stop_here ?_))
local macro_rules | `(tactic| walk_at "call builtin:min") => `(tactic| (refine stop_here ?_))
local macro_rules | `(tactic| walk_at "call builtin:max") => `(tactic| (refine stop_here ?_))
local macro_rules | `(tactic| walk_at "eval Name") => `(tactic| (k_here; (with_reducible show wpAny _ _ (eval (Expr.Name _ _) (compEnvC _ _ _ _)) _ _ _); k_dflt (walk_at "MY_BLOCKNAME")))
local macro_rules | `(tactic| walk_at "exec For Name Tuple cons nil") => `(tactic| (k_here; (rename Fr _ _ _ _ => lF'); (with_unfolding_all refine' For_turns lF' ?_ (hE := ?hE9); (case hE9 => assumption); k_whole)))
local macro_rules | `(tactic| walk_at "pyIter ref") => `(tactic| (refine stop_here ?_))
local macro_rules | `(tactic| walk_at "TurnPost") => `(tactic| first | refine TurnPost.next ?_ | refine TurnPost.cont ?_ | refine TurnPost.ret ?_)
local macro_rules | `(tactic| walk_at "MY_TUPAT") => `(tactic| (k_here; (with_reducible show wpAny _ _ (subscriptTail _ _ (Value.ref _) (Value.int _ _)) _ _ _); k_dflt (refine' item_tupleT ?t ?a ?b ?c ?d ?_; (case t => with_reducible assumption); (case a => decide); (case b => decide); (case c => rfl); (case d => rfl); k_whole)))
local macro_rules | `(tactic| walk_at "subscriptTail Name Name ref int") => `(tactic| (walk_at "MY_TUPAT"))
structure AxS where
  o5 : Obj
  o4 : Obj
  o3 : Obj
def AxS.led (Dt tk L : Nat) (o2 : Obj) (T : List (Addr × Obj)) (c : AxS) : List (Addr × Obj) := (Dt, tupO [Value.int 0 tk, Value.int 1 (tk + 1)] 0) :: (L + 1 + 1 + 1 + 1 + 1, c.o5) :: (L + 1 + 1 + 1 + 1, c.o4) :: (L + 1 + 1 + 1, c.o3) :: (L + 1 + 1, o2) :: T
def AxS.good (c : AxS) : Prop := (∃ v, c.o5.data = .cell v) ∧ (∃ v, c.o4.data = .cell v) ∧ (∃ v, c.o3.data = .cell v)
theorem ne_tup {h₀ h : Heap} {L a : Addr} {m : Str → Option Value} {x : List Value} {n : Nat} (F : Fr h₀ L h m) (e : h.get? a = some (tupO x n)) : a ≠ L := fun e2 => by
  obtain ⟨o, es, ep, ho, hd, _⟩ := F.ns
  rw [← e2, e] at ho
  rw [← Option.some.inj ho] at hd
  cases hd
set_option maxRecDepth 100000 in
set_option maxHeartbeats 4000000 in
theorem stage15 {w : World} {S1 : Shared} {L : Nat} {mean : ExcName → Option Value} {mg mb : Str → Option Value} {name qual : Str} {params : Arguments} {body : List Stmt} {scope : Scope} {dV kV doc pm cdv ct oc : Value} {an od : Option Addr} {osl : Array (Option Value)}
    (ho : (Mine.hd.heap_39 w.params).lookup 270 = some ⟨oc, od, .func (fnOf name qual params body scope dV kV doc pm an cdv ct), osl⟩) {fa : Addr} {cdw : Value} {E : Value → Shared → Prop} {Q : Flow → Shared → Prop}
    (XX : (Mine.hd.heap_39 w.params).In S1.heap) (TT : Top Mine.hd.view_39 loose0 mean mg mb S1.heap)
    {h : Heap} {tk : Nat} {m : Str → Option Value} {fst : Int} {tC : Tok} {o5 o4 o3 o2 : Obj} {T : List (Addr × Obj)} {f : Int} {t1 : Tok} {Ln En : Nat} {p0 p1 p2 p3 : Pt} {vP : Value} {E0 : List Pt}
    (hE : PassesOwn (model PySem.Challenge.rw_nt0495_01.row.prog w) (callerA.deeper (envOfC qual scope L fa cdw)) (envOfC qual scope L fa cdw) E)
    (F : Fr S1.heap L h (kstB m [(Str.ofString "first", .int fst tC), (Str.ofString "flat", .int f t1), (Str.ofString "lines", .ref Ln), (Str.ofString "ends", .ref En)]))
    (N : News S1.heap L h ((L + 1 + 1 + 1 + 1 + 1, o5) :: (L + 1 + 1 + 1 + 1, o4) :: (L + 1 + 1 + 1, o3) :: (L + 1 + 1, o2) :: T)) (hT : Off L T) (c5 : o5.data = .cell none) (c4 : o4.data = .cell none) (c3 : o3.data = .cell none) (c2 : o2.data = .cell (some vP)) (DP : DatIn T vP (.list [ptD p0, ptD p1, ptD p2, ptD p3])) (hlen : E0.length ≤ 1025)
    (DE : DatIn T (.ref En) (.list (E0.map ptD))) (hq : QB 3000 (p0, p1, p2, p3))
    (hbox : ∀ lx hx ly hy, (Btw lx hx p0.1 ∧ Btw lx hx p1.1 ∧ Btw lx hx p2.1 ∧ Btw lx hx p3.1) → (Btw ly hy p0.2 ∧ Btw ly hy p1.2 ∧ Btw ly hy p2.2 ∧ Btw ly hy p3.2) → ∀ e ∈ E0, Btw lx hx e.1 ∧ Btw ly hy e.2)
    (K : ∀ (h : Heap) (tk : Nat) (m : Str → Option Value) (o5 o4 o3 : Obj),
      Fr S1.heap L h (kstB m [(Str.ofString "first", .int fst tC), (Str.ofString "flat", .int f t1), (Str.ofString "lines", .ref Ln), (Str.ofString "ends", .ref En)]) →
      News S1.heap L h ((L + 1 + 1 + 1 + 1 + 1, o5) :: (L + 1 + 1 + 1 + 1, o4) :: (L + 1 + 1 + 1, o3) :: (L + 1 + 1, o2) :: T) →
      wpAny (model PySem.Challenge.rw_nt0495_01.row.prog w) (callerA.deeper (envOfC qual scope L fa cdw)) (execs (body.drop 15) (envOfC qual scope L fa cdw)) Q E { S1 with heap := h, toks := tk }) :
    wpAny (model PySem.Challenge.rw_nt0495_01.row.prog w) (callerA.deeper (envOfC qual scope L fa cdw)) (execs (body.drop 14) (envOfC qual scope L fa cdw)) Q E { S1 with heap := h, toks := tk } := by
  revert ho
  k_fill
  intro ho
  have e := ho.symm.trans (show _ = some _ from by k_is)
  cases e
  clear ho
  have BB := below_caller S1.heap
  obtain ⟨aP, vsP, nP, rfl, mP, dP⟩ := list_of DP
  obtain ⟨w0, w1, w2, w3, rfl, d0, d1, d2, d3⟩ := all4 dP
  obtain ⟨q0, n0, ta0, tb0, rfl, mq0⟩ := pt_of d0
  obtain ⟨q1, n1, ta1, tb1, rfl, mq1⟩ := pt_of d1
  obtain ⟨q2, n2, ta2, tb2, rfl, mq2⟩ := pt_of d2
  obtain ⟨q3, n3, ta3, tb3, rfl, mq3⟩ := pt_of d3
  obtain ⟨_, vE, nE, rfl, mE, dE⟩ : ∃ a vs n, En = a ∧ (a, listOf vs.toArray n) ∈ T ∧ DatAll T vs (E0.map ptD) := by
    obtain ⟨a, vs, n, e, h1, h2⟩ := list_of DE
    cases e
    exact ⟨_, _, _, rfl, h1, h2⟩
  have hlE : vE.length = E0.length := by
    have := dE.length
    rwa [List.length_map] at this
  have o2' : ∀ p ∈ T, p.1 ≠ L + 1 + 1 := fun p hp => (hT p hp).1
  have o3' : ∀ p ∈ T, p.1 ≠ L + 1 + 1 + 1 := fun p hp => (hT p hp).2.1
  have o4' : ∀ p ∈ T, p.1 ≠ L + 1 + 1 + 1 + 1 := fun p hp => (hT p hp).2.2.1
  have o5' : ∀ p ∈ T, p.1 ≠ L + 1 + 1 + 1 + 1 + 1 := fun p hp => (hT p hp).2.2.2
  dsimp only [List.drop] at K ⊢
  refine cut_one ?_
  generalize (execs (_ :: _ :: _ :: _ :: _ :: _) _ : Sem Flow) = REST at *
  show wpAny _ _ _ _ _ _
  k_fold
  walk_at "MY_STEPS"
  refine Stop.mk ?_
  rename_i Dt ht Ft Nt lt
  have hT2 : ∀ p ∈ T, (@Ne Nat p.1 Dt) := fun p hp => Ne.symm (allLt_ne lt.2.2.2.2 p hp)
  refine turn_tup (σ := AxS) (AxS.led Dt tk L o2 T) (fun _ => []) [] (fun _ c => c.good) ⟨o5, o4, o3⟩ rfl (Nt _ (List.Mem.head _)).1 (ne_tup Ft (Nt _ (List.Mem.head _)).1) Ft Nt (fun p hp => nomatch hp) ⟨⟨_, c5⟩, ⟨_, c4⟩, ⟨_, c3⟩⟩ ?_ ?_ ?_ ?_
  · intro i c hc p hp
    refine .inr ?_
    simp only [AxS.led, List.mem_cons] at hp
    rcases hp with rfl | rfl | rfl | rfl | rfl | hp
    · exact Nat.ne_of_lt (Heap.lt_size (Nt _ (List.Mem.head _)).1)
    · exact Nat.ne_of_lt (Heap.lt_size (Nt (_, o5) (List.Mem.tail _ (List.Mem.head _))).1)
    · exact Nat.ne_of_lt (Heap.lt_size (Nt (_, o4) (List.Mem.tail _ (List.Mem.tail _ (List.Mem.head _)))).1)
    · exact Nat.ne_of_lt (Heap.lt_size (Nt (_, o3) (List.Mem.tail _ (List.Mem.tail _ (List.Mem.tail _ (List.Mem.head _))))).1)
    · exact Nat.ne_of_lt (Heap.lt_size (Nt (_, o2) (List.Mem.tail _ (List.Mem.tail _ (List.Mem.tail _ (List.Mem.tail _ (List.Mem.head _)))))).1)
    · exact Nat.ne_of_lt (Heap.lt_size (Nt p (by walk_at "MY_MEM")).1)
  · intro i c h' m' hc F' N'
    exact (N' _ (List.Mem.head _)).1
  · have hI1 : @LT.lt Nat _ Dt ht.objs.size := Heap.lt_size (Nt _ (List.Mem.head _)).1
    have hI5 : @LT.lt Nat _ (L + 1 + 1 + 1 + 1 + 1) ht.objs.size := Heap.lt_size (Nt (_, o5) (List.Mem.tail _ (List.Mem.head _))).1
    have hIT : ∀ p ∈ T, (@Ne Nat p.1 ht.objs.size) := fun p hp => Nat.ne_of_lt (Heap.lt_size (Nt p (by walk_at "MY_MEM")).1)
    clear Ft Nt
    generalize (ht.objs.size : Nat) = I at *
    rintro i v ⟨a5, a4, a3⟩ u hh tk9 oI hvi ⟨⟨x5, g5⟩, ⟨x4, g4⟩, ⟨x3, g3⟩⟩ hcI kF kN
    dsimp only [AxS.led] at kN
    (try dsimp only at g5 g4 g3)
    rcases i with _ | _ | i
    · obtain rfl : v = Value.int 0 tk := (Option.some.inj hvi).symm
      show wpAny _ _ _ _ _ _
      k_fold
      walk_at "MY_STEPS"
      (with_reducible rename News _ _ _ _ => N1)
      (with_reducible rename Fr _ _ _ _ => F1)
      (with_reducible rename (Obj.data _ = Data.cell (some (Value.int 0 _))) => d3')
      refine Stop.mk ?_
      refine comp_plain (k := 4) (F := fun i v nw => ∃ t, v = .int (match i with | 0 => p0.1 | 1 => p1.1 | 2 => p2.1 | _ => p3.1) t) (Nat.le_of_ble_eq_true rfl) (by with_unfolding_all rfl) (by decide) (by rfl) (by decide) (by rfl) ?_
      walk_at "MY_STEPS"
      refine Stop.mk ?_
      refine ⟨_, _, rfl, CSrc.list rfl (News.isList N1 (show (aP, listOf [Value.ref q0, Value.ref q1, Value.ref q2, Value.ref q3].toArray nP) ∈ _ from by walk_at "MY_MEM")) (by rfl), ?_, ?_⟩
      · intro i v C m2 h3 tk3 E3 hik hP hns hm kp
        have F3 := F1.keeps kp
        have N3 := N1.grown kp
        have hX := cell_keeps (cell_of N1 (a := L + 1 + 1 + 1) (by walk_at "MY_MEM") d3') kp
        have bQ0 := News.isTup N3 (show (q0, tupO [Value.int p0.1 ta0, Value.int p0.2 tb0] n0) ∈ _ from by walk_at "MY_MEM")
        have bQ1 := News.isTup N3 (show (q1, tupO [Value.int p1.1 ta1, Value.int p1.2 tb1] n1) ∈ _ from by walk_at "MY_MEM")
        have bQ2 := News.isTup N3 (show (q2, tupO [Value.int p2.1 ta2, Value.int p2.2 tb2] n2) ∈ _ from by walk_at "MY_MEM")
        have bQ3 := News.isTup N3 (show (q3, tupO [Value.int p3.1 ta3, Value.int p3.2 tb3] n3) ∈ _ from by walk_at "MY_MEM")
        clear N1 F1 K
        rcases i with _ | _ | _ | _ | i
        · obtain rfl : v = Value.ref q0 := (Option.some.inj hP).symm
          walk_at "MY_STEPS"
          exact Stop.mk ⟨[], _, _, rfl, fun _ _ e => e, fun p hp => (nomatch hp), _, rfl⟩
        · obtain rfl : v = Value.ref q1 := (Option.some.inj hP).symm
          walk_at "MY_STEPS"
          exact Stop.mk ⟨[], _, _, rfl, fun _ _ e => e, fun p hp => (nomatch hp), _, rfl⟩
        · obtain rfl : v = Value.ref q2 := (Option.some.inj hP).symm
          walk_at "MY_STEPS"
          exact Stop.mk ⟨[], _, _, rfl, fun _ _ e => e, fun p hp => (nomatch hp), _, rfl⟩
        · obtain rfl : v = Value.ref q3 := (Option.some.inj hP).symm
          walk_at "MY_STEPS"
          exact Stop.mk ⟨[], _, _, rfl, fun _ _ e => e, fun p hp => (nomatch hp), _, rfl⟩
        · omega
      · intro D6 h6 tk6 vs6 kp hD0 hD hlen6 hF
        obtain ⟨u0, u1, u2, u3, rfl⟩ := four_of hlen6
        obtain ⟨tq0, rfl⟩ := ints_of hF 0 _ rfl
        obtain ⟨tq1, rfl⟩ := ints_of hF 1 _ rfl
        obtain ⟨tq2, rfl⟩ := ints_of hF 2 _ rfl
        obtain ⟨tq3, rfl⟩ := ints_of hF 3 _ rfl
        have F6 := F1.keeps kp
        have N6 := news_add F1 N1 kp hD0 (o := listOf [Value.int p0.1 tq0, Value.int p1.1 tq1, Value.int p2.1 tq2, Value.int p3.1 tq3].toArray 4) hD
        have l6 := allNe_new N1 hD0
        simp only [AllNe] at l6
        clear N1 F1 hF hD0 hD kp
        walk_at "MY_STEPS"
        refine Stop.mk ?_
        refine kso_min (vs := [Value.int p0.1 tq0, Value.int p1.1 tq1, Value.int p2.1 tq2, Value.int p3.1 tq3]) (ns := [p0.1, p1.1, p2.1, p3.1]) (by with_reducible assumption) (by with_reducible assumption) (News.isList N6 (List.Mem.head _)) (.cons _ _ (.cons _ _ (.cons _ _ (.cons _ _ .nil)))) (by simp) rfl ?_
        intro hh6 Mlo tM6 tkM6 F6b N6b Mlom Mlole
        have N6c := kst_newsOf N6b fun q hq => List.Mem.tail _ hq
        clear F6 N6 N6b
        walk_at "MY_STEPS"
        refine Stop.mk ?_
        refine comp_plain (k := 4) (F := fun i v nw => ∃ t, v = .int (match i with | 0 => p0.1 | 1 => p1.1 | 2 => p2.1 | _ => p3.1) t) (Nat.le_of_ble_eq_true rfl) (by with_unfolding_all rfl) (by decide) (by rfl) (by decide) (by rfl) ?_
        walk_at "MY_STEPS"
        refine Stop.mk ?_
        refine ⟨_, _, rfl, CSrc.list rfl (News.isList N6c (show (aP, listOf [Value.ref q0, Value.ref q1, Value.ref q2, Value.ref q3].toArray nP) ∈ _ from by walk_at "MY_MEM")) (by rfl), ?_, ?_⟩
        · intro i v C m2 h3 tk3 E3 hik hP hns hm kp
          have F3 := F6b.keeps kp
          have N3 := N6c.grown kp
          have hX := cell_keeps (cell_of N6c (a := L + 1 + 1 + 1) (by walk_at "MY_MEM") d3') kp
          have bQ0 := News.isTup N3 (show (q0, tupO [Value.int p0.1 ta0, Value.int p0.2 tb0] n0) ∈ _ from by walk_at "MY_MEM")
          have bQ1 := News.isTup N3 (show (q1, tupO [Value.int p1.1 ta1, Value.int p1.2 tb1] n1) ∈ _ from by walk_at "MY_MEM")
          have bQ2 := News.isTup N3 (show (q2, tupO [Value.int p2.1 ta2, Value.int p2.2 tb2] n2) ∈ _ from by walk_at "MY_MEM")
          have bQ3 := News.isTup N3 (show (q3, tupO [Value.int p3.1 ta3, Value.int p3.2 tb3] n3) ∈ _ from by walk_at "MY_MEM")
          clear N6c F6b K
          rcases i with _ | _ | _ | _ | i
          · obtain rfl : v = Value.ref q0 := (Option.some.inj hP).symm
            walk_at "MY_STEPS"
            exact Stop.mk ⟨[], _, _, rfl, fun _ _ e => e, fun p hp => (nomatch hp), _, rfl⟩
          · obtain rfl : v = Value.ref q1 := (Option.some.inj hP).symm
            walk_at "MY_STEPS"
            exact Stop.mk ⟨[], _, _, rfl, fun _ _ e => e, fun p hp => (nomatch hp), _, rfl⟩
          · obtain rfl : v = Value.ref q2 := (Option.some.inj hP).symm
            walk_at "MY_STEPS"
            exact Stop.mk ⟨[], _, _, rfl, fun _ _ e => e, fun p hp => (nomatch hp), _, rfl⟩
          · obtain rfl : v = Value.ref q3 := (Option.some.inj hP).symm
            walk_at "MY_STEPS"
            exact Stop.mk ⟨[], _, _, rfl, fun _ _ e => e, fun p hp => (nomatch hp), _, rfl⟩
          · omega
        · intro D7 h7 tk7 vs7 kp hD0 hD hlen7 hF
          obtain ⟨u0, u1, u2, u3, rfl⟩ := four_of hlen7
          obtain ⟨tq0, rfl⟩ := ints_of hF 0 _ rfl
          obtain ⟨tq1, rfl⟩ := ints_of hF 1 _ rfl
          obtain ⟨tq2, rfl⟩ := ints_of hF 2 _ rfl
          obtain ⟨tq3, rfl⟩ := ints_of hF 3 _ rfl
          have F7 := F6b.keeps kp
          have N7 := news_add F6b N6c kp hD0 (o := listOf [Value.int p0.1 tq0, Value.int p1.1 tq1, Value.int p2.1 tq2, Value.int p3.1 tq3].toArray 4) hD
          have l7 := allNe_new N6c hD0
          simp only [AllNe] at l7
          clear N6c F6b hF hD0 hD kp
          walk_at "MY_STEPS"
          refine Stop.mk ?_
          refine kso_max (vs := [Value.int p0.1 tq0, Value.int p1.1 tq1, Value.int p2.1 tq2, Value.int p3.1 tq3]) (ns := [p0.1, p1.1, p2.1, p3.1]) (by with_reducible assumption) (by with_reducible assumption) (News.isList N7 (List.Mem.head _)) (.cons _ _ (.cons _ _ (.cons _ _ (.cons _ _ .nil)))) (by simp) rfl ?_
          intro hh7 Mhi tM7 tkM7 F7b N7b Mhim Mhile
          have N7c := kst_newsOf N7b fun q hq => List.Mem.tail _ hq
          clear F7 N7 N7b
          walk_at "MY_STEPS"
          (with_reducible rename News _ _ _ _ => N8)
          (with_reducible rename Fr _ _ _ _ => F8)
          (with_reducible rename (Obj.data _ = Data.cell (some (Value.int Mlo _))) => d4')
          (with_reducible rename (Obj.data _ = Data.cell (some (Value.int Mhi _))) => d5')
          have bb : Btw Mlo Mhi p0.1 ∧ Btw Mlo Mhi p1.1 ∧ Btw Mlo Mhi p2.1 ∧ Btw Mlo Mhi p3.1 := ⟨⟨Mlole _ (by simp), Mhile _ (by simp)⟩, ⟨Mlole _ (by simp), Mhile _ (by simp)⟩, ⟨Mlole _ (by simp), Mhile _ (by simp)⟩, ⟨Mlole _ (by simp), Mhile _ (by simp)⟩⟩
          have hin : ∀ e ∈ E0, Btw Mlo Mhi e.1 := fun e he => (hbox Mlo Mhi (-3000) 3000 bb (by simp only [Btw]; simp only [QB, PB] at hq; omega) e he).1
          clear bb
          refine Stop.mk ?_
          refine comp_core (k := vE.length) (b := fun _ => false) (F := fun _ _ _ => True) (by rw [sizeLine_eq]; omega) (by with_unfolding_all rfl) (by decide) (by rfl) (by decide) (by rfl) ?_
          walk_at "MY_STEPS"
          refine Stop.mk ?_
          refine ⟨_, _, rfl, CSrc.list rfl (News.isList N8 (show (En, listOf vE.toArray nE) ∈ _ from by walk_at "MY_MEM")) (by rw [List.size_toArray]), ?_, ?_, ?_⟩
          · intro i v C m2 h3 tk3 E3 hik hP hns hm kp
            have F3 := F8.keeps kp
            have N3 := N8.grown kp
            have hX3 := cell_keeps (cell_of N8 (a := L + 1 + 1 + 1) (by walk_at "MY_MEM") d3') kp
            have hX4 := cell_keeps (cell_of N8 (a := L + 1 + 1 + 1 + 1) (by walk_at "MY_MEM") d4') kp
            have hX5 := cell_keeps (cell_of N8 (a := L + 1 + 1 + 1 + 1 + 1) (by walk_at "MY_MEM") d5') kp
            have hv : vE[i]? = some v := by rw [← List.getElem?_toArray]; exact hP
            obtain ⟨v', hv', dw⟩ := dE.get (k := i) (by rw [List.length_map, ← hlE]; exact hik)
            rw [hv] at hv'
            obtain rfl := Option.some.inj hv'
            rw [List.getElem_map] at dw
            have hin2 := hin _ (List.getElem_mem (l := E0) (n := i) (by rw [← hlE]; exact hik))
            generalize (E0[i]'(by rw [← hlE]; exact hik)) = e9 at *
            obtain ⟨aw, nw, z1, z2, rfl, mw⟩ := pt_of dw
            have bV := News.isTup N3 (show (aw, _) ∈ _ from by walk_at "MY_MEM")
            obtain ⟨b1, b2⟩ := hin2
            clear N8 F8 K hP hv' hin dw
            refine forIn_one ?_
            walk_at "MY_STEPS"
            exact Stop.mk ⟨by rw [decide_eq_true b2]; rfl, _, _, rfl, fun _ _ e => e⟩
          · intro i v C m2 h3 tk3 E3 hik hP hb hns hm kp
            cases hb
          · intro D h3 tk3 vs3 kp hD0 hD hlen3 hF
            obtain rfl : vs3 = [] := by
              have h0 : (List.range vE.length).filter (fun _ => false) = [] := by
                rw [List.filter_eq_nil_iff]
                intro a _ h
                cases h
              rw [h0] at hlen3
              exact List.length_eq_zero_iff.mp hlen3
            have F3 := F8.keeps kp
            have N3 := news_add F8 N8 kp hD0 (o := listOf ([] : List Value).toArray 0) hD
            clear F8 N8 hF
            walk_at "MY_STEPS"
            refine Stop.mk ?_
            (with_reducible rename News _ _ _ _ => N4)
            refine ne_dat N4 (d := .list []) (e := .list []) (.list (show (D, _) ∈ _ from by walk_at "MY_MEM") .nil) (.list (show (_, listOf _ _) ∈ _ from List.Mem.head _) .nil) (by decide) (by decide) (show callerA.units + 3 + 64 < cLine by decide) false (by simp) ?_
            walk_at "MY_STEPS"
            refine Stop.mk ?_
            (with_reducible rename News _ _ _ _ => N5)
            (with_reducible rename Fr _ _ _ _ => F5)
            refine turn_end ⟨_, _, _⟩ F5 N5 (by walk_at "MY_MEM") (fun p hp => ?_) (fun p hp => nomatch hp) (fun z _ _ => rfl) ⟨⟨_, d5'⟩, ⟨_, d4'⟩, ⟨_, d3'⟩⟩
            simp only [AxS.led, List.mem_cons] at hp
            rcases hp with rfl | rfl | rfl | rfl | rfl | hp <;> walk_at "MY_MEM"
    · obtain rfl : v = Value.int 1 (tk + 1) := (Option.some.inj hvi).symm
      show wpAny _ _ _ _ _ _
      k_fold
      walk_at "MY_STEPS"
      (with_reducible rename News _ _ _ _ => N1)
      (with_reducible rename Fr _ _ _ _ => F1)
      (with_reducible rename (Obj.data _ = Data.cell (some (Value.int 1 _))) => d3')
      refine Stop.mk ?_
      refine comp_plain (k := 4) (F := fun i v nw => ∃ t, v = .int (match i with | 0 => p0.2 | 1 => p1.2 | 2 => p2.2 | _ => p3.2) t) (Nat.le_of_ble_eq_true rfl) (by with_unfolding_all rfl) (by decide) (by rfl) (by decide) (by rfl) ?_
      walk_at "MY_STEPS"
      refine Stop.mk ?_
      refine ⟨_, _, rfl, CSrc.list rfl (News.isList N1 (show (aP, listOf [Value.ref q0, Value.ref q1, Value.ref q2, Value.ref q3].toArray nP) ∈ _ from by walk_at "MY_MEM")) (by rfl), ?_, ?_⟩
      · intro i v C m2 h3 tk3 E3 hik hP hns hm kp
        have F3 := F1.keeps kp
        have N3 := N1.grown kp
        have hX := cell_keeps (cell_of N1 (a := L + 1 + 1 + 1) (by walk_at "MY_MEM") d3') kp
        have bQ0 := News.isTup N3 (show (q0, tupO [Value.int p0.1 ta0, Value.int p0.2 tb0] n0) ∈ _ from by walk_at "MY_MEM")
        have bQ1 := News.isTup N3 (show (q1, tupO [Value.int p1.1 ta1, Value.int p1.2 tb1] n1) ∈ _ from by walk_at "MY_MEM")
        have bQ2 := News.isTup N3 (show (q2, tupO [Value.int p2.1 ta2, Value.int p2.2 tb2] n2) ∈ _ from by walk_at "MY_MEM")
        have bQ3 := News.isTup N3 (show (q3, tupO [Value.int p3.1 ta3, Value.int p3.2 tb3] n3) ∈ _ from by walk_at "MY_MEM")
        clear N1 F1 K
        rcases i with _ | _ | _ | _ | i
        · obtain rfl : v = Value.ref q0 := (Option.some.inj hP).symm
          walk_at "MY_STEPS"
          exact Stop.mk ⟨[], _, _, rfl, fun _ _ e => e, fun p hp => (nomatch hp), _, rfl⟩
        · obtain rfl : v = Value.ref q1 := (Option.some.inj hP).symm
          walk_at "MY_STEPS"
          exact Stop.mk ⟨[], _, _, rfl, fun _ _ e => e, fun p hp => (nomatch hp), _, rfl⟩
        · obtain rfl : v = Value.ref q2 := (Option.some.inj hP).symm
          walk_at "MY_STEPS"
          exact Stop.mk ⟨[], _, _, rfl, fun _ _ e => e, fun p hp => (nomatch hp), _, rfl⟩
        · obtain rfl : v = Value.ref q3 := (Option.some.inj hP).symm
          walk_at "MY_STEPS"
          exact Stop.mk ⟨[], _, _, rfl, fun _ _ e => e, fun p hp => (nomatch hp), _, rfl⟩
        · omega
      · intro D6 h6 tk6 vs6 kp hD0 hD hlen6 hF
        obtain ⟨u0, u1, u2, u3, rfl⟩ := four_of hlen6
        obtain ⟨tq0, rfl⟩ := ints_of hF 0 _ rfl
        obtain ⟨tq1, rfl⟩ := ints_of hF 1 _ rfl
        obtain ⟨tq2, rfl⟩ := ints_of hF 2 _ rfl
        obtain ⟨tq3, rfl⟩ := ints_of hF 3 _ rfl
        have F6 := F1.keeps kp
        have N6 := news_add F1 N1 kp hD0 (o := listOf [Value.int p0.2 tq0, Value.int p1.2 tq1, Value.int p2.2 tq2, Value.int p3.2 tq3].toArray 4) hD
        have l6 := allNe_new N1 hD0
        simp only [AllNe] at l6
        clear N1 F1 hF hD0 hD kp
        walk_at "MY_STEPS"
        refine Stop.mk ?_
        refine kso_min (vs := [Value.int p0.2 tq0, Value.int p1.2 tq1, Value.int p2.2 tq2, Value.int p3.2 tq3]) (ns := [p0.2, p1.2, p2.2, p3.2]) (by with_reducible assumption) (by with_reducible assumption) (News.isList N6 (List.Mem.head _)) (.cons _ _ (.cons _ _ (.cons _ _ (.cons _ _ .nil)))) (by simp) rfl ?_
        intro hh6 Mlo tM6 tkM6 F6b N6b Mlom Mlole
        have N6c := kst_newsOf N6b fun q hq => List.Mem.tail _ hq
        clear F6 N6 N6b
        walk_at "MY_STEPS"
        refine Stop.mk ?_
        refine comp_plain (k := 4) (F := fun i v nw => ∃ t, v = .int (match i with | 0 => p0.2 | 1 => p1.2 | 2 => p2.2 | _ => p3.2) t) (Nat.le_of_ble_eq_true rfl) (by with_unfolding_all rfl) (by decide) (by rfl) (by decide) (by rfl) ?_
        walk_at "MY_STEPS"
        refine Stop.mk ?_
        refine ⟨_, _, rfl, CSrc.list rfl (News.isList N6c (show (aP, listOf [Value.ref q0, Value.ref q1, Value.ref q2, Value.ref q3].toArray nP) ∈ _ from by walk_at "MY_MEM")) (by rfl), ?_, ?_⟩
        · intro i v C m2 h3 tk3 E3 hik hP hns hm kp
          have F3 := F6b.keeps kp
          have N3 := N6c.grown kp
          have hX := cell_keeps (cell_of N6c (a := L + 1 + 1 + 1) (by walk_at "MY_MEM") d3') kp
          have bQ0 := News.isTup N3 (show (q0, tupO [Value.int p0.1 ta0, Value.int p0.2 tb0] n0) ∈ _ from by walk_at "MY_MEM")
          have bQ1 := News.isTup N3 (show (q1, tupO [Value.int p1.1 ta1, Value.int p1.2 tb1] n1) ∈ _ from by walk_at "MY_MEM")
          have bQ2 := News.isTup N3 (show (q2, tupO [Value.int p2.1 ta2, Value.int p2.2 tb2] n2) ∈ _ from by walk_at "MY_MEM")
          have bQ3 := News.isTup N3 (show (q3, tupO [Value.int p3.1 ta3, Value.int p3.2 tb3] n3) ∈ _ from by walk_at "MY_MEM")
          clear N6c F6b K
          rcases i with _ | _ | _ | _ | i
          · obtain rfl : v = Value.ref q0 := (Option.some.inj hP).symm
            walk_at "MY_STEPS"
            exact Stop.mk ⟨[], _, _, rfl, fun _ _ e => e, fun p hp => (nomatch hp), _, rfl⟩
          · obtain rfl : v = Value.ref q1 := (Option.some.inj hP).symm
            walk_at "MY_STEPS"
            exact Stop.mk ⟨[], _, _, rfl, fun _ _ e => e, fun p hp => (nomatch hp), _, rfl⟩
          · obtain rfl : v = Value.ref q2 := (Option.some.inj hP).symm
            walk_at "MY_STEPS"
            exact Stop.mk ⟨[], _, _, rfl, fun _ _ e => e, fun p hp => (nomatch hp), _, rfl⟩
          · obtain rfl : v = Value.ref q3 := (Option.some.inj hP).symm
            walk_at "MY_STEPS"
            exact Stop.mk ⟨[], _, _, rfl, fun _ _ e => e, fun p hp => (nomatch hp), _, rfl⟩
          · omega
        · intro D7 h7 tk7 vs7 kp hD0 hD hlen7 hF
          obtain ⟨u0, u1, u2, u3, rfl⟩ := four_of hlen7
          obtain ⟨tq0, rfl⟩ := ints_of hF 0 _ rfl
          obtain ⟨tq1, rfl⟩ := ints_of hF 1 _ rfl
          obtain ⟨tq2, rfl⟩ := ints_of hF 2 _ rfl
          obtain ⟨tq3, rfl⟩ := ints_of hF 3 _ rfl
          have F7 := F6b.keeps kp
          have N7 := news_add F6b N6c kp hD0 (o := listOf [Value.int p0.2 tq0, Value.int p1.2 tq1, Value.int p2.2 tq2, Value.int p3.2 tq3].toArray 4) hD
          have l7 := allNe_new N6c hD0
          simp only [AllNe] at l7
          clear N6c F6b hF hD0 hD kp
          walk_at "MY_STEPS"
          refine Stop.mk ?_
          refine kso_max (vs := [Value.int p0.2 tq0, Value.int p1.2 tq1, Value.int p2.2 tq2, Value.int p3.2 tq3]) (ns := [p0.2, p1.2, p2.2, p3.2]) (by with_reducible assumption) (by with_reducible assumption) (News.isList N7 (List.Mem.head _)) (.cons _ _ (.cons _ _ (.cons _ _ (.cons _ _ .nil)))) (by simp) rfl ?_
          intro hh7 Mhi tM7 tkM7 F7b N7b Mhim Mhile
          have N7c := kst_newsOf N7b fun q hq => List.Mem.tail _ hq
          clear F7 N7 N7b
          walk_at "MY_STEPS"
          (with_reducible rename News _ _ _ _ => N8)
          (with_reducible rename Fr _ _ _ _ => F8)
          (with_reducible rename (Obj.data _ = Data.cell (some (Value.int Mlo _))) => d4')
          (with_reducible rename (Obj.data _ = Data.cell (some (Value.int Mhi _))) => d5')
          have bb : Btw Mlo Mhi p0.2 ∧ Btw Mlo Mhi p1.2 ∧ Btw Mlo Mhi p2.2 ∧ Btw Mlo Mhi p3.2 := ⟨⟨Mlole _ (by simp), Mhile _ (by simp)⟩, ⟨Mlole _ (by simp), Mhile _ (by simp)⟩, ⟨Mlole _ (by simp), Mhile _ (by simp)⟩, ⟨Mlole _ (by simp), Mhile _ (by simp)⟩⟩
          have hin : ∀ e ∈ E0, Btw Mlo Mhi e.2 := fun e he => (hbox (-3000) 3000 Mlo Mhi (by simp only [Btw]; simp only [QB, PB] at hq; omega) bb e he).2
          clear bb
          refine Stop.mk ?_
          refine comp_core (k := vE.length) (b := fun _ => false) (F := fun _ _ _ => True) (by rw [sizeLine_eq]; omega) (by with_unfolding_all rfl) (by decide) (by rfl) (by decide) (by rfl) ?_
          walk_at "MY_STEPS"
          refine Stop.mk ?_
          refine ⟨_, _, rfl, CSrc.list rfl (News.isList N8 (show (En, listOf vE.toArray nE) ∈ _ from by walk_at "MY_MEM")) (by rw [List.size_toArray]), ?_, ?_, ?_⟩
          · intro i v C m2 h3 tk3 E3 hik hP hns hm kp
            have F3 := F8.keeps kp
            have N3 := N8.grown kp
            have hX3 := cell_keeps (cell_of N8 (a := L + 1 + 1 + 1) (by walk_at "MY_MEM") d3') kp
            have hX4 := cell_keeps (cell_of N8 (a := L + 1 + 1 + 1 + 1) (by walk_at "MY_MEM") d4') kp
            have hX5 := cell_keeps (cell_of N8 (a := L + 1 + 1 + 1 + 1 + 1) (by walk_at "MY_MEM") d5') kp
            have hv : vE[i]? = some v := by rw [← List.getElem?_toArray]; exact hP
            obtain ⟨v', hv', dw⟩ := dE.get (k := i) (by rw [List.length_map, ← hlE]; exact hik)
            rw [hv] at hv'
            obtain rfl := Option.some.inj hv'
            rw [List.getElem_map] at dw
            have hin2 := hin _ (List.getElem_mem (l := E0) (n := i) (by rw [← hlE]; exact hik))
            generalize (E0[i]'(by rw [← hlE]; exact hik)) = e9 at *
            obtain ⟨aw, nw, z1, z2, rfl, mw⟩ := pt_of dw
            have bV := News.isTup N3 (show (aw, _) ∈ _ from by walk_at "MY_MEM")
            obtain ⟨b1, b2⟩ := hin2
            clear N8 F8 K hP hv' hin dw
            refine forIn_one ?_
            walk_at "MY_STEPS"
            exact Stop.mk ⟨by rw [decide_eq_true b2]; rfl, _, _, rfl, fun _ _ e => e⟩
          · intro i v C m2 h3 tk3 E3 hik hP hb hns hm kp
            cases hb
          · intro D h3 tk3 vs3 kp hD0 hD hlen3 hF
            obtain rfl : vs3 = [] := by
              have h0 : (List.range vE.length).filter (fun _ => false) = [] := by
                rw [List.filter_eq_nil_iff]
                intro a _ h
                cases h
              rw [h0] at hlen3
              exact List.length_eq_zero_iff.mp hlen3
            have F3 := F8.keeps kp
            have N3 := news_add F8 N8 kp hD0 (o := listOf ([] : List Value).toArray 0) hD
            clear F8 N8 hF
            walk_at "MY_STEPS"
            refine Stop.mk ?_
            (with_reducible rename News _ _ _ _ => N4)
            refine ne_dat N4 (d := .list []) (e := .list []) (.list (show (D, _) ∈ _ from by walk_at "MY_MEM") .nil) (.list (show (_, listOf _ _) ∈ _ from List.Mem.head _) .nil) (by decide) (by decide) (show callerA.units + 3 + 64 < cLine by decide) false (by simp) ?_
            walk_at "MY_STEPS"
            refine Stop.mk ?_
            (with_reducible rename News _ _ _ _ => N5)
            (with_reducible rename Fr _ _ _ _ => F5)
            refine turn_end ⟨_, _, _⟩ F5 N5 (by walk_at "MY_MEM") (fun p hp => ?_) (fun p hp => nomatch hp) (fun z _ _ => rfl) ⟨⟨_, d5'⟩, ⟨_, d4'⟩, ⟨_, d3'⟩⟩
            simp only [AxS.led, List.mem_cons] at hp
            rcases hp with rfl | rfl | rfl | rfl | rfl | hp <;> walk_at "MY_MEM"
    · cases hvi
  · rintro ⟨a5, a4, a3⟩ u hh tk9 hc kF kN
    refine Stop.mk ⟨rfl, ?_⟩
    have FK := fr_kst (ps := [(Str.ofString "first", .int fst tC), (Str.ofString "flat", .int f t1), (Str.ofString "lines", .ref Ln), (Str.ofString "ends", .ref En)]) kF fun p hp => by
      simp only [List.mem_cons, List.not_mem_nil, or_false] at hp
      rcases hp with rfl | rfl | rfl | rfl <;> rfl
    exact K _ _ _ a5 a4 a3 FK fun p hp => kN p (List.Mem.tail _ hp)
end
section
local macro_rules | `(tactic| walk_at "MY_STEPS") => `(tactic| repeat' (first | (k_unfold; (try dsimp only)) | ((fail_if_success (with_reducible show Stop _)); k_end; wrow_close) | (dsimp only; walk1) | walk1 | (leave1; walk_say "STEP leave1"; try dsimp only) | fail "no step"))
local macro_rules | `(tactic| walk_at "call ref") => `(tactic| (refine stop_here ?_))
local macro_rules | `(tactic| walk_at "call builtin:len") => `(tactic| (k_here; (with_reducible show wpAny _ _ (call (Value.builtin "len") [Value.ref _]) _ _ _); k_dflt (refine' PyProof.Rows.len_list ?t ?f ?_; (case t => with_reducible assumption); (case f => (simp only [List.size_toArray]; omega)); k_whole); (try simp only [List.size_toArray])))
set_option maxRecDepth 100000 in
set_option maxHeartbeats 4000000 in
theorem stage16 {w : World} {S1 : Shared} {L : Nat} {mean : ExcName → Option Value} {mg mb : Str → Option Value} {name qual : Str} {params : Arguments} {body : List Stmt} {scope : Scope} {dV kV doc pm cdv ct oc : Value} {an od : Option Addr} {osl : Array (Option Value)}
    (ho : (Mine.hd.heap_39 w.params).lookup 270 = some ⟨oc, od, .func (fnOf name qual params body scope dV kV doc pm an cdv ct), osl⟩) {fa : Addr} {cdw : Value} {E : Value → Shared → Prop} {Q : Flow → Shared → Prop}
    (XX : (Mine.hd.heap_39 w.params).In S1.heap) (TT : Top Mine.hd.view_39 loose0 mean mg mb S1.heap)
    {h : Heap} {tk : Nat} {m : Str → Option Value} {fst : Int} {tC : Tok} {o5 o4 o3 o2 : Obj} {T : List (Addr × Obj)} {f : Int} {t1 : Tok} {Ln En nl : Nat} {vl : List Value} {p0 p1 p2 p3 : Pt} {vP : Value}
    (F : Fr S1.heap L h (kstB m [(Str.ofString "first", .int fst tC), (Str.ofString "flat", .int f t1), (Str.ofString "lines", .ref Ln), (Str.ofString "ends", .ref En)]))
    (N : News S1.heap L h ((L + 1 + 1 + 1 + 1 + 1, o5) :: (L + 1 + 1 + 1 + 1, o4) :: (L + 1 + 1 + 1, o3) :: (L + 1 + 1, o2) :: T)) (hT : Off L T) (e2 : o2.data = .cell (some vP)) (DP : DatIn T vP (.list [ptD p0, ptD p1, ptD p2, ptD p3])) (mL : (Ln, listOf vl.toArray nl) ∈ T) (hq : QB 3000 (p0, p1, p2, p3)) (hf : 4 ≤ f ∧ f ≤ 33)
    (hlv : vl.length ≤ 1024) (hone : Int.fmod fst 5 = 4 → vl.length = 1)
    (hmost : ∀ j, j ≤ 10 → (j = 10 ∨ (farAt (p0, p1, p2, p3) j).1 * (farAt (p0, p1, p2, p3) j).1 + ((farAt (p0, p1, p2, p3) j).2 * (farAt (p0, p1, p2, p3) j).2 + 0) ≤ 16 * f * f) → vl.length ≤ 2 ^ j)
    (K : ∀ (h : Heap) (tk : Nat),
      Fr S1.heap L h (kstB m [(Str.ofString "first", .int fst tC), (Str.ofString "flat", .int f t1), (Str.ofString "lines", .ref Ln), (Str.ofString "ends", .ref En)]) →
      News S1.heap L h ((L + 1 + 1 + 1 + 1 + 1, o5) :: (L + 1 + 1 + 1 + 1, o4) :: (L + 1 + 1 + 1, o3) :: (L + 1 + 1, o2) :: T) →
      wpAny (model PySem.Challenge.rw_nt0495_01.row.prog w) (callerA.deeper (envOfC qual scope L fa cdw)) (execs (body.drop 16) (envOfC qual scope L fa cdw)) Q E { S1 with heap := h, toks := tk }) :
    wpAny (model PySem.Challenge.rw_nt0495_01.row.prog w) (callerA.deeper (envOfC qual scope L fa cdw)) (execs (body.drop 15) (envOfC qual scope L fa cdw)) Q E { S1 with heap := h, toks := tk } := by
  revert ho
  k_fill
  intro ho
  have e := ho.symm.trans (show _ = some _ from by k_is)
  cases e
  clear ho
  have BB := below_caller S1.heap
  obtain ⟨aP, vsP, nP, rfl, mP, dP⟩ := list_of DP
  have bL := News.isList N (show (Ln, listOf vl.toArray nl) ∈ _ from by walk_at "MY_MEM")
  obtain ⟨w0, w1, w2, w3⟩ : PB 10000 p0 ∧ PB 10000 p1 ∧ PB 10000 p2 ∧ PB 10000 p3 := by
    simp only [QB, PB] at hq ⊢
    omega
  dsimp only [List.drop] at K ⊢
  refine cut_one ?_
  generalize (execs (_ :: _ :: _ :: _ :: _) _ : Sem Flow) = REST at *
  show wpAny _ _ _ _ _ _
  k_fold
  walk_at "MY_STEPS"
  · exfalso
    have h1 := hone (by with_reducible assumption)
    omega
  · refine Stop.mk ?_
    (with_reducible rename News _ _ _ _ => N1)
    (with_reducible rename Fr _ _ _ _ => F1)
    refine con_useG (most_con p0 p1 p2 p3 f w0 w1 w2 w3 ⟨by omega, by omega⟩) BB F1 XX N1 TT rfl (has_news N1) (.cons (.list (show (aP, _) ∈ _ from by walk_at "MY_MEM") (dP.mono fun q hq => by walk_at "MY_MEM")) (.cons (.int _ _) .nil)) (by decide) (by decide) ?_
    rintro _ tl2 h2 tk2 F2 N2 hl2 ⟨j, tj, hj, rfl, hfar⟩
    have hm := hmost j hj hfar
    have hm2 : ¬ ((vl.length : Int) > 2 ^ j) := by
      have : ((2 ^ j : Nat) : Int) = (2 : Int) ^ j := by simp
      omega
    clear F1 N1
    walk_at "MY_STEPS"
    refine Stop.mk ⟨rfl, ?_⟩
    exact K _ _ F2 (kst_newsOf N2 fun q hq => List.mem_append.mpr (.inr hq))
  · refine Stop.mk ?_
    (with_reducible rename News _ _ _ _ => N1)
    (with_reducible rename Fr _ _ _ _ => F1)
    refine con_useG (most_con p0 p1 p2 p3 f w0 w1 w2 w3 ⟨by omega, by omega⟩) BB F1 XX N1 TT rfl (has_news N1) (.cons (.list (show (aP, _) ∈ _ from by walk_at "MY_MEM") (dP.mono fun q hq => by walk_at "MY_MEM")) (.cons (.int _ _) .nil)) (by decide) (by decide) ?_
    rintro _ tl2 h2 tk2 F2 N2 hl2 ⟨j, tj, hj, rfl, hfar⟩
    have hm := hmost j hj hfar
    have hm2 : ¬ ((vl.length : Int) > 2 ^ j) := by
      have : ((2 ^ j : Nat) : Int) = (2 : Int) ^ j := by simp
      omega
    clear F1 N1
    walk_at "MY_STEPS"
    refine Stop.mk ⟨rfl, ?_⟩
    exact K _ _ F2 (kst_newsOf N2 fun q hq => List.mem_append.mpr (.inr hq))
end
section
local macro_rules | `(tactic| walk_at "MY_STEPS") => `(tactic| repeat' (first | (k_unfold; (try dsimp only)) | ((fail_if_success (with_reducible show Stop _)); k_end; wrow_close) | (dsimp only; walk1) | walk1 | (leave1; walk_say "STEP leave1"; try dsimp only) | fail "no step"))
local macro_rules | `(tactic| walk_at "call ref") => `(tactic| (refine stop_here ?_))
local macro_rules | `(tactic| walk_at "exec For Name Call cons nil") => `(tactic| (k_here; (rename Fr _ _ _ _ => lF'); (with_unfolding_all refine' For_turns lF' ?_ (hE := ?hE9); (case hE9 => assumption); k_whole)))
local macro_rules | `(tactic| walk_at "pyIter ref") => `(tactic| (refine stop_here ?_))
local macro_rules | `(tactic| walk_at "TurnPost") => `(tactic| first | refine TurnPost.next ?_ | refine TurnPost.cont ?_ | refine TurnPost.ret ?_)
theorem cv7_bd {a b c d k B : Int} (h0 : 0 ≤ k) (h7 : k ≤ 7) (ha : -B ≤ a ∧ a ≤ B) (hb : -B ≤ b ∧ b ≤ B) (hc : -B ≤ c ∧ c ≤ B) (hd : -B ≤ d ∧ d ≤ B) : -(343 * B) ≤ cv a b c d k 7 ∧ cv a b c d k 7 ≤ 343 * B := by
  have hk : k = 0 ∨ k = 1 ∨ k = 2 ∨ k = 3 ∨ k = 4 ∨ k = 5 ∨ k = 6 ∨ k = 7 := by omega
  rcases hk with rfl | rfl | rfl | rfl | rfl | rfl | rfl | rfl <;> simp only [cv7] <;> omega
set_option maxRecDepth 100000 in
set_option maxHeartbeats 4000000 in
theorem stage17 {w : World} {S1 : Shared} {L : Nat} {mean : ExcName → Option Value} {mg mb : Str → Option Value} {name qual : Str} {params : Arguments} {body : List Stmt} {scope : Scope} {dV kV doc pm cdv ct oc : Value} {an od : Option Addr} {osl : Array (Option Value)}
    (ho : (Mine.hd.heap_39 w.params).lookup 270 = some ⟨oc, od, .func (fnOf name qual params body scope dV kV doc pm an cdv ct), osl⟩) {fa : Addr} {cdw : Value} {E : Value → Shared → Prop} {Q : Flow → Shared → Prop}
    (XX : (Mine.hd.heap_39 w.params).In S1.heap) (TT : Top Mine.hd.view_39 loose0 mean mg mb S1.heap)
    {h : Heap} {tk : Nat} {m : Str → Option Value} {fst : Int} {tC : Tok} {o5 o4 o3 o2 : Obj} {T : List (Addr × Obj)} {f : Int} {t1 : Tok} {Ln En : Nat} {p0 p1 p2 p3 : Pt} {vP : Value} {E0 : List Pt}
    (hE : PassesOwn (model PySem.Challenge.rw_nt0495_01.row.prog w) (callerA.deeper (envOfC qual scope L fa cdw)) (envOfC qual scope L fa cdw) E)
    (F : Fr S1.heap L h (kstB m [(Str.ofString "first", .int fst tC), (Str.ofString "flat", .int f t1), (Str.ofString "lines", .ref Ln), (Str.ofString "ends", .ref En)]))
    (N : News S1.heap L h ((L + 1 + 1 + 1 + 1 + 1, o5) :: (L + 1 + 1 + 1 + 1, o4) :: (L + 1 + 1 + 1, o3) :: (L + 1 + 1, o2) :: T)) (hT : Off L T) (e2 : o2.data = .cell (some vP)) (DP : DatIn T vP (.list [ptD p0, ptD p1, ptD p2, ptD p3])) (hq : QB 3000 (p0, p1, p2, p3)) (hf : 4 ≤ f ∧ f ≤ 33)
    (DE : DatIn T (.ref En) (.list (E0.map ptD))) (hl1 : 1 ≤ E0.length) (hl2 : E0.length ≤ 1025) (hb : ∀ e ∈ E0, PB 3000 e)
    (hseven : ∀ k : Int, 0 ≤ k ∧ k ≤ 7 → isOn (cv p0.1 p1.1 p2.1 p3.1 k 7, cv p0.2 p1.2 p2.2 p3.2 k 7) E0 (f + 9) 343 = true)
    (K : ∀ (h : Heap) (tk : Nat) (m : Str → Option Value),
      Fr S1.heap L h (kstB m [(Str.ofString "first", .int fst tC), (Str.ofString "flat", .int f t1), (Str.ofString "lines", .ref Ln), (Str.ofString "ends", .ref En)]) →
      News S1.heap L h ((L + 1 + 1 + 1 + 1 + 1, o5) :: (L + 1 + 1 + 1 + 1, o4) :: (L + 1 + 1 + 1, o3) :: (L + 1 + 1, o2) :: T) →
      wpAny (model PySem.Challenge.rw_nt0495_01.row.prog w) (callerA.deeper (envOfC qual scope L fa cdw)) (execs (body.drop 17) (envOfC qual scope L fa cdw)) Q E { S1 with heap := h, toks := tk }) :
    wpAny (model PySem.Challenge.rw_nt0495_01.row.prog w) (callerA.deeper (envOfC qual scope L fa cdw)) (execs (body.drop 16) (envOfC qual scope L fa cdw)) Q E { S1 with heap := h, toks := tk } := by
  revert ho
  k_fill
  intro ho
  have e := ho.symm.trans (show _ = some _ from by k_is)
  cases e
  clear ho
  have BB := below_caller S1.heap
  obtain ⟨aP, vsP, nP, rfl, mP, dP⟩ := list_of DP
  obtain ⟨w0, w1, w2, w3⟩ : PB 10000 p0 ∧ PB 10000 p1 ∧ PB 10000 p2 ∧ PB 10000 p3 := by
    simp only [QB, PB] at hq ⊢
    omega
  dsimp only [List.drop] at K ⊢
  refine cut_one ?_
  generalize (execs (_ :: _ :: _ :: _) _ : Sem Flow) = REST at *
  show wpAny _ _ _ _ _ _
  k_fold
  walk_at "MY_STEPS"
  refine Stop.mk ?_
  rename_i ht _ _ _ _ hRg Ft Nt _
  have hIn : ∀ p ∈ (L + 1 + 1 + 1 + 1 + 1, o5) :: (L + 1 + 1 + 1 + 1, o4) :: (L + 1 + 1 + 1, o3) :: (L + 1 + 1, o2) :: T, (@Ne Nat p.1 ht.objs.size) := fun p hp => Nat.ne_of_lt (Heap.lt_size (Nt p hp).1)
  refine turn_range (σ := Unit) (nn := 6) (fun _ => (L + 1 + 1 + 1 + 1 + 1, o5) :: (L + 1 + 1 + 1 + 1, o4) :: (L + 1 + 1 + 1, o3) :: (L + 1 + 1, o2) :: T) (fun _ => []) [Str.ofString "k"] (fun _ _ => True) () rfl hRg (by rfl) (by rfl) Ft Nt (fun p hp => nomatch hp) trivial (fun i c _ p hp => .inr (hIn p hp)) ?_ ?_ ?_
  · intro v s' Q' E' _ hQ
    exact letGo_name hQ
  · have hI5' : @LT.lt Nat _ (L + 1 + 1 + 1 + 1 + 1) ht.objs.size := Heap.lt_size (Nt (_, o5) (List.Mem.head _)).1
    clear Ft Nt hRg
    rintro i v c u hh tk9 oI ⟨tv, rfl⟩ _ hcI hi kF kN
    have hI5 : @LT.lt Nat _ (L + 1 + 1 + 1 + 1 + 1) ht.objs.size := hI5'
    generalize (ht.objs.size : Nat) = I at *
    have hkk : 0 ≤ (1 : Int) + (i : Int) * 1 ∧ (1 : Int) + (i : Int) * 1 ≤ 7 := by omega
    generalize (1 : Int) + (i : Int) * 1 = kk at *
    show wpAny _ _ _ _ _ _
    k_fold
    walk_at "MY_STEPS"
    refine Stop.mk ?_
    (with_reducible rename News _ _ _ _ => N1)
    (with_reducible rename Fr _ _ _ _ => F1)
    refine con_useG (curve_con p0 p1 p2 p3 kk 7 w0 w1 w2 w3 ⟨by decide, by decide⟩ hkk) BB F1 XX N1 TT rfl (has_news N1) (.cons (.list (show (aP, _) ∈ _ from by walk_at "MY_MEM") (dP.mono fun q hq => by walk_at "MY_MEM")) (.cons (.int _ _) (.cons (.int _ _) .nil))) (by decide) (by decide) ?_
    intro r2 tl2 h2 tk2 F2 N2 hl2 ho2
    clear F1 N1
    walk_at "MY_STEPS"
    refine Stop.mk ?_
    simp only [QB, PB] at hq
    have c1 := cv7_bd (a := p0.1) (b := p1.1) (c := p2.1) (d := p3.1) (B := 3000) hkk.1 hkk.2 ⟨by omega, by omega⟩ ⟨by omega, by omega⟩ ⟨by omega, by omega⟩ ⟨by omega, by omega⟩
    have c2 := cv7_bd (a := p0.2) (b := p1.2) (c := p2.2) (d := p3.2) (B := 3000) hkk.1 hkk.2 ⟨by omega, by omega⟩ ⟨by omega, by omega⟩ ⟨by omega, by omega⟩ ⟨by omega, by omega⟩
    have hs7 := hseven kk hkk
    generalize cv p0.1 p1.1 p2.1 p3.1 kk 7 = X at *
    generalize cv p0.2 p1.2 p2.2 p3.2 kk 7 = Y at *
    refine con_useG (on_con (X, Y) E0 (f + 9) 343 (Bd.of (by dsimp only; omega)) (Bd.of (by dsimp only; omega)) (fun e he => ?_) (Bd.of (by omega)) (Bd.of (by decide)) hl1 (by omega)) BB F2 XX N2 TT rfl (has_news N2) (.cons (ho2.mono fun q hq => by walk_at "MY_MEM") (.cons (DE.mono fun q hq => by walk_at "MY_MEM") (.cons (.int _ _) (.cons (.int _ _) .nil)))) (by decide) (by decide) ?_
    · have he2 := hb e he
      simp only [PB] at he2
      exact ⟨Bd.of (by omega), Bd.of (by omega), Bd.of (by omega), Bd.of (by omega)⟩
    intro r3 tl3 h3 tk3 F3 N3 hl3 ho3
    obtain rfl := bool_of ho3
    rw [hs7]
    clear F2 N2 ho3
    walk_at "MY_STEPS"
    refine Stop.mk ?_
    refine turn_end () F3 N3 (by walk_at "MY_MEM") (fun p hp => ?_) (fun p hp => nomatch hp) (fun z _ hz => ?_) trivial
    · simp only [List.mem_cons, List.mem_append] at hp ⊢
      grind
    · have q3 : z ≠ Str.ofString "k" := stored_ne hz _ (by decide)
      simp only [if_neg q3, kstB]
      rw [hz]
      rfl
  · intro c u hh tk9 _ kF kN
    refine Stop.mk ⟨rfl, ?_⟩
    have FK := fr_kst (ps := [(Str.ofString "first", .int fst tC), (Str.ofString "flat", .int f t1), (Str.ofString "lines", .ref Ln), (Str.ofString "ends", .ref En)]) kF fun p hp => by
      simp only [List.mem_cons, List.not_mem_nil, or_false] at hp
      rcases hp with rfl | rfl | rfl | rfl <;> rfl
    exact K _ _ _ FK kN
end
section
local macro_rules | `(tactic| walk_at "MY_STEPS") => `(tactic| repeat' (first | (k_unfold; (try dsimp only)) | ((fail_if_success (with_reducible show Stop _)); k_end; wrow_close) | (dsimp only; walk1) | walk1 | (leave1; walk_say "STEP leave1"; try dsimp only) | fail "no step"))
local macro_rules | `(tactic| walk_at "call ref") => `(tactic| (refine stop_here ?_))
local macro_rules | `(tactic| walk_at "exec Assign cons ListComp") => `(tactic| ((with_reducible show wpAny _ _ (exec (Stmt.Assign [Expr.Name _ _] _ _) _) _ _ _); refine stop_here ?_))
local macro_rules | `(tactic| walk_at "eval Name") => `(tactic| (k_here; (with_reducible show wpAny _ _ (eval (Expr.Name _ _) (compEnvC _ _ _ _)) _ _ _); k_dflt (walk_at "MY_BLOCKNAME")))
set_option maxRecDepth 100000 in
set_option maxHeartbeats 4000000 in
theorem stage18 {w : World} {S1 : Shared} {L : Nat} {mean : ExcName → Option Value} {mg mb : Str → Option Value} {name qual : Str} {params : Arguments} {body : List Stmt} {scope : Scope} {dV kV doc pm cdv ct oc : Value} {an od : Option Addr} {osl : Array (Option Value)}
    (ho : (Mine.hd.heap_39 w.params).lookup 270 = some ⟨oc, od, .func (fnOf name qual params body scope dV kV doc pm an cdv ct), osl⟩) {fa : Addr} {cdw : Value} {E : Value → Shared → Prop} {Q : Flow → Shared → Prop}
    (XX : (Mine.hd.heap_39 w.params).In S1.heap) (TT : Top Mine.hd.view_39 loose0 mean mg mb S1.heap)
    {h : Heap} {tk : Nat} {m : Str → Option Value} {fst : Int} {tC : Tok} {o5 o4 o3 o2 : Obj} {T : List (Addr × Obj)} {f : Int} {t1 : Tok} {Ln En : Nat} {p0 p1 p2 p3 : Pt} {vP : Value} {E0 : List Pt}
    (F : Fr S1.heap L h (kstB m [(Str.ofString "first", .int fst tC), (Str.ofString "flat", .int f t1), (Str.ofString "lines", .ref Ln), (Str.ofString "ends", .ref En)]))
    (N : News S1.heap L h ((L + 1 + 1 + 1 + 1 + 1, o5) :: (L + 1 + 1 + 1 + 1, o4) :: (L + 1 + 1 + 1, o3) :: (L + 1 + 1, o2) :: T)) (hT : Off L T) (e2 : o2.data = .cell (some vP)) (DP : DatIn T vP (.list [ptD p0, ptD p1, ptD p2, ptD p3])) (hq : QB 3000 (p0, p1, p2, p3))
    (DE : DatIn T (.ref En) (.list (E0.map ptD)))
    (K : ∀ (h : Heap) (tk : Nat) (m : Str → Option Value) (T : List (Addr × Obj)) (Cn : Nat),
      Fr S1.heap L h (kstB m [(Str.ofString "ends", .ref En), (Str.ofString "chords", .ref Cn)]) →
      News S1.heap L h T → DatIn T (.ref En) (.list (E0.map ptD)) → DatIn T (.ref Cn) (.list ((chordsOf (p0, p1, p2, p3)).map ptD)) →
      wpAny (model PySem.Challenge.rw_nt0495_01.row.prog w) (callerA.deeper (envOfC qual scope L fa cdw)) (execs (body.drop 18) (envOfC qual scope L fa cdw)) Q E { S1 with heap := h, toks := tk }) :
    wpAny (model PySem.Challenge.rw_nt0495_01.row.prog w) (callerA.deeper (envOfC qual scope L fa cdw)) (execs (body.drop 17) (envOfC qual scope L fa cdw)) Q E { S1 with heap := h, toks := tk } := by
  revert ho
  k_fill
  intro ho
  have e := ho.symm.trans (show _ = some _ from by k_is)
  cases e
  clear ho
  have BB := below_caller S1.heap
  obtain ⟨aP, vsP, nP, rfl, mP, dP⟩ := list_of DP
  obtain ⟨w0, w1, w2, w3⟩ : PB 10000 p0 ∧ PB 10000 p1 ∧ PB 10000 p2 ∧ PB 10000 p3 := by
    simp only [QB, PB] at hq ⊢
    omega
  dsimp only [List.drop] at K ⊢
  refine cut_one ?_
  generalize (execs (_ :: _ :: _) _ : Sem Flow) = REST at *
  show wpAny _ _ _ _ _ _
  k_fold
  walk_at "MY_STEPS"
  refine Stop.mk ?_
  refine assign_plain (k := 9) (F := fun i v nw => DatIn nw v (ptD (cv p0.1 p1.1 p2.1 p3.1 ((0 : Int) + (i : Int) * 1) 8, cv p0.2 p1.2 p2.2 p3.2 ((0 : Int) + (i : Int) * 1) 8))) (Nat.le_of_ble_eq_true rfl) (by with_unfolding_all rfl) (by rfl) (by rfl) (by with_unfolding_all rfl) (by decide) (by rfl) (by decide) (by rfl) ?_
  walk_at "MY_STEPS"
  refine Stop.mk ?_
  rename_i ht _ _ _ _ hRg Ft Nt _
  refine ⟨_, _, rfl, CSrc.range rfl hRg (by rfl) (by rfl), ?_, S1.heap, _, _, Ft, Nt, ?_⟩
  · intro i v C m2 h3 tk3 E3 hik hP hns hm kp
    have F3 := Ft.keeps kp
    have N3 := Nt.grown kp
    have hX := cell_keeps (cell_of Nt (a := L + 1 + 1) (by walk_at "MY_MEM") e2) kp
    obtain ⟨tv, rfl⟩ := hP
    have hkk : 0 ≤ (0 : Int) + (i : Int) * 1 ∧ (0 : Int) + (i : Int) * 1 ≤ 8 := by omega
    clear Nt Ft K hRg
    walk_at "MY_STEPS"
    refine Stop.mk ?_
    refine curve_con p0 p1 p2 p3 _ 8 w0 w1 w2 w3 ⟨by decide, by decide⟩ hkk w mean mg mb _ _ _ _ _ _ _ _ _ _ _ S1.heap L _ _ _ _ _ _ BB F3 XX TT rfl (has_news N3) (.cons (.list (show (aP, _) ∈ _ from by walk_at "MY_MEM") (dP.mono fun q hq => by walk_at "MY_MEM")) (.cons (.int _ _) (.cons (.int _ _) .nil))) (by decide) (by decide) ?_
    intro r tl h4 tk4 hkeep htl ho
    walk_at "MY_STEPS"
    exact Stop.mk ⟨tl, h4, tk4, rfl, hkeep, htl, ho⟩
  · intro D h3 tk3 vs F3 N3 hne hlen hF
    obtain ⟨nws, hn1, hn2⟩ := dat_newsN (i := 0) (d := fun i => ptD (cv p0.1 p1.1 p2.1 p3.1 ((0 : Int) + (i : Int) * 1) 8, cv p0.2 p1.2 p2.2 p3.2 ((0 : Int) + (i : Int) * 1) 8)) (fun j v e => by rw [Nat.zero_add]; obtain ⟨nw, a, _, b⟩ := hF j v e; exact ⟨nw, a, b⟩)
    rw [hlen] at hn2
    have FK := fr_kst (ps := [(Str.ofString "ends", .ref En), (Str.ofString "chords", .ref D)]) F3 fun p hp => by
      simp only [List.mem_cons, List.not_mem_nil, or_false] at hp
      rcases hp with rfl | rfl <;> rfl
    refine Stop.mk ⟨rfl, ?_⟩
    refine K _ _ _ ((D, listOf vs.toArray vs.length) :: (nws ++ T)) D FK (fun p hp => ?_) (DE.mono fun q hq => by walk_at "MY_MEM") (.list (List.Mem.head _) ?_)
    · rcases List.mem_cons.mp hp with rfl | hp
      · exact N3 _ (List.Mem.head _)
      · rcases List.mem_append.mp hp with hp | hp
        · exact hn1 p hp
        · exact N3 p (by walk_at "MY_MEM")
    · refine (show DatAll nws vs ((chordsOf (p0, p1, p2, p3)).map ptD) from ?_).mono fun q hq => by walk_at "MY_MEM"
      exact hn2
end
section
local macro_rules | `(tactic| walk_at "binaryOp Mult int int") => `(tactic| ((refine mul_int ?_ (bd_mulL (n := 12) (Bd.of (by decide)) (by decide))); (try dsimp only)))
local macro_rules | `(tactic| walk_at "MY_STEPS") => `(tactic| repeat' (first | (k_unfold; (try dsimp only)) | ((fail_if_success (with_reducible show Stop _)); k_end; wrow_close) | (dsimp only; walk1) | walk1 | (leave1; walk_say "STEP leave1"; try dsimp only) | fail "no step"))
local macro_rules | `(tactic| walk_at "call ref") => `(tactic| (refine stop_here ?_))
local macro_rules | `(tactic| walk_at "exec For Name Name cons nil") => `(tactic| (k_here; (rename Fr _ _ _ _ => lF'); (with_unfolding_all refine' For_turns lF' ?_ (hE := ?hE9); (case hE9 => assumption); k_whole)))
local macro_rules | `(tactic| walk_at "pyIter ref") => `(tactic| (refine stop_here ?_))
local macro_rules | `(tactic| walk_at "TurnPost") => `(tactic| first | refine TurnPost.next ?_ | refine TurnPost.cont ?_ | refine TurnPost.ret ?_)
local macro_rules | `(tactic| walk_at "MY_TUPAT") => `(tactic| (k_here; (with_reducible show wpAny _ _ (subscriptTail _ _ (Value.ref _) (Value.int _ _)) _ _ _); k_dflt (refine' item_tupleT ?t ?a ?b ?c ?d ?_; (case t => exact News.isTup (by with_reducible assumption) (by walk_at "MY_MEM")); (case a => decide); (case b => decide); (case c => rfl); (case d => rfl); k_whole)))
local macro_rules | `(tactic| walk_at "subscriptTail Name Constant ref int") => `(tactic| (walk_at "MY_TUPAT"))
theorem cv8_bd {a b c d k B : Int} (h0 : 0 ≤ k) (h7 : k ≤ 8) (ha : -B ≤ a ∧ a ≤ B) (hb : -B ≤ b ∧ b ≤ B) (hc : -B ≤ c ∧ c ≤ B) (hd : -B ≤ d ∧ d ≤ B) : -(512 * B) ≤ cv a b c d k 8 ∧ cv a b c d k 8 ≤ 512 * B := by
  have hk : k = 0 ∨ k = 1 ∨ k = 2 ∨ k = 3 ∨ k = 4 ∨ k = 5 ∨ k = 6 ∨ k = 7 ∨ k = 8 := by omega
  rcases hk with rfl | rfl | rfl | rfl | rfl | rfl | rfl | rfl | rfl <;> simp only [cv, toNat2, toNat3, Int.reduceMul, Int.reduceSub, Int.reducePow] <;> omega
theorem chords_bd {q : Quad} (hq : QB 3000 q) : ∀ e ∈ chordsOf q, Bd 21 e.1 ∧ Bd 21 e.2 ∧ Bd 21 (1 * e.1) ∧ Bd 21 (1 * e.2) := by
  intro e he
  obtain ⟨k, hk, rfl⟩ := List.mem_map.mp he
  have hk := List.mem_range.mp hk
  simp only [QB, PB] at hq
  have c1 := cv8_bd (a := q.1.1) (b := q.2.1.1) (c := q.2.2.1.1) (d := q.2.2.2.1) (k := (k : Int)) (B := 3000) (by omega) (by omega) ⟨by omega, by omega⟩ ⟨by omega, by omega⟩ ⟨by omega, by omega⟩ ⟨by omega, by omega⟩
  have c2 := cv8_bd (a := q.1.2) (b := q.2.1.2) (c := q.2.2.1.2) (d := q.2.2.2.2) (k := (k : Int)) (B := 3000) (by omega) (by omega) ⟨by omega, by omega⟩ ⟨by omega, by omega⟩ ⟨by omega, by omega⟩ ⟨by omega, by omega⟩
  exact ⟨Bd.of (by dsimp only; omega), Bd.of (by dsimp only; omega), Bd.of (by dsimp only; omega), Bd.of (by dsimp only; omega)⟩
set_option maxRecDepth 100000 in
set_option maxHeartbeats 4000000 in
theorem stage19 {w : World} {S1 : Shared} {L : Nat} {mean : ExcName → Option Value} {mg mb : Str → Option Value} {name qual : Str} {params : Arguments} {body : List Stmt} {scope : Scope} {dV kV doc pm cdv ct oc : Value} {an od : Option Addr} {osl : Array (Option Value)}
    (ho : (Mine.hd.heap_39 w.params).lookup 270 = some ⟨oc, od, .func (fnOf name qual params body scope dV kV doc pm an cdv ct), osl⟩) {fa : Addr} {cdw : Value} {E : Value → Shared → Prop} {Q : Flow → Shared → Prop}
    (XX : (Mine.hd.heap_39 w.params).In S1.heap) (TT : Top Mine.hd.view_39 loose0 mean mg mb S1.heap)
    {h : Heap} {tk : Nat} {m : Str → Option Value} {T : List (Addr × Obj)} {En Cn : Nat} {q : Quad} {E0 : List Pt}
    (hE : PassesOwn (model PySem.Challenge.rw_nt0495_01.row.prog w) (callerA.deeper (envOfC qual scope L fa cdw)) (envOfC qual scope L fa cdw) E)
    (F : Fr S1.heap L h (kstB m [(Str.ofString "ends", .ref En), (Str.ofString "chords", .ref Cn)]))
    (N : News S1.heap L h T) (DE : DatIn T (.ref En) (.list (E0.map ptD))) (DC : DatIn T (.ref Cn) (.list ((chordsOf q).map ptD))) (hq : QB 3000 q)
    (hb : ∀ e ∈ E0, PB 3000 e) (height : ∀ e ∈ E0, isOn (512 * e.1, 512 * e.2) (chordsOf q) 10240 1 = true)
    (K : ∀ (h : Heap) (tk : Nat) (m : Str → Option Value), Fr S1.heap L h m → News S1.heap L h T → Q (.ret (.bool true)) { S1 with heap := h, toks := tk }) :
    wpAny (model PySem.Challenge.rw_nt0495_01.row.prog w) (callerA.deeper (envOfC qual scope L fa cdw)) (execs (body.drop 18) (envOfC qual scope L fa cdw)) Q E { S1 with heap := h, toks := tk } := by
  revert ho
  k_fill
  intro ho
  have e := ho.symm.trans (show _ = some _ from by k_is)
  cases e
  clear ho
  have BB := below_caller S1.heap
  obtain ⟨_, vE, nE, rfl, mE, dE⟩ : ∃ a vs n, En = a ∧ (a, listOf vs.toArray n) ∈ T ∧ DatAll T vs (E0.map ptD) := by
    obtain ⟨a, vs, n, e, h1, h2⟩ := list_of DE
    cases e
    exact ⟨_, _, _, rfl, h1, h2⟩
  have hlE : vE.length = E0.length := by
    have := dE.length
    rwa [List.length_map] at this
  dsimp only [List.drop]
  show wpAny _ _ _ _ _ _
  walk_at "MY_STEPS"
  refine Stop.mk ?_
  (with_reducible rename Fr _ _ _ _ => F)
  have gE : h.get? En = some (listOf vE.toArray nE) := (N _ mE).1
  refine turn_list (σ := Unit) (fun _ => T) (fun _ => []) [Str.ofString "end"] (fun _ _ => True) () rfl gE (ne_locals F gE) F N (fun p hp => nomatch hp) trivial (fun i c _ p hp => .inr (Nat.ne_of_lt (Heap.lt_size (N p hp).1))) (fun i c h' m' _ F' N' => (N' _ mE).1) ?_ ?_
  · clear F N gE
    rintro i v c u hh tk9 I oI hvi _ hcI kF kN
    obtain ⟨v', hv', dw⟩ := dE.get (k := i) (by rw [List.length_map, ← hlE]; exact (List.getElem?_eq_some_iff.mp hvi).1)
    rw [hvi] at hv'
    obtain rfl := Option.some.inj hv'
    have hi : i < E0.length := by rw [← hlE]; exact (List.getElem?_eq_some_iff.mp hvi).1
    rw [List.getElem_map] at dw
    have hb2 := hb _ (List.getElem_mem (l := E0) (n := i) hi)
    have h8 := height _ (List.getElem_mem (l := E0) (n := i) hi)
    generalize (E0[i]'hi) = e9 at *
    obtain ⟨aw, nw, z1, z2, rfl, mw⟩ := pt_of dw
    have bV0 := News.isTup kN (show (aw, tupO [Value.int e9.1 z1, Value.int e9.2 z2] nw) ∈ _ from by walk_at "MY_MEM")
    show wpAny _ _ _ _ _ _
    k_fold
    clear bV0 K
    walk_at "MY_STEPS"
    refine Stop.mk ?_
    (with_reducible rename News _ _ _ _ => N1)
    (with_reducible rename Fr _ _ _ _ => F1)
    simp only [PB] at hb2
    refine con_useG (on_con (512 * e9.1, 512 * e9.2) (chordsOf q) 10240 1 (Bd.of (by dsimp only; omega)) (Bd.of (by dsimp only; omega)) (chords_bd hq) (Bd.of (by decide)) (Bd.of (by decide)) (by simp [chordsOf]) (by simp [chordsOf])) BB F1 XX N1 TT rfl (has_news N1) (.cons (.tuple (List.Mem.head _) (.cons (.int _ _) (.cons (.int _ _) .nil))) (.cons (DC.mono fun q hq => by walk_at "MY_MEM") (.cons (.int _ _) (.cons (.int _ _) .nil)))) (by decide) (by decide) ?_
    intro r3 tl3 h3 tk3 F3 N3 hl3 ho3
    obtain rfl := bool_of ho3
    rw [h8]
    clear F1 N1 ho3
    walk_at "MY_STEPS"
    refine Stop.mk ?_
    refine turn_end () F3 N3 (by walk_at "MY_MEM") (fun p hp => by walk_at "MY_MEM") (fun p hp => nomatch hp) (fun z _ hz => ?_) trivial
    have q3 : z ≠ Str.ofString "end" := stored_ne hz _ (by decide)
    simp only [if_neg q3, kstB]
    rw [hz]
    rfl
  · intro c u hh tk9 _ kF kN
    walk_at "MY_STEPS"
    exact K _ _ _ kF kN
end
section
set_option maxRecDepth 100000 in
set_option maxHeartbeats 4000000 in
theorem join {w : World} {S1 : Shared} {L : Nat} {mean : ExcName → Option Value} {mg mb : Str → Option Value} {name qual : Str} {params : Arguments} {body : List Stmt} {scope : Scope} {dV kV doc pm cdv ct oc : Value} {an od : Option Addr} {osl : Array (Option Value)}
    (ho : (Mine.hd.heap_39 w.params).lookup 270 = some ⟨oc, od, .func (fnOf name qual params body scope dV kV doc pm an cdv ct), osl⟩) {fa : Addr} {cdw : Value} {E : Value → Shared → Prop} {Q : Flow → Shared → Prop}
    (XX : (Mine.hd.heap_39 w.params).In S1.heap) (TT : Top Mine.hd.view_39 loose0 mean mg mb S1.heap)
    {h : Heap} {tk : Nat} {m : Str → Option Value} {fst : Int} {tC : Tok} {o5 o4 o3 o2 : Obj} {T : List (Addr × Obj)} {vP : Value} {p0 p1 p2 p3 : Pt}
    (hE : PassesOwn (model PySem.Challenge.rw_nt0495_01.row.prog w) (callerA.deeper (envOfC qual scope L fa cdw)) (envOfC qual scope L fa cdw) E)
    (c5 : o5.data = .cell none) (c4 : o4.data = .cell none) (c3 : o3.data = .cell none)
    (hQ : ∀ (h : Heap) (tk : Nat) (m : Str → Option Value), Fr S1.heap L h m → Q (.ret (.bool true)) { S1 with heap := h, toks := tk })
    (F : Fr S1.heap L h (kstB m [(Str.ofString "first", .int fst tC)]))
    (N : News S1.heap L h ((L + 1 + 1 + 1 + 1 + 1, o5) :: (L + 1 + 1 + 1 + 1, o4) :: (L + 1 + 1 + 1, o3) :: (L + 1 + 1, o2) :: T))
    (d2 : o2.data = .cell (some vP)) (hT : Off L T) (DP : DatIn T vP (.list [ptD p0, ptD p1, ptD p2, ptD p3])) (hq : QB 3000 (p0, p1, p2, p3))
    (hor : (decide (Int.fmod fst 5 = 4) = false ∧ QB 300 (p0, p1, p2, p3)) ∨ ∃ r s : Int, p1 = (p0.1 + r, p0.2 + s) ∧ p2 = (p0.1 + 2 * r, p0.2 + 2 * s) ∧ p3 = (p0.1 + 3 * r, p0.2 + 3 * s)) :
    wpAny (model PySem.Challenge.rw_nt0495_01.row.prog w) (callerA.deeper (envOfC qual scope L fa cdw)) (execs (body.drop 4) (envOfC qual scope L fa cdw)) Q E { S1 with heap := h, toks := tk } := by
  refine stage5 ho XX TT F N d2 hT DP ?_
  clear F N hT DP
  intro h tk m f ah t1 t2 tm x d k aP nP q0 q1 q2 q3 n0 n1 n2 n3 ta0 ta1 ta2 ta3 tb0 tb1 tb2 tb3 a1 a2 a3 a4 hv F N hlt hO hf hah
  subst hv
  have FI : Fine (p0, p1, p2, p3) f (decide (Int.fmod fst 5 = 4)) := fine_of hf.1 (by
    rcases hor with h | ⟨r, s, rfl, rfl, rfl⟩
    · exact .inl h
    · exact .inr flat_line)
  clear hor
  have hlen := FI.len
  have hPB : ∀ e ∈ p0 :: ends f 10 (p0, p1, p2, p3), PB 3000 e := fun e he => by
    obtain ⟨⟨u1, u2, u3, u4⟩, ⟨v1, v2, v3, v4⟩, ⟨w1, w2, w3, w4⟩, ⟨z1, z2, z3, z4⟩⟩ := hq
    obtain ⟨⟨x1, x2⟩, ⟨y1, y2⟩⟩ := FI.box (-3000) 3000 (-3000) 3000 ⟨⟨u1, u2⟩, ⟨v1, v2⟩, ⟨w1, w2⟩, ⟨z1, z2⟩⟩ ⟨⟨u3, u4⟩, ⟨v3, v4⟩, ⟨w3, w4⟩, ⟨z3, z4⟩⟩ e he
    exact ⟨x1, x2, y1, y2⟩
  have hl1 : 1 ≤ (p0 :: ends f 10 (p0, p1, p2, p3)).length := Nat.le_add_left _ _
  have hl2 : (p0 :: ends f 10 (p0, p1, p2, p3)).length ≤ 1025 := by
    rw [List.length_cons]; omega
  refine stage8 ho XX TT F N d2 hlt hO hf hah ?_
  clear F N hlt hO
  intro h tk m T tm x d k a1 a2 a3 a4 b p fs n F N hT DP mx md mk DF
  refine stage9 ho XX TT F N hT DP c5 c4 c3 d2 hf mx md mk hq DF ?_
  clear F N hT DP mx md mk DF
  intro h tk m T W R F N hT DP mx md mk DF DW DR
  refine stage10 ho XX TT F N hah mx md mk DF DW DR ?_
  clear F N
  intro h tk F N
  refine stage11 ho XX TT F N (lawLs_ne (p0, p1, p2, p3) f (decide (ah = 1))) DR ?_
  clear F N
  intro h tk F N
  refine stage12 (q := (p0, p1, p2, p3)) ho XX TT F N hT DP hah DR ?_
  clear F N hT DP mx md mk DF DW DR
  intro h tk m T Ln F N hT DP DL
  obtain ⟨l, hl⟩ := FI.last
  refine stage13 (q := (p0, p1, p2, p3)) (E0 := l) ho XX TT F N d2 DP (by have := hlen.2; rw [hl, List.length_append, List.length_singleton] at this; omega) (by rw [← hl]; exact DL) ?_
  clear F N hl
  intro h tk F N
  refine stage14 (q := (p0, p1, p2, p3)) ho XX TT F N hT d2 DP hlen.2 DL ?_
  clear F N hT DP DL
  intro h tk m T En nl vl F N hT DP mL hvl DE
  refine stage15 (E0 := p0 :: ends f 10 (p0, p1, p2, p3)) ho XX TT hE F N hT c5 c4 c3 d2 DP hl2 DE hq FI.box ?_
  clear F N c5 c4 c3
  intro h tk m o5 o4 o3 F N
  refine stage16 ho XX TT F N hT d2 DP mL hq hf (by omega) (fun e => by rw [hvl, FI.one (decide_eq_true e)]; rfl) (fun j h1 h2 => by rw [hvl]; exact FI.most j h1 h2) ?_
  clear F N mL hvl
  intro h tk F N
  refine stage17 (E0 := p0 :: ends f 10 (p0, p1, p2, p3)) ho XX TT hE F N hT d2 DP hq hf DE hl1 hl2 hPB FI.seven ?_
  clear F N
  intro h tk m F N
  refine stage18 (E0 := p0 :: ends f 10 (p0, p1, p2, p3)) ho XX TT F N hT d2 DP hq DE ?_
  clear F N hT DP DE
  intro h tk m T Cn F N DE DC
  refine stage19 (q := (p0, p1, p2, p3)) (E0 := p0 :: ends f 10 (p0, p1, p2, p3)) ho XX TT hE F N DE DC hq hPB FI.eight ?_
  intro h tk m F _
  exact hQ h tk m F
end
section
theorem ints_list : ∀ {vs : List Value} {l : List Int}, vs.length = l.length → (∀ (j : Nat) v, vs[j]? = some v → ∃ t, v = Value.int (l.getD j 0) t) → IntsAre vs l
  | [], [], _, _ => .nil
  | v :: vs, a :: l, hl, h => by
    obtain ⟨t, rfl⟩ := h 0 v rfl
    exact .cons _ _ (ints_list (by simpa using hl) fun j u e => by simpa using h (j + 1) u e)
/-- one statement to what holds behind it, then the rest once -/
theorem cut_exec {M : Model} {A : Around} {E : Value → Shared → Prop} {s : Shared} {st : Stmt} {rest : List Stmt} {env : Env} {Q : Flow → Shared → Prop} (R : Shared → Prop)
    (h1 : wpAny M A (exec st env) (fun f s' => Stop (f = .next ∧ R s')) E s) (h2 : ∀ s', R s' → wpAny M A (execs rest env) Q E s') : wpAny M A (execs (st :: rest) env) Q E s := by
  refine wpAny_execs_cons (wpAny_mono h1 (fun f s' h => ?_) fun _ _ e => e)
  obtain ⟨rfl, hR⟩ := h.run
  exact h2 s' hR
theorem eight_of {vs : List Value} (hl : vs.length = 8) : ∃ a b c d e f g h, vs = [a, b, c, d, e, f, g, h] := by
  match vs, hl with
  | [a, b, c, d, e, f, g, h], _ => exact ⟨a, b, c, d, e, f, g, h, rfl⟩
theorem rest_bound (x : Int) : -300 ≤ Int.fmod x 601 - 300 ∧ Int.fmod x 601 - 300 ≤ 300 := by
  rw [Int.fmod_eq_emod_of_nonneg _ (by decide)]
  omega
theorem intsAre_at {vs : List Value} {ns : List Int} {i : Nat} {v : Value} (h : IntsAre vs ns) (e : vs.toArray[i]? = some v) : ∃ t, v = Value.int (ns.getD i 0) t := by
  have hi : i < ns.length := by
    rw [← h.length]
    rw [List.getElem?_toArray] at e
    exact (List.getElem?_eq_some_iff.mp e).1
  obtain ⟨t, ht⟩ := h.get i ns[i] (List.getElem?_eq_getElem hi)
  rw [List.getElem?_toArray, ht] at e
  exact ⟨t, by rw [List.getD_eq_getElem?_getD, List.getElem?_eq_getElem hi]; exact (Option.some.inj e).symm⟩
local macro_rules | `(tactic| walk_at "execs cons") => `(tactic| ((with_reducible show wpAny _ _ (execs (Stmt.If _ _ _ _ :: _) _) _ _ _); refine stop_here ?_))
local macro_rules | `(tactic| walk_at "eval ListComp") => `(tactic| (refine stop_here ?_))
local macro_rules | `(tactic| walk_at "exec Assign cons ListComp") => `(tactic| ((with_reducible show wpAny _ _ (exec (Stmt.Assign [Expr.Name _ _] _ _) _) _ _ _); refine stop_here ?_))
local macro_rules | `(tactic| walk_at "eval Name") => `(tactic| (k_here; (with_reducible show wpAny _ _ (eval (Expr.Name _ _) (compEnvC _ _ _ _)) _ _ _); k_dflt (walk_at "MY_BLOCKNAME")))
local macro_rules | `(tactic| walk_at "subscriptTail") => `(tactic| (k_here; (with_reducible show wpAny _ _ (subscriptTail _ _ (Value.ref _) (Value.int _ _)) _ _ _); k_dflt (refine' item_list ?l ?a ?b ?c ?_ ?s ?g; (case l => with_reducible assumption); (case c => assumption); (case a => decide); (case b => decide); (case s => with_unfolding_all rfl); (case g => (intro _; with_unfolding_all rfl)); k_whole)))
local macro_rules | `(tactic| walk_at "subscriptTail Name BinOp ref int") => `(tactic| (k_here; (with_reducible show wpAny _ _ (subscriptTail _ _ (Value.ref _) (Value.int _ _)) _ _ _); k_dflt (refine' item_list ?l ?a ?b ?c ?_ ?s ?g; (case l => with_reducible assumption); (case c => assumption); (case a => decide); (case b => decide); (case s => with_unfolding_all rfl); (case g => (intro _; with_unfolding_all rfl)); k_whole)))
local macro_rules | `(tactic| walk_at "binaryOp Mult int int") => `(tactic| ((refine mul_int ?_ (bd_mulL (n := 12) (Bd.of (by decide)) (by decide))); (try dsimp only) /- MY_MULT -/))
local macro_rules | `(tactic| walk_at "newTuple") => `(tactic| ((with_reducible show wpAny _ _ _ (fun _ _ => Stop _) _ _); k_dflt (refine wpAny_newTuple ?_)))
set_option maxRecDepth 100000 in
set_option maxHeartbeats 2000000 in
theorem law_walk : PySem.Challenge.rw_nt0495_01.Holds := Mine.hd (by
  k_go0
  (all_goals try k_fold)
  rename_i W S0 S1 MG MB G Y fa ob pm doc ho hg XX MX V GL TT TB TE TW w14 w13 M w12 w11 hcd ns hs hlay0 hL1 hr1 hl2 w9 w8 ls vs w5 hL ra w1' r0' hI hr2 hc hcond BB hDf h1 tk1 F0 o5 o4 o3 o2 o1 e5 e4 e3 e2 e1 N0 X0
  have F1 : Fr _ _ _ (fun y => if y = Str.ofString "script" then some (Value.ref ls) else none) := F0
  have c5 : o5.data = .cell none := e5
  have c4 : o4.data = .cell none := e4
  have c3 : o3.data = .cell none := e3
  have c2 : o2.data = .cell none := e2
  have c1 : o1.data = .cell none := e1
  have hlen : ns.length ≤ 63 := by omega
  clear X0 e1 e2 e3 e4 e5 F0 hDf hc hcd G Y ho MX V GL TB TE TW M hs hlay0 hL1 hr1 hl2 ra w1' r0' hr2 hcond
  dsimp only
  k_steps
  refine Stop.mk ?_
  have hk9 : (ns.take 9).length ≤ 9 := List.length_take_le ..
  refine comp_plain (k := (ns.take 9).length) (F := fun i v _ => ∃ t, v = .int ((ns.take 9).getD i 0) t) (Nat.le_trans hk9 (Nat.le_of_ble_eq_true rfl)) (by with_unfolding_all rfl) (by decide) (by rfl) (by decide) (by rfl) ?_
  k_steps
  refine Stop.mk ?_
  rename_i D1 ws1 _ F2 N2 hI1 _ _ l1
  refine ⟨_, _, rfl, CSrc.list rfl (News.isList N2 (List.Mem.head _)) (by rw [List.size_toArray, hI1.length]), ?_, ?_⟩
  · intro i v C2 m2' h2 tk2 E2 hik hP hns hm kp2
    obtain ⟨tv, rfl⟩ := intsAre_at hI1 hP
    have F3 := F2.keeps kp2
    have N3 := N2.grown kp2
    clear F2 N2
    k_steps
    exact Stop.mk ⟨[], _, _, rfl, fun _ _ e => e, fun p hp => (nomatch hp), _, rfl⟩
  · intro D6 h6 tk6 vs6 kp6 hD0 hD6 hlen6 hF6
    have hI6 := ints_list hlen6 (ints_of hF6)
    have F6 := F2.keeps kp6
    have N6 := news_add F2 N2 kp6 hD0 (o := listOf vs6.toArray vs6.length) hD6
    have l6 := allNe_new N2 hD0
    simp only [AllNe, and_true] at l6
    clear F2 N2 hD6 hF6
    k_steps
    refine Stop.mk ?_
    rename_i DC wsC _ hIC lC _ FC NC tC
    have hC9 : 9 ≤ (List.take 9 ns ++ (List.replicate (Int.toNat 9) [(0 : Int)]).flatten).length := by
      rw [List.length_append]
      exact Nat.le_add_left _ _
    have hC18 : (List.take 9 ns ++ (List.replicate (Int.toNat 9) [(0 : Int)]).flatten).length ≤ 18 := by
      rw [List.length_append]
      exact Nat.add_le_add hk9 (Nat.le_refl 9)
    have NC2 := kst_newsOf (l' := [(DC, listOf wsC.toArray 0), (_, o5), (_, o4), (_, o3), (_, o2), (_, o1)]) NC fun q hq => by
      simp only [List.mem_cons, List.not_mem_nil, or_false] at hq
      rcases hq with rfl | rfl | rfl | rfl | rfl | rfl <;> walk_at "MY_MEM"
    generalize (List.take 9 ns ++ (List.replicate (Int.toNat 9) [(0 : Int)]).flatten) = C at *
    clear NC hI6 l6
    refine comp_plain (k := 8) (F := fun i v _ => ∃ t, v = .int (Int.fmod (C.getD (i + 1) 0) 601 - 300) t) (Nat.le_of_ble_eq_true rfl) (by with_unfolding_all rfl) (by decide) (by rfl) (by decide) (by rfl) ?_
    k_steps
    refine Stop.mk ?_
    rename_i DR wsR _ F2 N2 hIR hlR _ lR
    have hlR8 : (List.take (min 9 C.length - 1) (List.drop 1 C)).length = 8 := by omega
    refine ⟨_, _, rfl, CSrc.list rfl (News.isList N2 (List.Mem.head _)) (by rw [List.size_toArray, hIR.length, hlR8]), ?_, ?_⟩
    · intro i v C2 m2' h2 tk2 E2 hik hP hns hm kp2
      obtain ⟨tv, rfl⟩ := intsAre_at hIR hP
      have F3 := F2.keeps kp2
      have N3 := N2.grown kp2
      clear F2 N2
      k_steps
      have e9 : (List.take (min 9 C.length - 1) (List.drop 1 C)).getD i 0 = C.getD (i + 1) 0 := by
        rw [List.getD_eq_getElem?_getD, List.getD_eq_getElem?_getD, List.getElem?_take, if_pos (by omega), List.getElem?_drop, Nat.add_comm]
      rw [← e9]
      exact Stop.mk ⟨[], _, _, rfl, fun _ _ e => e, fun p hp => (nomatch hp), _, rfl⟩
    · intro D6 h6 tk6 vs6 kp6 hD0 hD6 hlen6 hF6
      obtain ⟨u0, u1, u2, u3, u4, u5, u6, u7, rfl⟩ := eight_of hlen6
      obtain ⟨tr0, rfl⟩ := ints_of hF6 0 _ rfl
      obtain ⟨tr1, rfl⟩ := ints_of hF6 1 _ rfl
      obtain ⟨tr2, rfl⟩ := ints_of hF6 2 _ rfl
      obtain ⟨tr3, rfl⟩ := ints_of hF6 3 _ rfl
      obtain ⟨tr4, rfl⟩ := ints_of hF6 4 _ rfl
      obtain ⟨tr5, rfl⟩ := ints_of hF6 5 _ rfl
      obtain ⟨tr6, rfl⟩ := ints_of hF6 6 _ rfl
      obtain ⟨tr7, rfl⟩ := ints_of hF6 7 _ rfl
      have hr0 := rest_bound (C.getD 1 0)
      have hr1 := rest_bound (C.getD 2 0)
      have hr2 := rest_bound (C.getD 3 0)
      have hr3 := rest_bound (C.getD 4 0)
      have hr4 := rest_bound (C.getD 5 0)
      have hr5 := rest_bound (C.getD 6 0)
      have hr6 := rest_bound (C.getD 7 0)
      have hr7 := rest_bound (C.getD 8 0)
      have F6 := F2.keeps kp6
      have N6 := news_add F2 N2 kp6 hD0 (o := listOf [Value.int (Int.fmod (C.getD 1 0) 601 - 300) tr0, Value.int (Int.fmod (C.getD 2 0) 601 - 300) tr1, Value.int (Int.fmod (C.getD 3 0) 601 - 300) tr2, Value.int (Int.fmod (C.getD 4 0) 601 - 300) tr3, Value.int (Int.fmod (C.getD 5 0) 601 - 300) tr4, Value.int (Int.fmod (C.getD 6 0) 601 - 300) tr5, Value.int (Int.fmod (C.getD 7 0) 601 - 300) tr6, Value.int (Int.fmod (C.getD 8 0) 601 - 300) tr7].toArray 8) hD6
      have l6 := allNe_new N2 hD0
      simp only [AllNe, and_true] at l6
      clear F2 N2 hD6 hF6 hlen6 hIR hlR hlR8
      generalize hq0 : Int.fmod (C.getD 1 0) 601 - 300 = r0 at *
      generalize hq1 : Int.fmod (C.getD 2 0) 601 - 300 = r1 at *
      generalize hq2 : Int.fmod (C.getD 3 0) 601 - 300 = r2 at *
      generalize hq3 : Int.fmod (C.getD 4 0) 601 - 300 = r3 at *
      generalize hq4 : Int.fmod (C.getD 5 0) 601 - 300 = r4 at *
      generalize hq5 : Int.fmod (C.getD 6 0) 601 - 300 = r5 at *
      generalize hq6 : Int.fmod (C.getD 7 0) 601 - 300 = r6 at *
      generalize hq7 : Int.fmod (C.getD 8 0) 601 - 300 = r7 at *
      k_steps
      refine Stop.mk ?_
      rename_i _ _ _ _ _ _ oR FA NA dA
      have NB := kst_newsOf (l' := [(D6, listOf [Value.int r0 tr0, Value.int r1 tr1, Value.int r2 tr2, Value.int r3 tr3, Value.int r4 tr4, Value.int r5 tr5, Value.int r6 tr6, Value.int r7 tr7].toArray 8), (_, o5), (_, o4), (_, o3), (_, o2), (_, oR)]) NA fun q hq => by
        simp only [List.mem_cons, List.not_mem_nil, or_false] at hq
        rcases hq with rfl | rfl | rfl | rfl | rfl | rfl <;> walk_at "MY_MEM"
      generalize hfst : C.getD (Int.toNat 0) 0 = fst at *
      clear NA lC
      refine wpAny_Assign_Name ?_ (by with_unfolding_all rfl)
      refine comp_plain (k := 4) (F := fun i v nw => ∃ a n t1 t2, v = .ref a ∧ (a, tupO [Value.int (match i with | 0 => r0 | 1 => r2 | 2 => r4 | _ => r6) t1, Value.int (match i with | 0 => r1 | 1 => r3 | 2 => r5 | _ => r7) t2] n) ∈ nw) (Nat.le_of_ble_eq_true rfl) (by with_unfolding_all rfl) (by decide) (by rfl) (by decide) (by rfl) ?_
      k_steps
      refine Stop.mk ?_
      rename_i _ _ _ _ _ hRg F2 N2 _
      refine ⟨_, _, rfl, CSrc.range rfl hRg (by rfl) (by rfl), ?_, ?_⟩
      · intro i v C2 m2' h2 tk2 E2 hik hP hns hm kp2
        obtain ⟨tv, hv⟩ := hP
        have F3 := F2.keeps kp2
        have hX2 := cell_keeps (cell_of N2 (o := oR) (by walk_at "MY_MEM") dA) kp2
        have bR : h2.IsList D6 [Value.int r0 tr0, Value.int r1 tr1, Value.int r2 tr2, Value.int r3 tr3, Value.int r4 tr4, Value.int r5 tr5, Value.int r6 tr6, Value.int r7 tr7].toArray := ⟨_, kp2 _ _ (N2 _ (List.Mem.head _)).1, rfl, 8, rfl⟩
        clear F2 N2
        rcases i with _ | _ | _ | _ | i
        · obtain rfl : v = Value.int 0 tv := hv
          have hx1 : [Value.int r0 tr0, Value.int r1 tr1, Value.int r2 tr2, Value.int r3 tr3, Value.int r4 tr4, Value.int r5 tr5, Value.int r6 tr6, Value.int r7 tr7].toArray[((2 : Int) * 0).toNat]? = some (Value.int r0 tr0) := rfl
          have hx2 : [Value.int r0 tr0, Value.int r1 tr1, Value.int r2 tr2, Value.int r3 tr3, Value.int r4 tr4, Value.int r5 tr5, Value.int r6 tr6, Value.int r7 tr7].toArray[((2 : Int) * 0 + 1).toNat]? = some (Value.int r1 tr1) := rfl
          (try dsimp only)
          k_steps
          exact Stop.mk ⟨[(h2.objs.size, tupO [Value.int r0 tr0, Value.int r1 tr1] 0)], _, _, rfl, fun _ _ e => Heap.get?_push_of_some _ e, fun p hp => by rw [List.mem_singleton.mp hp]; exact ⟨Heap.get?_push_size _ rfl, Heap.get?_none_of_le (Nat.le_refl _)⟩, _, 0, tr0, tr1, rfl, List.Mem.head _⟩
        · obtain rfl : v = Value.int 1 tv := hv
          have hx1 : [Value.int r0 tr0, Value.int r1 tr1, Value.int r2 tr2, Value.int r3 tr3, Value.int r4 tr4, Value.int r5 tr5, Value.int r6 tr6, Value.int r7 tr7].toArray[((2 : Int) * 1).toNat]? = some (Value.int r2 tr2) := rfl
          have hx2 : [Value.int r0 tr0, Value.int r1 tr1, Value.int r2 tr2, Value.int r3 tr3, Value.int r4 tr4, Value.int r5 tr5, Value.int r6 tr6, Value.int r7 tr7].toArray[((2 : Int) * 1 + 1).toNat]? = some (Value.int r3 tr3) := rfl
          (try dsimp only)
          k_steps
          exact Stop.mk ⟨[(h2.objs.size, tupO [Value.int r2 tr2, Value.int r3 tr3] 0)], _, _, rfl, fun _ _ e => Heap.get?_push_of_some _ e, fun p hp => by rw [List.mem_singleton.mp hp]; exact ⟨Heap.get?_push_size _ rfl, Heap.get?_none_of_le (Nat.le_refl _)⟩, _, 0, tr2, tr3, rfl, List.Mem.head _⟩
        · obtain rfl : v = Value.int 2 tv := hv
          have hx1 : [Value.int r0 tr0, Value.int r1 tr1, Value.int r2 tr2, Value.int r3 tr3, Value.int r4 tr4, Value.int r5 tr5, Value.int r6 tr6, Value.int r7 tr7].toArray[((2 : Int) * 2).toNat]? = some (Value.int r4 tr4) := rfl
          have hx2 : [Value.int r0 tr0, Value.int r1 tr1, Value.int r2 tr2, Value.int r3 tr3, Value.int r4 tr4, Value.int r5 tr5, Value.int r6 tr6, Value.int r7 tr7].toArray[((2 : Int) * 2 + 1).toNat]? = some (Value.int r5 tr5) := rfl
          (try dsimp only)
          k_steps
          exact Stop.mk ⟨[(h2.objs.size, tupO [Value.int r4 tr4, Value.int r5 tr5] 0)], _, _, rfl, fun _ _ e => Heap.get?_push_of_some _ e, fun p hp => by rw [List.mem_singleton.mp hp]; exact ⟨Heap.get?_push_size _ rfl, Heap.get?_none_of_le (Nat.le_refl _)⟩, _, 0, tr4, tr5, rfl, List.Mem.head _⟩
        · obtain rfl : v = Value.int 3 tv := hv
          have hx1 : [Value.int r0 tr0, Value.int r1 tr1, Value.int r2 tr2, Value.int r3 tr3, Value.int r4 tr4, Value.int r5 tr5, Value.int r6 tr6, Value.int r7 tr7].toArray[((2 : Int) * 3).toNat]? = some (Value.int r6 tr6) := rfl
          have hx2 : [Value.int r0 tr0, Value.int r1 tr1, Value.int r2 tr2, Value.int r3 tr3, Value.int r4 tr4, Value.int r5 tr5, Value.int r6 tr6, Value.int r7 tr7].toArray[((2 : Int) * 3 + 1).toNat]? = some (Value.int r7 tr7) := rfl
          (try dsimp only)
          k_steps
          exact Stop.mk ⟨[(h2.objs.size, tupO [Value.int r6 tr6, Value.int r7 tr7] 0)], _, _, rfl, fun _ _ e => Heap.get?_push_of_some _ e, fun p hp => by rw [List.mem_singleton.mp hp]; exact ⟨Heap.get?_push_size _ rfl, Heap.get?_none_of_le (Nat.le_refl _)⟩, _, 0, tr6, tr7, rfl, List.Mem.head _⟩
        · omega
      · intro D7 h7 tk7 vs7 kp7 hD0 hD7 hlen7 hF7
        obtain ⟨v0, v1, v2, v3, rfl⟩ := four_of hlen7
        obtain ⟨nw0, hn0, q0, m0, ta0, tb0, rfl, hm0⟩ := hF7 0 _ rfl
        obtain ⟨nw1, hn1, q1, m1, ta1, tb1, rfl, hm1⟩ := hF7 1 _ rfl
        obtain ⟨nw2, hn2, q2, m2, ta2, tb2, rfl, hm2⟩ := hF7 2 _ rfl
        obtain ⟨nw3, hn3, q3, m3, ta3, tb3, rfl, hm3⟩ := hF7 3 _ rfl
        have F7 := F2.keeps kp7
        have N7 := news_tl F2 N2 kp7 (tl := [(D7, listOf [Value.ref q0, Value.ref q1, Value.ref q2, Value.ref q3].toArray 4), (q0, tupO [Value.int r0 ta0, Value.int r1 tb0] m0), (q1, tupO [Value.int r2 ta1, Value.int r3 tb1] m1), (q2, tupO [Value.int r4 ta2, Value.int r5 tb2] m2), (q3, tupO [Value.int r6 ta3, Value.int r7 tb3] m3)]) (fun p hp => by
          simp only [List.mem_cons, List.not_mem_nil, or_false] at hp
          rcases hp with rfl | rfl | rfl | rfl | rfl
          · exact ⟨hD7, hD0⟩
          · exact hn0 _ hm0
          · exact hn1 _ hm1
          · exact hn2 _ hm2
          · exact hn3 _ hm3)
        have l7 := allNe_new N2 hD0
        have l70 := allNe_new N2 (hn0 _ hm0).2
        have l71 := allNe_new N2 (hn1 _ hm1).2
        have l72 := allNe_new N2 (hn2 _ hm2).2
        have l73 := allNe_new N2 (hn3 _ hm3).2
        simp only [AllNe, and_true] at l7 l70 l71 l72 l73
        simp only [List.cons_append, List.nil_append] at N7
        clear F2 N2 hD7 hF7 hlen7 hn0 hn1 hn2 hn3 hm0 hm1 hm2 hm3
        k_steps
        refine Stop.mk ?_
        rename_i _ oP FP NP dP
        -- the join (not built yet): stage4 and on
        have e0 := (show (Mine.hd.heap_39 W.params).lookup 270 = some _ from by k_is)
        refine stage4 (L := S1.heap.objs.size) e0 XX TT (fr_kst (ps := [(Str.ofString "first", .int fst tC)]) FP fun p hp => by
          simp only [List.mem_cons, List.not_mem_nil, or_false] at hp
          rcases hp with rfl; rfl) (T := [(D7, listOf [Value.ref q0, Value.ref q1, Value.ref q2, Value.ref q3].toArray 4), (q0, tupO [Value.int r0 ta0, Value.int r1 tb0] m0), (q1, tupO [Value.int r2 ta1, Value.int r3 tb1] m1), (q2, tupO [Value.int r4 ta2, Value.int r5 tb2] m2), (q3, tupO [Value.int r6 ta3, Value.int r7 tb3] m3), (D6, listOf [Value.int r0 tr0, Value.int r1 tr1, Value.int r2 tr2, Value.int r3 tr3, Value.int r4 tr4, Value.int r5 tr5, Value.int r6 tr6, Value.int r7 tr7].toArray 8)]) (o5 := o5) (o4 := o4) (o3 := o3) (o2 := oP) (o1 := oR) (kst_newsOf NP fun q hq => ?_) dP dA ?_ ?_ ?_ hr0 hr1 hr2 hr3 hr4 hr5 hr6 hr7 ?_
        · simp only [List.mem_cons, List.not_mem_nil, or_false] at hq
          rcases hq with rfl | rfl | rfl | rfl | rfl | rfl | rfl | rfl | rfl | rfl | rfl <;> walk_at "MY_MEM"
        · have off1 : ∀ {a : Nat}, (S1.heap.objs.size + 1 + 1 + 1 + 1 + 1 ≠ a ∧ S1.heap.objs.size + 1 + 1 + 1 + 1 ≠ a ∧ S1.heap.objs.size + 1 + 1 + 1 ≠ a ∧ S1.heap.objs.size + 1 + 1 ≠ a ∧ S1.heap.objs.size + 1 ≠ a) → ((@Ne Nat a (S1.heap.objs.size + 1 + 1)) ∧ (@Ne Nat a (S1.heap.objs.size + 1 + 1 + 1)) ∧ (@Ne Nat a (S1.heap.objs.size + 1 + 1 + 1 + 1)) ∧ (@Ne Nat a (S1.heap.objs.size + 1 + 1 + 1 + 1 + 1))) := fun h => ⟨Ne.symm h.2.2.2.1, Ne.symm h.2.2.1, Ne.symm h.2.1, Ne.symm h.1⟩
          exact Off.cons (off1 l7.2) (Off.cons (off1 l70.2) (Off.cons (off1 l71.2) (Off.cons (off1 l72.2) (Off.cons (off1 l73.2) (Off.cons (off1 l6.2.2) Off.nil)))))
        · exact .list (List.Mem.head _) (.cons (.tuple (by walk_at "MY_MEM") (.cons (.int _ _) (.cons (.int _ _) .nil))) (.cons (.tuple (by walk_at "MY_MEM") (.cons (.int _ _) (.cons (.int _ _) .nil))) (.cons (.tuple (by walk_at "MY_MEM") (.cons (.int _ _) (.cons (.int _ _) .nil))) (.cons (.tuple (by walk_at "MY_MEM") (.cons (.int _ _) (.cons (.int _ _) .nil))) .nil))))
        · exact .list (by walk_at "MY_MEM") (.cons (.int _ _) (.cons (.int _ _) (.cons (.int _ _) (.cons (.int _ _) (.cons (.int _ _) (.cons (.int _ _) (.cons (.int _ _) (.cons (.int _ _) .nil))))))))
        · intro h tk m o2 T vP p0 p1 p2 p3 F N d2 hT DP hq hor
          refine join (o5 := o5) (o4 := o4) (o3 := o3) (o2 := o2) e0 XX TT (by passes_own) c5 c4 c3 (fun h tk m F => ?_) F N d2 hT DP hq hor
          k_unfold
          (try dsimp only)
          exact goodW_bool F hg (raisesW_false (by wrow_none_raised)) (by wrow_post))
end
end Mine
theorem PySem.Challenge.cw_nt0495_01_holds : PySem.Challenge.rw_nt0495_01.Holds := by
  exact Mine.law_walk
