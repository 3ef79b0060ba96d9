import PyProof.Rows.All
import Wide.All
import OpenK.AllK
import Wide.FinOn
import PySem.Challenge.RW_pq0287_01
open PySem PySem.W PyProof.Rows
set_option Elab.async false
namespace Mine
section
local macro_rules | `(tactic| o_head $_:term) => `(tactic| assumption)
set_option maxRecDepth 100000 in
set_option maxHeartbeats 8000000 in
theorem grab (h : PySem.Challenge.rw_pq0287_01.row.Holds) : PySem.Challenge.rw_pq0287_01.row.Holds := by
  k_head
end

def addrs : List Addr := [
  2, 3, 15, 17, 18, 20, 21, 22, 29, 31, 32, 34, 35, 36, 37, 38, 39, 42, 44, 45, 47, 48, 49, 51, 52, 54, 55, 56, 59, 60, 61, 63, 64, 66, 67, 68,
  70, 71, 73, 74, 82, 84, 85, 87, 88, 89, 90, 91, 92, 93, 96, 97, 99, 100, 109, 111, 112, 114, 115, 116, 117, 118, 119, 120, 130, 131, 133, 134,
  136, 137, 138, 139, 140, 141, 142, 152, 154, 155, 157, 158, 159, 160, 161, 162, 163, 173, 175, 176, 178, 179, 180, 181, 182, 183, 184, 194, 196,
  197, 199, 200, 201, 202, 203, 204, 205, 215, 217, 218, 220, 221, 222, 224, 225, 227, 228, 229, 231, 232, 234, 235, 236, 237, 238, 239, 240, 243,
  244, 246, 247, 249, 250, 251, 253, 254, 256, 257, 258, 260, 261, 263, 264, 265, 267, 268, 270, 271, 272, 274, 275, 277, 278, 286, 288, 289, 291,
  292, 293, 295, 296, 298, 299, 300, 302, 303, 305, 306, 307, 308, 309, 310, 311, 314, 315, 323, 325, 326, 328, 329, 330, 331, 332, 333, 334, 337,
  340, 341, 342, 344, 345, 347, 348, 349, 351, 352, 354, 355, 356, 358, 359, 361, 362, 363, 365, 366, 368, 369, 370, 372, 373, 375, 376, 384, 386,
  387, 389, 390, 391, 393, 394, 396, 397, 398, 400, 401, 403, 404, 405, 407, 408, 410, 411, 412, 414, 415, 417, 418, 419, 421, 422, 424, 425, 426,
  428, 429, 431, 432, 433, 435, 436, 438, 439, 440, 442, 443, 445, 446, 447, 448, 449, 450, 451, 454, 456, 457, 459, 460, 461, 463, 464, 466, 467,
  475, 477, 478, 480, 481, 482, 484, 485, 487, 488, 489, 491, 492, 494, 495, 496, 498, 499, 501, 502, 503, 505, 506, 508, 509, 510, 512, 513, 515,
  516, 517, 519, 520, 522, 523, 524, 526, 527, 529, 530, 531, 533, 534, 536, 537, 538, 539, 540, 541, 542, 545, 548, 549, 550, 552, 553, 555, 556,
  564, 567, 568, 569, 572, 573]
abbrev st (l : List Stmt) (i : Nat) {s : Stmt} (_ : l[i]? = some s) : Stmt := s
noncomputable def view : Program := { PySem.Challenge.pw_pq0287_01 with main := { PySem.Challenge.pw_pq0287_01.main with body := [
st PySem.Challenge.pw_pq0287_01.main.body 0 rfl, st PySem.Challenge.pw_pq0287_01.main.body 2 rfl, st PySem.Challenge.pw_pq0287_01.main.body 4 rfl, st PySem.Challenge.pw_pq0287_01.main.body 5 rfl, st PySem.Challenge.pw_pq0287_01.main.body 6 rfl, st PySem.Challenge.pw_pq0287_01.main.body 7 rfl, st PySem.Challenge.pw_pq0287_01.main.body 8 rfl, st PySem.Challenge.pw_pq0287_01.main.body 10 rfl, st PySem.Challenge.pw_pq0287_01.main.body 11 rfl, st PySem.Challenge.pw_pq0287_01.main.body 12 rfl, st PySem.Challenge.pw_pq0287_01.main.body 13 rfl, st PySem.Challenge.pw_pq0287_01.main.body 14 rfl, st PySem.Challenge.pw_pq0287_01.main.body 15 rfl, st PySem.Challenge.pw_pq0287_01.main.body 16 rfl, st PySem.Challenge.pw_pq0287_01.main.body 17 rfl, st PySem.Challenge.pw_pq0287_01.main.body 18 rfl, st PySem.Challenge.pw_pq0287_01.main.body 20 rfl, st PySem.Challenge.pw_pq0287_01.main.body 22 rfl, st PySem.Challenge.pw_pq0287_01.main.body 23 rfl, st PySem.Challenge.pw_pq0287_01.main.body 24 rfl, st PySem.Challenge.pw_pq0287_01.main.body 25 rfl, st PySem.Challenge.pw_pq0287_01.main.body 27 rfl, st PySem.Challenge.pw_pq0287_01.main.body 28 rfl, st PySem.Challenge.pw_pq0287_01.main.body 29 rfl, st PySem.Challenge.pw_pq0287_01.main.body 30 rfl, st PySem.Challenge.pw_pq0287_01.main.body 31 rfl, st PySem.Challenge.pw_pq0287_01.main.body 32 rfl, st PySem.Challenge.pw_pq0287_01.main.body 33 rfl, st PySem.Challenge.pw_pq0287_01.main.body 34 rfl, st PySem.Challenge.pw_pq0287_01.main.body 35 rfl, st PySem.Challenge.pw_pq0287_01.main.body 36 rfl, st PySem.Challenge.pw_pq0287_01.main.body 37 rfl, st PySem.Challenge.pw_pq0287_01.main.body 38 rfl, st PySem.Challenge.pw_pq0287_01.main.body 39 rfl, st PySem.Challenge.pw_pq0287_01.main.body 40 rfl, st PySem.Challenge.pw_pq0287_01.main.body 41 rfl, st PySem.Challenge.pw_pq0287_01.main.body 42 rfl, st PySem.Challenge.pw_pq0287_01.main.body 43 rfl, st PySem.Challenge.pw_pq0287_01.main.body 44 rfl, st PySem.Challenge.pw_pq0287_01.main.body 45 rfl, st PySem.Challenge.pw_pq0287_01.main.body 47 rfl, st PySem.Challenge.pw_pq0287_01.main.body 49 rfl, st PySem.Challenge.pw_pq0287_01.main.body 50 rfl, st PySem.Challenge.pw_pq0287_01.main.body 51 rfl, st PySem.Challenge.pw_pq0287_01.main.body 52 rfl, st PySem.Challenge.pw_pq0287_01.main.body 53 rfl] } }
abbrev loose : List Str := [Str.ofString "NIL", Str.ofString "T", Str.ofString "list_of", Str.ofString "MOST_CODES", Str.ofString "QUOTES"]
abbrev lv : List (Str × WData) := [(Str.ofString "MOST_CODES", WData.int 1048576)]
theorem addrs_eq (P : Params) : addrs = (grab.heap_1 P).map (·.1) := by kernel_rfl
def Walk : Prop := ∀ (d : DefRec) (kwd : List (Str × PySem.Expr)), defOf view (Str.ofString "law") = some (d, kwd) →
  WalkO view loose (XL view lv) (kHook grab.heap_1 addrs addrs_eq).says PySem.Challenge.rw_pq0287_01.row.toRowW d kwd (fun f vs => PySem.call f vs)
end Mine
set_option compiler.extract_closed false
section
open PySem.Calls
set_option linter.unusedVariables false
namespace Mine
set_option maxRecDepth 100000
set_option maxHeartbeats 8000000
section
noncomputable abbrev AT (dp un : Nat) (gd : Option (List Code)) (env : Env) (outer : List Env) : Around := { handled := none, depth := dp, frames := some (env :: outer), guards := gd, units := un }
/-- what stands in a heap and is only read -/
def BaseIs (h : Heap) (l : List (Addr × Obj)) : Prop := ∀ p ∈ l, h.get? p.1 = some p.2
theorem BaseIs.lift {h₀ g : Heap} {L : Addr} {m : Str → Option Value} {l : List (Addr × Obj)} (G : BaseIs h₀ l) (F : Fr h₀ L g m) : BaseIs g l := fun p hp => F.keep _ _ (G p hp)
theorem BaseIs.lift' {h₀ g : Heap} {L : Addr} {m : Str → Option Value} {l : List (Addr × Obj)} (F : Fr h₀ L g m) (G : BaseIs h₀ l) : BaseIs g l := G.lift F
theorem InstAt.of_base {h₀ h : Heap} {L x C dx : Addr} {m : Str → Option Value} {l : List (Addr × Obj)} {od : Obj} {sl : Array (Option Value)} (F : Fr h₀ L h m) (G : BaseIs h₀ l) (h1 : (x, (⟨.ref C, some dx, .plain, sl⟩ : Obj)) ∈ l) (h2 : (dx, od) ∈ l) :
    PySem.W.InstAt h x ⟨.ref C, some dx, .plain, sl⟩ C (some od) := ⟨F.keep _ _ (G _ h1), rfl, rfl, F.keep _ _ (G _ h2)⟩
theorem isList_base {h₀ h : Heap} {L x : Addr} {m : Str → Option Value} {l : List (Addr × Obj)} {vs : List Value} {n : Nat} (F : Fr h₀ L h m) (G : BaseIs h₀ l) (h1 : (x, listOf vs.toArray n) ∈ l) : h.IsList x vs.toArray :=
  ⟨_, F.keep _ _ (G _ h1), rfl, n, rfl⟩
/-- a def of the text, called: what it leaves -/
def Does (w : World) (D : Nat) (f : Addr) (vs : List Value) (lb news : List (Addr × Obj)) (Ret Exc : Value → List (Addr × Obj) → Prop) : Prop :=
  ∀ (dp un : Nat) (gd : Option (List Code)) (env : Env) (outer : List Env) (A₀ : Around) (base h₀ : Heap) (L : Addr) (m mg mb : Str → Option Value) (mean : ExcName → Option Value) (s : Shared) (R : Result → Shared → Prop),
    Below A₀ base outer h₀ → Fr h₀ L s.heap m → (grab.heap_1 w.params).In h₀ → News h₀ L s.heap news → Top view (looseW view loose) mean mg mb h₀ → BaseIs h₀ lb → env.frame = some L → env.scope.kind = .function → dp + D ≤ 900 → un + 20 * D ≤ 7000 →
    (∀ r h' tk' news', Fr h₀ L h' m → News h₀ L h' news' → Ret r news' → R (.ok (.ret r)) { s with heap := h', toks := tk' }) →
    (∀ e h' tk' news', Fr h₀ L h' m → News h₀ L h' news' → Exc e news' → R (.error e) { s with heap := h', toks := tk' }) →
    codeAny (model PySem.Challenge.rw_pq0287_01.row.prog w) (AT dp un gd env outer) (.call (.ref f) ⟨vs, []⟩) R s
def NoExc : Value → List (Addr × Obj) → Prop := fun _ _ => False

theorem Does.use {w : World} {D : Nat} {f : Addr} {vs : List Value} {lb news : List (Addr × Obj)} {Ret Exc : Value → List (Addr × Obj) → Prop} (H : Does w D f vs lb news Ret Exc)
    {dp un : Nat} {gd : Option (List Code)} {env : Env} {outer : List Env} {A₀ : Around} {base h₀ : Heap} {L : Addr} {m mg mb : Str → Option Value} {mean : ExcName → Option Value} {s : Shared} {Q E : Value → Shared → Prop}
    (B : Below A₀ base outer h₀) (F : Fr h₀ L s.heap m) (X : (grab.heap_1 w.params).In h₀) (N : News h₀ L s.heap news) (T : Top view (looseW view loose) mean mg mb h₀) (G : BaseIs h₀ lb) (hf : env.frame = some L) (hk : env.scope.kind = .function) (hd : dp + D ≤ 900) (hu : un + 20 * D ≤ 7000)
    (ret : ∀ r h' tk' news', Fr h₀ L h' m → News h₀ L h' news' → Ret r news' → Q r { s with heap := h', toks := tk' })
    (exc : ∀ e h' tk' news', Fr h₀ L h' m → News h₀ L h' news' → Exc e news' → E e { s with heap := h', toks := tk' }) :
    wpAny (model PySem.Challenge.rw_pq0287_01.row.prog w) (AT dp un gd env outer) (call (.ref f) vs) Q E s :=
  wpAny_call (H _ _ _ _ _ _ _ _ _ _ _ _ _ _ _ B F X N T G hf hk hd hu ret exc)
theorem subBase {h : Heap} {l l' : List (Addr × Obj)} (G : BaseIs h l) (hs : ∀ p ∈ l', p ∈ l) : BaseIs h l' := fun p hp => G p (hs p hp)
theorem News.sub {h₀ h : Heap} {L : Addr} {l l' : List (Addr × Obj)} (N : News h₀ L h l) (hs : ∀ p ∈ l', p ∈ l) : News h₀ L h l' := fun p hp => N p (hs p hp)
theorem pushN (us : List Value) (x : Value) (n : Nat) : listOf (us.toArray.push x) n = listOf (us ++ [x]).toArray n := by simp
section
variable {prog : Program} {w : World} {M : Model} {A : Around} {E : Value → Shared → Prop} {s : Shared} {h₀ h : Heap} {L D b : Addr} {m : Str → Option Value} {news news' : List (Addr × Obj)} {n n2 : Nat} {us zs : List Value} {x : Value} {Q : Value → Shared → Prop}
theorem m_len (hl : s.heap.IsList D us.toArray) (hz : us.length ≤ sizeLine) (h : Q (.int (us.length : Int) (s.toks + 1)) { s with toks := s.toks + 1 + 1 }) : wpAny (model prog w) A (call (.builtin "len") [.ref D]) Q E s :=
  len_list hl (by rw [List.size_toArray]; rw [sizeLine_eq] at hz; omega) (by rw [List.size_toArray]; exact h)
theorem m_append (F : Fr h₀ L s.heap m) (N : News h₀ L s.heap news) (U : Upd D (listOf us.toArray n) (listOf (us ++ [x]).toArray (n + 1)) news news') (hz : us.length ≤ sizeLine)
    (h : ∀ h', Fr h₀ L h' m → News h₀ L h' news' → Q .none { s with heap := h' }) : wpAny (model prog w) A (call (.builtin "list.append") [.ref D, x]) Q E s :=
  append_K F N (its := us.toArray) (n := n) (news' := news') (by rw [pushN]; exact U) h (by rw [List.size_toArray]; exact hz)
theorem m_extend (F : Fr h₀ L s.heap m) (N : News h₀ L s.heap news) (hb : (b, listOf zs.toArray n2) ∈ news) (hne : zs.length ≠ 0) (U : Upd D (listOf us.toArray n) (listOf (us ++ zs).toArray (n + 1)) news news') (hz : us.length + zs.length ≤ 8000000)
    (h : ∀ h', Fr h₀ L h' m → News h₀ L h' news' → Q .none { s with heap := h' }) : wpAny (model prog w) A (call (.builtin "list.extend") [.ref D, .ref b]) Q E s := by
  refine kl_extend F N hb (by simp) (by simpa using hne) U ?_ ?_ ?_ h
  · rw [List.size_toArray, List.size_toArray]
    have : Builtin.List.listTooLong (us.length + zs.length) = false := by
      unfold Builtin.List.listTooLong
      have h9 := sizeLine_eq
      rw [decide_eq_false_iff_not]
      omega
    rw [this]; simp
  · have := sizeLine_eq; simp; omega
  · have := sizeLine_eq; simp; omega
theorem m_pop {y : Value} (F : Fr h₀ L s.heap m) (N : News h₀ L s.heap news) (U : Upd D (listOf (us ++ [y]).toArray n) (listOf us.toArray (n + 1)) news news') (hz : us.length < sizeLine)
    (h : ∀ h', Fr h₀ L h' m → News h₀ L h' news' → Q y { s with heap := h' }) : wpAny (model prog w) A (call (.builtin "list.pop") [.ref D]) Q E s :=
  kl_pop F N (kpa_last y us) U (by simp; omega) h
end
theorem nilBase {h : Heap} : BaseIs h [] := fun _ hp => nomatch hp
theorem ints1 {us : List Value} {a : Int} (h : IntsAre us [a]) : ∃ t, us = [.int a t] := by
  cases h with | cons k t r => cases r; exact ⟨t, rfl⟩
theorem ints2 {us : List Value} {a b : Int} (h : IntsAre us [a, b]) : ∃ t u, us = [.int a t, .int b u] := by
  cases h with | cons k t r => cases r with | cons k2 t2 r2 => cases r2; exact ⟨t, t2, rfl⟩
theorem Does.weaken {w : World} {D : Nat} {f : Addr} {vs : List Value} {lb news : List (Addr × Obj)} {Ret Exc Ret' Exc' : Value → List (Addr × Obj) → Prop} (H : Does w D f vs lb news Ret Exc)
    (hr : ∀ r nw, Ret r nw → Ret' r nw) (he : ∀ r nw, Exc r nw → Exc' r nw) : Does w D f vs lb news Ret' Exc' :=
  fun dp un gd env outer A₀ base h₀ L m mg mb mean s R B F X N T G hf hk hd hu hret hexc => H dp un gd env outer A₀ base h₀ L m mg mb mean s R B F X N T G hf hk hd hu (fun r h' tk' nw F' N' q => hret r h' tk' nw F' N' (hr _ _ q)) (fun r h' tk' nw F' N' q => hexc r h' tk' nw F' N' (he _ _ q))
noncomputable abbrev en (w : World) (x : String) (t : Tok) (v : Value) : DictEntry := ⟨PyData.keyHash w.params (Str.ofString x), .str (Str.ofString x) t, v⟩
/-- the addresses and tokens of a printer -/
structure PA where
  pr : Addr
  pd : Addr
  op : Addr
  od : Addr
  lb : Addr
  ob : Addr
  cl : Addr
  jl : Addr
  al : Addr
  t : Nat → Tok
noncomputable abbrev prD (w : World) (a : PA) : Obj := dictOf [en w "options" (a.t 0) (.ref a.op), en w "obarray" (a.t 1) (.ref a.ob), en w "labels" (a.t 2) (.ref a.lb), en w "codes" (a.t 3) (.ref a.cl), en w "jobs" (a.t 4) (.ref a.jl), en w "around" (a.t 5) (.ref a.al)] 6
noncomputable abbrev opD (w : World) (a : PA) : Obj := dictOf [en w "is_quoting" (a.t 6) (.bool true), en w "length" (a.t 7) (.int (-1) (a.t 8)), en w "level" (a.t 9) (.int (-1) (a.t 10)), en w "escape_newlines" (a.t 11) (.bool false), en w "quoted" (a.t 12) (.bool true), en w "circle" (a.t 13) (.bool false), en w "gensym" (a.t 14) (.bool false), en w "spans_rows" (a.t 15) .none] 8
noncomputable abbrev prB (w : World) (a : PA) (l : List (Addr × Obj)) : List (Addr × Obj) := (a.pr, instObj 449 a.pd) :: (a.pd, prD w a) :: (a.op, instObj 332 a.od) :: (a.od, opD w a) :: l
noncomputable abbrev led (a : PA) (us js rs : List Value) (n1 n2 n3 : Nat) (tl : List (Addr × Obj)) : List (Addr × Obj) := (a.cl, listOf us.toArray n1) :: (a.jl, listOf js.toArray n2) :: (a.al, listOf rs.toArray n3) :: tl
structure Apart (a : PA) (tl : List (Addr × Obj)) : Prop where
  cj : @Ne Nat a.cl a.jl
  ca : @Ne Nat a.cl a.al
  ja : @Ne Nat a.jl a.al
  off : OwnOff tl [a.cl, a.jl, a.al]

noncomputable abbrev tupOf (vs : List Value) : Obj := { cls := .type "tuple", data := .seq vs.toArray }
noncomputable abbrev consD (w : World) (t1 t2 : Tok) (car cdr : Value) : Obj := dictOf [en w "car" t1 car, en w "cdr" t2 cdr] 2
theorem off_cons {c x y z : Addr} {o : Obj} {tl : List (Addr × Obj)} (h1 : @Ne Nat c x) (h2 : @Ne Nat c y) (h3 : @Ne Nat c z) (h : OwnOff tl [x, y, z]) : OwnOff ((c, o) :: tl) [x, y, z] := by
  intro p hp b hb
  rcases List.mem_cons.mp hp with rfl | hp
  · rcases List.mem_cons.mp hb with rfl | hb
    · exact h1
    · rcases List.mem_cons.mp hb with rfl | hb
      · exact h2
      · rcases List.mem_cons.mp hb with rfl | hb
        · exact h3
        · cases hb
  · exact h p hp b hb
theorem get_base {h₀ h : Heap} {L x : Addr} {m : Str → Option Value} {l : List (Addr × Obj)} {o : Obj} (F : Fr h₀ L h m) (G : BaseIs h₀ l) (h1 : (x, o) ∈ l) : h.get? x = some o := F.keep _ _ (G _ h1)
noncomputable abbrev vecD (w : World) (t1 : Tok) (thl : Addr) : Obj := dictOf [en w "things" t1 (.ref thl)] 1
section
variable {prog : Program} {w : World} {A : Around} {E : Value → Shared → Prop} {s : Shared} {h₀ : Heap} {L : Addr} {m : Str → Option Value} {env : Env}
/-- the turns of a comprehension by what holds between them -/
theorem rest_inv {elt : PySem.Expr} {x : Str} {scope : Scope} {cl : List (Str × Addr)} {S : List (Addr × Obj) → Prop} {P : Nat → Value → Prop} {Fin : List Value → List (Addr × Obj) → Prop} (J : Nat → List Value → List (Addr × Obj) → Prop) (N : Nat)
    (fin : ∀ ys nw, J N ys nw → Fin ys nw)
    (step : ∀ i ys nw v I oI C oC D m₂ h tk (E' : Value → Shared → Prop), i < N → J i ys nw → P i v → LCg.NsObj oC m₂ → m₂ x = some v → Fr h₀ L h m → News h₀ L h ((I, oI) :: (C, oC) :: (D, LCg.lst ys) :: nw) → LCg.Off3 I C D nw → ((@Ne Nat I C) ∧ (@Ne Nat I D) ∧ (@Ne Nat C D)) →
      wpAny (model prog w) A (eval elt (compEnvC scope cl C env)) (LCg.CompEnd h₀ L m { s with heap := h, toks := tk } I oI C oC D (LCg.lst ys) S (fun y nw' => J (i + 1) (ys ++ [y]) nw')) E' { s with heap := h, toks := tk }) :
    ∀ n i ys nw, i + n = N → J i ys nw → LCg.CompRest prog w A h₀ L m env elt x scope cl s S P Fin n i ys nw := by
  intro n
  induction n with
  | zero => intro i ys nw e j; exact LCg.CompRest.zero (fin ys nw (by have : i = N := by omega
                                                                      rw [← this]; exact j))
  | succ n ih =>
    intro i ys nw e j
    refine LCg.CompRest.succ fun v I oI C oC D m₂ h tk E' hP hC hx F N' off ne => ?_
    refine wpAny_mono (step i ys nw v I oI C oC D m₂ h tk E' (by omega) j hP hC hx F N' off ne) (fun y s' he => ?_) fun _ _ q => q
    obtain ⟨h', tk', nw', a1, a2, a3, a4, a5, a6⟩ := he
    exact ⟨h', tk', nw', a1, a2, a3, a4, a5, ih (i + 1) _ _ (by omega) a6⟩

/-- a comprehension over the signs of a text -/
theorem ListComp_S {elt iter : PySem.Expr} {x : Str} {px : Pos} {scope : Scope} {cl : List (Str × Addr)} {pos : Pos} {Q : Value → Shared → Prop} (F₀ : Fr h₀ L s.heap m)
    (hclos : closureFor scope env = pure cl) (hcell : ∀ y ∈ scope.names, y.2 ≠ .cell) (hkind : scope.kind = .function)
    (hnames : ∀ y ∈ scope.names, y.2 = .local → scope.names.lookup y.1 = some .local) (hx : scope.names.lookup x = some .local)
    (h : wpAny (model prog w) A (eval iter env) (fun xv s₁ => ∃ y t news, xv = .str y t ∧ A.handled = none ∧ y.cps.all (· < 128) = true ∧ y.cps.size ≤ sizeLine ∧ Fr h₀ L s₁.heap m ∧ News h₀ L s₁.heap news ∧
      ∀ s₂ : Shared, (∃ h, s₂ = { s₁ with heap := h }) → LCg.CompRest prog w A h₀ L m env elt x scope cl s₂ (fun _ => True) (SignAt y) (LCg.FinE h₀ L m s₂ Q) y.cps.size 0 [] news) E s)
    (hs : ∀ x, foldedSetIterable iter env x = pure x := by intro _; rfl) :
    wpAny (model prog w) A (eval (.ListComp elt [⟨.Name x px, iter, [], 0⟩] scope pos) env) Q E s := by
  rw [eval_ListComp]
  refine wpAny_comprehension_free (use := none) rfl hs hclos hkind hnames (wpAny_mono h (fun xv s₁ h₁ => ?_) fun _ _ e => e)
  obtain ⟨y, t, news, rfl, hh, ha, hsz, F, N, R⟩ := h₁
  refine wpAny_pyIter_ascii ha ?_
  have W := Walks.strAscii (prog := prog) (w := w) hh s₁.heap.objs.size y t
  have up : ∀ b o, s₁.heap.get? b = some o → (s₁.heap.push { cls := .type "str_ascii_iterator", data := .fields #[.str y t, .int 0 0] }).get? b = some o := fun b o e => Heap.get?_push_of_some _ e
  refine LCg.block_U W hsz (fun i h st => by obtain ⟨o, e, _⟩ := st; exact ⟨o, e⟩)
    (fun i h h' o nw st e e' _ _ _ => W.frame i h h' st fun b hb o' q => by
      rw [List.mem_singleton.mp hb] at q ⊢
      rw [e', ← e, q])
    hcell hkind hx ⟨_, Heap.get?_push_size _ rfl, rfl, rfl⟩ (fun b hb => ?_)
    (F.keeps up) (N.grown up) (Nat.ne_of_lt F.ns.lt) (next_is_new F) (fun p hp => Nat.ne_of_lt (Heap.lt_size (N p hp).1)) trivial (R _ ⟨_, rfl⟩) ?_
  · rw [List.mem_singleton.mp hb]
    show s₁.heap.objs.size < (s₁.heap.push _).objs.size
    rw [Heap.size_push]
    exact Nat.lt_succ_self _
  · intro D C h tk m' ys news' F' N' o1 hn hC₀ hD₀ hCL hDL hCD offC fin
    refine ⟨m', hn, fun h'' hs'' => fin D h'' tk (F'.change hs'' hCL hC₀) (fun p hp => ⟨hs''.extBut _ _ ?_ (N' p hp).1, (N' p hp).2⟩) o1⟩
    rcases List.mem_cons.mp hp with rfl | hp
    · exact Ne.symm hCD
    · exact offC p hp
theorem intsAre_snoc {us : List Value} {cs : List Int} {k : Int} {t : Tok} (h : IntsAre us cs) : IntsAre (us ++ [.int k t]) (cs ++ [k]) := by
  induction h with
  | nil => exact .cons k t .nil
  | cons a b _ ih => exact .cons a b ih
end
section
variable {prog : Program} {w : World} {A : Around} {E : Value → Shared → Prop} {s : Shared} {env : Env} {h₀ : Heap} {x : Str} {body : List Stmt} {Q : Flow → Shared → Prop}
theorem unrPost_mono {L I : Addr} {s₁ : Shared} {it : Obj} {J J' : (Str → Option Value) → List (Addr × Obj) → Prop} (hJ : ∀ m nw, J m nw → J' m nw) {f : Flow} {s₂ : Shared} (h : UnrPost h₀ L s₁ I it J Q f s₂) : UnrPost h₀ L s₁ I it J' Q f s₂ := by
  have e : UnrEnd h₀ L s₁ I it J s₂ → UnrEnd h₀ L s₁ I it J' s₂ := by
    rintro ⟨h', tk, m', nw', a1, a2, a3, a4, a5⟩
    exact ⟨h', tk, m', nw', a1, a2, a3, a4, hJ _ _ a5⟩
  cases f with
  | ret v => exact h
  | brk => exact h
  | next => exact e h
  | cont => exact e h
/-- a loop over range(n), by what holds between its turns -/
theorem rangeRest_inv {I : Addr} {n : Nat} (J : Nat → (Str → Option Value) → List (Addr × Obj) → Prop)
    (fin : ∀ m nw h tk, J n m nw → Fr h₀ env.locals h m → News h₀ env.locals h nw → Q .next { s with heap := h, toks := tk })
    (step : ∀ i m nw t h tk, i < n → J i m nw → Fr h₀ env.locals h (fun y => if y = x then some (.int (i : Int) t) else m y) → News h₀ env.locals h ((I, itR (((i + 1 : Nat) : Int)) ((n : Int) - ((i + 1 : Nat) : Int))) :: nw) →
      wpAny (model prog w) A (execs body env) (UnrPost h₀ env.locals { s with heap := h, toks := tk } I (itR (((i + 1 : Nat) : Int)) ((n : Int) - ((i + 1 : Nat) : Int))) (J (i + 1)) Q) E { s with heap := h, toks := tk }) :
    ∀ k i m nw, i + k = n → J i m nw → RangeRest prog w A E h₀ env x body Q s I 0 n k i m nw := by
  intro k
  induction k with
  | zero =>
    intro i m nw e j
    have : i = n := by omega
    subst this
    exact RangeRest.zero fun h tk F N => fin m nw h tk j F N
  | succ k ih =>
    intro i m nw e j
    refine RangeRest.succ fun t h tk F N => ?_
    simp only [Int.zero_add] at F N ⊢
    exact wpAny_mono (step i m nw t h tk (by omega) j F N) (fun f s₂ q => unrPost_mono (fun m nw j' => ih (i + 1) m nw (by omega) j') q) fun _ _ q => q
theorem range_loop {r : Addr} {n : Nat} {b : Int} {t₀ u₀ v₀ : Tok} {m₀ : Str → Option Value} {news : List (Addr × Obj)} (J : Nat → (Str → Option Value) → List (Addr × Obj) → Prop)
    (hh : A.handled = none) (hr : IsRange s.heap r 0 b 1 t₀ u₀ v₀) (hb : b = (n : Int)) (hn : n ≤ 1000000) (F : Fr h₀ env.locals s.heap m₀) (N : News h₀ env.locals s.heap news) (j : J 0 m₀ news)
    (fin : ∀ m nw h tk, J n m nw → Fr h₀ env.locals h m → News h₀ env.locals h nw → Q .next { s with heap := h, toks := tk })
    (step : ∀ i m nw t h tk I o, i < n → J i m nw → (∀ p ∈ news, p.1 < I) → Fr h₀ env.locals h (fun y => if y = x then some (.int (i : Int) t) else m y) → News h₀ env.locals h ((I, o) :: nw) →
      wpAny (model prog w) A (execs body env) (UnrPost h₀ env.locals { s with heap := h, toks := tk } I o (J (i + 1)) Q) E { s with heap := h, toks := tk }) :
    wpAny (model prog w) A (pyIter (.ref r)) (fun it s₂ => LoopAtV prog w A h₀ env x body Q E it s₂) E s := by
  subst hb
  have e62 : (2 : Int) ^ 62 = 4611686018427387904 := by decide
  refine iter_rangeUnr hh hr (small_one (by omega) (by omega) (by omega) (by omega)) (n := n) (by rw [rangeSize_one]; split <;> omega) F N fun I l1 => ?_
  exact rangeRest_inv J fin (fun i m nw t h tk hi hj F' N' => step i m nw t h tk I _ hi hj l1 F' N') n 0 m₀ news (by omega) j
theorem keep_name {m₀ : Str → Option Value} : (fun y => if y = x then m₀ y else m₀ y) = m₀ := by funext y; split <;> rfl
theorem fold_name {m₀ u : Str → Option Value} {v : Option Value} : ∃ u' : Str → Option Value, (fun y => if y = x then v else if y = x then u y else m₀ y) = fun y => if y = x then u' y else m₀ y :=
  ⟨fun _ => v, by funext y; split <;> rfl⟩
/-- a search that stores nothing -/
theorem range_search {r : Addr} {n : Nat} {b : Int} {t₀ u₀ v₀ : Tok} {m₀ : Str → Option Value} {news : List (Addr × Obj)}
    (hh : A.handled = none) (hr : IsRange s.heap r 0 b 1 t₀ u₀ v₀) (hb : b = (n : Int)) (hn : n ≤ 1000000) (F : Fr h₀ env.locals s.heap m₀) (N : News h₀ env.locals s.heap news)
    (fin : ∀ (u : Str → Option Value) h tk, Fr h₀ env.locals h (fun y => if y = x then u y else m₀ y) → News h₀ env.locals h news → Q .next { s with heap := h, toks := tk })
    (step : ∀ (i : Nat) (u : Str → Option Value) t h tk I o, i < n → (∀ p ∈ news, p.1 < I) → (∀ p ∈ news, p.1 ≠ I) → Fr h₀ env.locals h (fun y => if y = x then some (.int (i : Int) t) else if y = x then u y else m₀ y) → News h₀ env.locals h ((I, o) :: news) →
      wpAny (model prog w) A (execs body env) (UnrPost h₀ env.locals { s with heap := h, toks := tk } I o (fun m' nw' => nw' = news ∧ ∃ u : Str → Option Value, m' = fun y => if y = x then u y else m₀ y) Q) E { s with heap := h, toks := tk }) :
    wpAny (model prog w) A (pyIter (.ref r)) (fun it s₂ => LoopAtV prog w A h₀ env x body Q E it s₂) E s := by
  refine range_loop (fun _ m' nw' => nw' = news ∧ ∃ u : Str → Option Value, m' = fun y => if y = x then u y else m₀ y) hh hr hb hn F N ⟨rfl, m₀, keep_name.symm⟩ ?_ ?_
  · rintro m nw h tk ⟨rfl, u, rfl⟩ F' N'
    exact fin u h tk F' N'
  · rintro i m nw t h tk I o hi ⟨rfl, u, rfl⟩ l1 F' N'
    exact step i u t h tk I o hi l1 (fun p hp => Nat.ne_of_lt (l1 p hp)) F' N'
/-- a search that ends at the turn c -/
theorem range_upto {r : Addr} {n : Nat} {b : Int} {t₀ u₀ v₀ : Tok} {m₀ : Str → Option Value} {news : List (Addr × Obj)} (c : Nat) (hc : c < n)
    (hh : A.handled = none) (hr : IsRange s.heap r 0 b 1 t₀ u₀ v₀) (hb : b = (n : Int)) (hn : n ≤ 1000000) (F : Fr h₀ env.locals s.heap m₀) (N : News h₀ env.locals s.heap news)
    (step : ∀ (i : Nat) (u : Str → Option Value) t h tk I o, i < c → (∀ p ∈ news, p.1 < I) → (∀ p ∈ news, p.1 ≠ I) → Fr h₀ env.locals h (fun y => if y = x then some (.int (i : Int) t) else if y = x then u y else m₀ y) → News h₀ env.locals h ((I, o) :: news) →
      wpAny (model prog w) A (execs body env) (UnrPost h₀ env.locals { s with heap := h, toks := tk } I o (fun m' nw' => nw' = news ∧ ∃ u : Str → Option Value, m' = fun y => if y = x then u y else m₀ y) Q) E { s with heap := h, toks := tk })
    (last : ∀ (u : Str → Option Value) t h tk I o, (∀ p ∈ news, p.1 < I) → (∀ p ∈ news, p.1 ≠ I) → Fr h₀ env.locals h (fun y => if y = x then some (.int (c : Int) t) else if y = x then u y else m₀ y) → News h₀ env.locals h ((I, o) :: news) →
      wpAny (model prog w) A (execs body env) (UnrPost h₀ env.locals { s with heap := h, toks := tk } I o (fun _ _ => False) Q) E { s with heap := h, toks := tk }) :
    wpAny (model prog w) A (pyIter (.ref r)) (fun it s₂ => LoopAtV prog w A h₀ env x body Q E it s₂) E s := by
  refine range_loop (fun i m' nw' => i ≤ c ∧ nw' = news ∧ ∃ u : Str → Option Value, m' = fun y => if y = x then u y else m₀ y) hh hr hb hn F N ⟨Nat.zero_le _, rfl, m₀, keep_name.symm⟩ ?_ ?_
  · rintro m nw h tk ⟨hle, _⟩
    omega
  · rintro i m nw t h tk I o hi ⟨hle, rfl, u, rfl⟩ l1 F' N'
    by_cases hi' : i < c
    · refine wpAny_mono (step i u t h tk I o hi' l1 (fun p hp => Nat.ne_of_lt (l1 p hp)) F' N') (fun f s₂ q => unrPost_mono (fun m nw j => ⟨?_, j⟩) q) fun _ _ q => q
      omega
    · obtain rfl : i = c := by omega
      exact wpAny_mono (last u t h tk I o l1 (fun p hp => Nat.ne_of_lt (l1 p hp)) F' N') (fun f s₂ q => unrPost_mono (fun m nw j => j.elim) q) fun _ _ q => q
theorem range_second {r : Addr} {n : Nat} {b : Int} {t₀ u₀ v₀ : Tok} {m₀ : Str → Option Value} {news : List (Addr × Obj)} (hc : 1 < n)
    (hh : A.handled = none) (hr : IsRange s.heap r 0 b 1 t₀ u₀ v₀) (hb : b = (n : Int)) (hn : n ≤ 1000000) (F : Fr h₀ env.locals s.heap m₀) (N : News h₀ env.locals s.heap news)
    (step : ∀ (u : Str → Option Value) t h tk I o, (∀ p ∈ news, p.1 < I) → (∀ p ∈ news, p.1 ≠ I) → Fr h₀ env.locals h (fun y => if y = x then some (.int ((0 : Nat) : Int) t) else if y = x then u y else m₀ y) → News h₀ env.locals h ((I, o) :: news) →
      wpAny (model prog w) A (execs body env) (UnrPost h₀ env.locals { s with heap := h, toks := tk } I o (fun m' nw' => nw' = news ∧ ∃ u : Str → Option Value, m' = fun y => if y = x then u y else m₀ y) Q) E { s with heap := h, toks := tk })
    (last : ∀ (u : Str → Option Value) t h tk I o, (∀ p ∈ news, p.1 < I) → (∀ p ∈ news, p.1 ≠ I) → Fr h₀ env.locals h (fun y => if y = x then some (.int ((1 : Nat) : Int) t) else if y = x then u y else m₀ y) → News h₀ env.locals h ((I, o) :: news) →
      wpAny (model prog w) A (execs body env) (UnrPost h₀ env.locals { s with heap := h, toks := tk } I o (fun _ _ => False) Q) E { s with heap := h, toks := tk }) :
    wpAny (model prog w) A (pyIter (.ref r)) (fun it s₂ => LoopAtV prog w A h₀ env x body Q E it s₂) E s :=
  range_upto 1 hc hh hr hb hn F N (fun i u t h tk I o hi l1 off F' N' => by
    obtain rfl : i = 0 := by omega
    exact step u t h tk I o l1 off F' N') last
end
theorem ar_item {ars : List (Addr × Obj)} {rs : List Value} {x : Addr} {i : Nat} (hrs : (ars.map fun p => Value.ref p.1) = rs) (har : ∀ p ∈ ars, @Ne Nat p.1 x ∧ p.2.cls ≠ .type "tuple") (hi : i < rs.length) :
    ∃ p ∈ ars, rs[((i : Nat) : Int).toNat]? = some (.ref p.1) ∧ @Ne Nat p.1 x ∧ p.2.cls ≠ .type "tuple" := by
  subst hrs
  have hi' : i < ars.length := by simpa using hi
  have hm := List.getElem_mem hi'
  exact ⟨ars[i], hm, by simp [hi'], har _ hm⟩
end
section
/-- a tree that calls nothing, and whose writes leave every object its class and its dict -/
def Quiet {α : Type} : Sem α → Prop
  | .pure _ => True
  | .raise _ => True
  | .unsupported _ => True
  | .finish _ => True
  | .rule _ k => Quiet (k ())
  | .at _ k => Quiet (k ())
  | .load _ _ k => ∀ o, Quiet (k o)
  | .update _ _ f k => (∀ o : Obj, (f o).dict = o.dict ∧ (f o).cls = o.cls ∧ (f o).isFreed = o.isFreed) ∧ Quiet (k ())
  | .alloc _ k => ∀ a, Quiet (k a)
  | .loadIfAlive _ k => ∀ o, Quiet (k o)
  | .point _ k => Quiet (k ())
  | .fresh k => ∀ t, Quiet (k t)
  | .stack k => ∀ st, Quiet (k st)
  | .ask k => ∀ x, Quiet (k x)
  | _ => False
def HK (h h' : Heap) : Prop := ∀ b o, h.get? b = some o → ∃ o', h'.get? b = some o' ∧ o'.dict = o.dict ∧ o'.cls = o.cls
theorem HK.refl (h : Heap) : HK h h := fun _ o e => ⟨o, e, rfl, rfl⟩
theorem HK.trans {a b c : Heap} (x : HK a b) (y : HK b c) : HK a c := fun p o e => by
  obtain ⟨o1, e1, d1, c1⟩ := x p o e
  obtain ⟨o2, e2, d2, c2⟩ := y p o1 e1
  exact ⟨o2, e2, d2.trans d1, c2.trans c1⟩
theorem HK.of_keeps {a b : Heap} (k : ∀ p o, a.get? p = some o → b.get? p = some o) : HK a b := fun p o e => ⟨o, k p o e, rfl, rfl⟩
theorem HK.update {h : Heap} {a : Addr} {f : Obj → Obj} (hf : ∀ o : Obj, (f o).dict = o.dict ∧ (f o).cls = o.cls ∧ (f o).isFreed = o.isFreed) : HK h (h.update a f) := fun b o e => by
  by_cases q : a = b
  · subst q
    exact ⟨f o, Heap.get?_update_self f e ((hf o).2.2.trans (Heap.get?_some_iff.mp e).2), (hf o).1, (hf o).2.1⟩
  · exact ⟨o, (Heap.get?_update_other _ _ q).trans e, rfl, rfl⟩
theorem Quiet.bind {α β : Type} {m : Sem α} {f : α → Sem β} (hm : Quiet m) (hf : ∀ a, Quiet (f a)) : Quiet (m >>= f) := by
  show Quiet (m.bind f)
  induction m with
  | pure a => exact hf a
  | raise e => trivial
  | unsupported w => trivial
  | finish e => trivial
  | rule t k ih => exact ih () hm
  | «at» p k ih => exact ih () hm
  | load a p k ih => exact fun o => ih o (hm o)
  | update a p g k ih => exact ⟨hm.1, ih () hm.2⟩
  | alloc o k ih => exact fun a => ih a (hm a)
  | loadIfAlive a k ih => exact fun o => ih o (hm o)
  | point l k ih => exact ih () hm
  | fresh k ih => exact fun t => ih t (hm t)
  | stack k ih => exact fun st => ih st (hm st)
  | ask k ih => exact fun x => ih x (hm x)
  | _ => exact hm.elim
theorem wp_quiet {α : Type} {M : Model} {Γ : Ctx} {t : Sem α} (ht : Quiet t) : ∀ {Q : α → Pos → Shared → Prop} {E : Value → Pos → Shared → Prop} {p : Pos} {s : Shared}, Sem.wp M Γ t Q E p s →
    Sem.wp M Γ t (fun a p' s' => Q a p' s' ∧ HK s.heap s'.heap) (fun e p' s' => E e p' s' ∧ HK s.heap s'.heap) p s := by
  induction t with
  | pure a => intro Q E p s h; rw [Sem.wp] at h ⊢; exact ⟨h, .refl _⟩
  | raise e => intro Q E p s h; rw [Sem.wp] at h ⊢; exact ⟨h, .refl _⟩
  | unsupported w => intro Q E p s h; rw [Sem.wp] at h; exact h.elim
  | finish e => intro Q E p s h; rw [Sem.wp] at h; exact h.elim
  | rule t k ih => intro Q E p s h; rw [Sem.wp] at h ⊢; exact ih () ht h
  | «at» p' k ih => intro Q E p s h; rw [Sem.wp] at h ⊢; exact ih () ht h
  | load a p' k ih => intro Q E p s h; rw [Sem.wp] at h ⊢; obtain ⟨o, e, h⟩ := h; exact ⟨o, e, ih o (ht o) h⟩
  | update a p' f k ih =>
    intro Q E p s h
    rw [Sem.wp] at h ⊢
    exact ⟨h.1, Sem.wp_mono M Γ _ (fun a _ s' q => ⟨q.1, (HK.update ht.1).trans q.2⟩) (fun a _ s' q => ⟨q.1, (HK.update ht.1).trans q.2⟩) _ _ (ih () ht.2 h.2)⟩
  | alloc o k ih =>
    intro Q E p s h
    rw [Sem.wp] at h ⊢
    have k' : HK s.heap (s.heap.push o) := HK.of_keeps fun b o' e => Heap.get?_push_of_some _ e
    exact Sem.wp_mono M Γ _ (fun a _ s' q => ⟨q.1, k'.trans q.2⟩) (fun a _ s' q => ⟨q.1, k'.trans q.2⟩) _ _ (ih _ (ht _) h)
  | loadIfAlive a k ih => intro Q E p s h; rw [Sem.wp] at h ⊢; exact ih _ (ht _) h
  | point l k ih => intro Q E p s h; rw [Sem.wp] at h ⊢; exact ih () ht h
  | fresh k ih => intro Q E p s h; rw [Sem.wp] at h ⊢; exact ih _ (ht _) h
  | stack k ih => intro Q E p s h; rw [Sem.wp] at h ⊢; exact ih _ (ht _) h
  | ask k ih => intro Q E p s h; rw [Sem.wp] at h ⊢; exact ih _ (ht _) h
  | _ => exact ht.elim
theorem wpAny_quiet {α : Type} {M : Model} {A : Around} {t : Sem α} {Q : α → Shared → Prop} {E : Value → Shared → Prop} {s : Shared} (ht : Quiet t) (h : wpAny M A t Q E s) :
    wpAny M A t (fun a s' => Q a s' ∧ HK s.heap s'.heap) (fun e s' => E e s' ∧ HK s.heap s'.heap) s := fun Γ p hΓ => wp_quiet ht (h Γ p hΓ)
theorem quiet_pure {α : Type} (a : α) : Quiet (pure a : Sem α) := trivial
theorem quiet_no {α : Type} (w : String) : Quiet (unsupported w : Sem α) := trivial
theorem quiet_load (a : Addr) : Quiet (load a) := fun _ => trivial
theorem quiet_stack : Quiet stack := fun _ => trivial
theorem quiet_update (a : Addr) (f : Obj → Obj) (hf : ∀ o : Obj, (f o).dict = o.dict ∧ (f o).cls = o.cls ∧ (f o).isFreed = o.isFreed) : Quiet (update a f) := ⟨hf, trivial⟩
theorem quiet_fieldsOf (v : Value) : Quiet (fieldsOf v) := by
  unfold fieldsOf
  cases v <;> first | exact quiet_no _ | (refine Quiet.bind (quiet_load _) fun o => ?_; split <;> first | exact quiet_pure _ | exact quiet_no _)
theorem quiet_field (v : Value) (i : Nat) : Quiet (field v i) := by
  unfold field
  refine Quiet.bind (quiet_fieldsOf v) fun vs => ?_
  split
  · exact quiet_pure _
  · exact quiet_no _
theorem mapFields_keeps (g : Array Value → Array Value) (o : Obj) : (Obj.mapFields g o).dict = o.dict ∧ (Obj.mapFields g o).cls = o.cls ∧ (Obj.mapFields g o).isFreed = o.isFreed := by
  obtain ⟨c, d, dt, sl⟩ := o
  cases dt <;> exact ⟨rfl, rfl, rfl⟩
theorem quiet_setField (v : Value) (i : Nat) (x : Value) : Quiet (setField v i x) := by
  unfold setField
  cases v <;> first | exact quiet_no _ | (unfold updateField; refine Quiet.bind (quiet_load _) fun o => ?_; split <;> first | exact quiet_no _ | (split <;> first | exact quiet_update _ _ (mapFields_keeps _) | exact quiet_no _))
theorem quiet_setFlight (e : Value) (f : Option Addr) : Quiet (setFlight e f) := by
  unfold setFlight
  refine Quiet.bind (quiet_field _ _) fun tb => ?_
  split
  · exact quiet_setField _ _ _
  · exact quiet_pure _
theorem quiet_readyFrames : ∀ l : List Env, Quiet (readyFrames l)
  | [] => trivial
  | env :: outer => by
    unfold readyFrames
    split
    · refine Quiet.bind (quiet_load _) fun o => ?_
      split
      · exact quiet_pure _
      · have hb : Quiet (behindIsImport env outer) := by
          unfold behindIsImport
          repeat' (first | exact quiet_pure _ | split | refine Quiet.bind (quiet_field _ _) fun _ => ?_)
        have hk : ∀ b, Quiet (keptBack env b outer) := fun b => by
          cases outer with
          | nil =>
            show Quiet (if env.scope.isGenerator || env.scope.isCoroutine then pure Value.none else do return if ← underTheClaimsCaller then Value.notImplemented else Value.none)
            split
            · exact quiet_pure _
            · refine Quiet.bind ?_ fun _ => quiet_pure _
              unfold underTheClaimsCaller
              exact Quiet.bind quiet_stack fun _ => quiet_pure _
          | cons c r => exact quiet_pure _
        exact Quiet.bind hb fun b => Quiet.bind (hk b) fun v => Quiet.bind (quiet_update _ _ fun o => by obtain ⟨c, d, dt, sl⟩ := o; cases dt <;> exact ⟨rfl, rfl, rfl⟩) fun _ => quiet_readyFrames outer
    · exact quiet_no _
theorem quiet_frameOf (env : Env) : Quiet (PySem.frameOf env) := by
  unfold PySem.frameOf frameEnvs
  refine Quiet.bind (Quiet.bind quiet_stack fun _ => quiet_pure _) fun l => ?_
  refine Quiet.bind ?_ fun r => ?_
  · generalize List.dropWhile _ _ = l'
    cases l' with
    | nil => exact quiet_pure _
    | cons e r => exact Quiet.bind (quiet_readyFrames _) fun _ => quiet_pure _
  · split
    · exact quiet_pure _
    · exact quiet_no _
theorem quiet_newFields (ty : String) (vs : List Value) : Quiet (newFields ty vs) := by
  unfold newFields newObj newObjAsIs
  dsimp only
  split
  · exact Quiet.bind (quiet_no _) fun _ => Quiet.bind (fun _ => trivial) fun _ => quiet_pure _
  · exact Quiet.bind (fun _ => trivial) fun _ => quiet_pure _
theorem quiet_noteFrame (e : Value) (env : Env) : Quiet (noteFrame e env) := by
  have hend : ∀ (f : Addr) (head : Value), Quiet (do setField e 1 (← EntryCells.newEntry head (← PySem.frameOf env) .none (rawInt f) .none (← entryPlaceOf f (head != .none)))) := fun f head => by
    refine Quiet.bind (quiet_frameOf _) fun fr => Quiet.bind ?_ fun pl => Quiet.bind (quiet_newFields _ _) fun en => quiet_setField _ _ _
    unfold entryPlaceOf
    refine Quiet.bind quiet_stack fun acts => ?_
    split <;> exact quiet_pure _
  unfold noteFrame
  split
  · refine Quiet.bind (quiet_field _ _) fun head => ?_
    split
    · refine Quiet.bind (quiet_field _ _) fun fl => ?_
      split
      · exact quiet_pure _
      · exact Quiet.bind (quiet_setField _ _ _) fun _ => hend _ _
    · exact hend _ _
  · exact quiet_no _
theorem quiet_leaving (env : Env) (e : Value) : Quiet (leaving env e) := Quiet.bind (quiet_noteFrame e env) fun _ => quiet_setFlight _ _
end
section
/-- the text's own exception e under way, its dict at d -/
def RaisedQ (base G : Heap) (l : List Env) (e d : Addr) (news : List (Addr × Obj)) (h : Heap) : Prop :=
  RaisedSN base G l e (.ref 38) news h ∧ ∃ oe, h.get? e = some oe ∧ oe.dict = some d
section
variable {M : Model} {A : Around} {E : Value → Shared → Prop} {s' : Shared} {base g g₂ : Heap} {outer : List Env} {L a e d : Addr} {m : Str → Option Value} {name : Str} {scope : Scope} {cd : Value} {Q : Unit → Shared → Prop} {news all : List (Addr × Obj)} {oe : Obj} {vs : Array Value} {a0 : Value}
theorem leave_firstQ (K : Below A base outer g) (F : Fr g L s'.heap m) (N : News g L s'.heap all) (hm : (e, oe) ∈ all) (hs : ∀ q ∈ news, q ∈ all ∧ q.1 ≠ e)
    (hc : oe.cls = .ref 38) (hdi : oe.dict = some d) (hd : oe.data = .fields vs) (hv1 : vs[1]? = some .none) (hv0 : vs[0]? = some a0)
    (hQ : ∀ h', RaisedQ base g outer e d news h' → g.UpToSlots h' → Q () { s' with heap := h' }) (hk : scope.kind = .function := by rfl) :
    wpAny M (A.deeper (envOf name scope L a cd)) (leaving (envOf name scope L a cd) (.ref e)) Q E s' := by
  have he := (N _ hm).1
  have K' := K.push (name := name) (a := a) (cd := cd) F hk
  let fs := (envOf name scope L a cd :: outer).filterMap (·.frame)
  have hin : ∀ env ∈ (envOf name scope L a cd :: outer), ∀ b, env.frame = some b → b ∈ e :: fs := fun env h1 b hb => .tail _ (List.mem_filterMap.mpr ⟨env, h1, hb⟩)
  have up : ∀ b o, s'.heap.get? b = some o → b ≠ e → b ∉ fs → (hideAll s'.heap (e :: fs)).get? b = some o := fun b o q n1 n2 => hideAll_get _ q fun hmm => by
    rcases List.mem_cons.mp hmm with z | z
    · exact n1 z
    · exact n2 z
  have gne : ∀ b o, g.get? b = some o → b ≠ e := fun b o q z => by
    have := (N _ hm).2.2
    rw [← z, q] at this
    cases this
  have st : base.StaysIn (hideAll s'.heap (e :: fs)) := fun b o q => up b o (K'.stays b o q) (gne b o (K.stays b o q)) fun hmm => by
    rw [(K'.frames.mem hmm).1] at q; cases q
  have sg : ∀ b o, g.get? b = some o → b ∉ outer.filterMap (·.frame) → (hideAll s'.heap (e :: fs)).get? b = some o := fun b o q nm => up b o (F.keep b o q) (gne b o q) fun hmm => by
    rcases kts_mem hmm with z | z
    · rw [z, kts_self F] at q
      cases q
    · exact nm z
  have hl : ∀ q ∈ news, (hideAll s'.heap (e :: fs)).get? q.1 = some q.2 ∧ g.get? q.1 = none ∧ base.get? q.1 = none := fun q hq => by
    have Nq := N q (hs q hq).1
    refine ⟨up _ _ Nq.1 (hs q hq).2 fun hmm => ?_, Nq.2.2, fresh_of_stays K.stays Nq.2.2⟩
    obtain ⟨env, he', hf⟩ := List.mem_filterMap.mp hmm
    rcases List.mem_cons.mp he' with rfl | he'
    · exact Nq.2.1 (Option.some.inj hf).symm
    · obtain ⟨o, ho, _⟩ := (K.frames.mem (List.mem_filterMap.mpr ⟨env, he', hf⟩)).2
      rw [Nq.2.2] at ho; cases ho
  have hen : (hideAll s'.heap (e :: fs)).get? e = none := hideAll_none _ (List.mem_cons_self ..)
  have core : wpAny M (A.deeper (envOf name scope L a cd)) (leaving (envOf name scope L a cd) (.ref e)) (fun _ s'' => ∃ h', s'' = { s' with heap := h' } ∧ RaisedSN base g outer e (.ref 38) news h' ∧ g.UpToSlots h') E s' := by
    refine wpAny_leaving_firstW (a0 := a0) K'.stack (funFrames_hide K'.frames hin) rfl he (fun b o hb => of_hideAll _ hb) hen hd hv1 hv0 fun h' hL => ?_
    obtain ⟨k1, ⟨_, _, k2⟩, k3, k4⟩ := hL
    exact ⟨h', rfl, ⟨_, a0, st, sg, hl, k1, hen, k2, by rw [← hc]; exact k3⟩, (Heap.UpToSlots.of_keeps F.keep).trans k4⟩
  refine wpAny_mono (wpAny_quiet (quiet_leaving _ _) core) (fun _ s'' q => ?_) fun _ _ q => q.1
  obtain ⟨⟨h', rfl, R, U⟩, hk⟩ := q
  obtain ⟨o', e1, e2, _⟩ := hk e oe he
  exact hQ h' ⟨R, o', e1, e2.trans hdi⟩ U
theorem leave_onQ (K : Below A base outer g) (F : Fr g L g₂ m) (R : RaisedQ base g₂ (envOf name scope L a cd :: outer) e d news s'.heap) (hsm : g₂.UpToSlots s'.heap)
    (hQ : ∀ h', RaisedQ base g outer e d news h' → g.UpToSlots h' → Q () { s' with heap := h' }) :
    wpAny M (A.deeper (envOf name scope L a cd)) (leaving (envOf name scope L a cd) (.ref e)) Q E s' := by
  obtain ⟨R, oe, he, hdi⟩ := R
  refine wpAny_mono (wpAny_quiet (quiet_leaving _ _) (leave_onSN (Q := fun _ s'' => ∃ h', s'' = { s' with heap := h' } ∧ RaisedSN base g outer e (.ref 38) news h' ∧ g.UpToSlots h') (E := E) K F R hsm fun h' r1 _ u => ⟨h', rfl, r1, u⟩)) (fun _ s'' q => ?_) fun _ _ q => q.1
  obtain ⟨⟨h', rfl, R', U⟩, hk⟩ := q
  obtain ⟨o', e1, e2, _⟩ := hk e oe he
  exact hQ h' ⟨R', o', e1, e2.trans hdi⟩ U
end
end
section
section
variable {prog : Program} {w : World} {A₀ : Around} {E : Value → Shared → Prop} {s' : Shared} {base g g₀ G : Heap} {outer : List Env} {L a e d : Addr} {m : Str → Option Value} {name : Str} {scope : Scope} {cd : Value}
  {n : Str} {b₀ : Stmt} {suite : List Stmt} {pos np : Pos} {rest : List ExceptHandler} {Q : Flow → Shared → Prop} {news : List (Addr × Obj)} {KF : Frag}
  {p : Program} {loose : List Str} {mean : ExcName → Option Value} {mg mb : Str → Option Value} {x : Str}
theorem caughtQ (R : RaisedQ base G (envOf name scope L a cd :: outer) e d news s'.heap) (F : Fr g L G m) (K : Below A₀ base outer g) (hsm : G.UpToSlots s'.heap) (XB : KF.In base) (TB : Top p loose mean mg mb base)
    (D : KtsDicts (outer.filterMap (·.frame)) g) (T0 : KtsTurn (outer.filterMap (·.frame)) g₀ g)
    (ex : nsIn KF mainGlobals x = some (some (.ref 38))) (q : ktsIn KF 38 "BaseException" = true)
    (k : ∀ h' g' oe tk vs, KtsTurn (outer.filterMap (·.frame)) g₀ g' → Fr g' L h' (fun y => if y = n then some (.ref e) else m y) → News g' L h' ((e, oe) :: news) → oe.cls = .ref 38 → oe.dict = some d → oe.data = .fields vs → Below A₀ base outer g' → KF.In g' → Top p loose mean mg mb g' → KtsDicts (outer.filterMap (·.frame)) g' →
      wpAny (model prog w) ((A₀.deeper (envOf name scope L a cd)).mark (some (.ref e))) (execs (b₀ :: suite) (envOf name scope L a cd))
        (fun f s₄ => wpAny (model prog w) (A₀.deeper (envOf name scope L a cd)) (do bindName (envOf name scope L a cd) n .none; unbindBehindTheSuite (envOf name scope L a cd) n pos) (fun _ s₅ => Q f s₅) E s₄)
        (AsSuiteRaised (model prog w) ((A₀.deeper (envOf name scope L a cd)).mark (some (.ref e))) (envOf name scope L a cd) n pos (notedBy (model prog w) ((A₀.deeper (envOf name scope L a cd)).mark (some (.ref e))) (envOf name scope L a cd) (cameBackBy (model prog w) (A₀.deeper (envOf name scope L a cd)) (envOf name scope L a cd) E)))
        { s' with heap := h', toks := tk })
    (hk : scope.kind = .function := by rfl) (hlo : (envOf name scope L a cd).kindOf n = some .local := by rfl) (hx : (envOf name scope L a cd).kindOf x = some .globalImplicit := by rfl) (hd : (x == ("__debug__" : Str)) = false := by decide) :
    wpAny (model prog w) (A₀.deeper (envOf name scope L a cd)) (noteFrame (.ref e) (envOf name scope L a cd))
      (fun _ s₂ => wpAny (model prog w) (A₀.deeper (envOf name scope L a cd)) (setFlight (.ref e) none) (fun _ s₃ =>
        wpAny (model prog w) (A₀.deeper (envOf name scope L a cd)) (handleBy (.ref e) (envOf name scope L a cd) (.ExceptHandler (some (.Name x np)) (some n) (b₀ :: suite) pos :: rest)) Q E s₃) E s₂) E s' := by
  obtain ⟨⟨B, a0, hB, hBG, hl, hfl⟩, od, hod, hdd⟩ := R
  have hL : B.get? L = none := by
    obtain ⟨_, ⟨L', _, hf, hn', _⟩, _⟩ := hfl.2.2.1
    obtain rfl : L = L' := Option.some.inj hf
    exact hn'
  refine wpAny_mono (wpAny_quiet (quiet_noteFrame _ _) (wpAny_looks_onW (E := E) (Q := fun _ s₂ => ∃ h₄, s₂ = { s' with heap := h₄ } ∧ Heap.HeldW B (envOf name scope L a cd :: outer) e (.ref 38) a0 L h₄ ∧ s'.heap.UpToSlots h₄) (Around.frames_deeper K.stack) rfl hfl fun h₄ z1 z2 => ⟨h₄, rfl, z1, z2⟩)) (fun _ s₂ z => ?_) fun _ _ z => z.1
  obtain ⟨⟨h₄, rfl, hheld₄, hsm₄⟩, hk₄⟩ := z
  refine wpAny_mono (wpAny_quiet (quiet_setFlight _ _) (wpAny_landsW (E := E) (Q := fun _ s₂ => ∃ h₅, s₂ = { s' with heap := h₅ } ∧ Heap.FlyingW B (envOf name scope L a cd :: outer) e (.ref 38) a0 h₅ ∧ h₄.UpToSlots h₅) hheld₄ fun h₅ z1 z2 => ⟨h₅, rfl, z1, z2⟩)) (fun _ s₂ z => ?_) fun _ _ z => z.1
  obtain ⟨⟨h₅, rfl, hheld, hsm₅'⟩, hk₅⟩ := z
  have hsm₅ := hsm₄.trans hsm₅'
  obtain ⟨g₅, T₅, F₅, K₅⟩ := kts_ground K F hBG hheld.1 (hsm.trans hsm₅)
  have X₅ : KF.In g₅ := XB.keeps K₅.stays
  have P₅ : TopRead p loose mg mb g₅ := topRead_of (TB.keeps K₅.stays)
  obtain ⟨ob, hob, hobc⟩ := hheld.there
  obtain ⟨nm, q', N, bs, bm, hdct, sn, sub, ab, col, dd, k0, k1, k2, k3, k5, newId, hC, hbase, hbT⟩ := kts_cls X₅ q
  have hC₅ := F₅.keep _ _ hC
  refine wpAny_handleBy_cons (codeAny_handlers_test (name_K F₅ X₅ P₅ ex ?_ hk hx hd)) (by intro q; cases q)
  refine wpAny_excMatches_sub_self hC₅ hob hobc hbase (codeAny_handlers_suite_as ?_)
  refine wpAny_mono (wpAny_quiet (quiet_setFlight _ _) (lands_againW (Q := fun _ s₂ => ∃ h₆, s₂ = { s' with heap := h₆ } ∧ Heap.FlyingW B (envOf name scope L a cd :: outer) e (.ref 38) a0 h₆ ∧ h₅.UpToSlots h₆) hheld fun h₆ z1 z2 => ⟨h₆, rfl, z1, z2⟩)) (fun _ s₂ z => ?_) fun _ _ z => z.1
  obtain ⟨⟨h₆, rfl, hfl₆, hsm₆⟩, hk₆⟩ := z
  obtain ⟨g₆, T₆, F₆, K₆⟩ := kts_ground K F hBG hfl₆.1 ((hsm.trans hsm₅).trans hsm₆)
  obtain ⟨oe, ws, hoe, hoec, hoed, hoe0⟩ := hfl₆.first
  obtain ⟨o', e1, e2, _⟩ := ((hk₄.trans hk₅).trans hk₆) e od hod
  have edd : oe.dict = some d := by
    have e1' : h₆.get? e = some o' := e1
    rw [hoe] at e1'
    cases e1'
    exact e2.trans hdd
  have ne₆ : g₆.get? e = none := T₆.none_ _ (kts_fresh F hBG hfl₆.2.1 fun o ho m => by
    obtain ⟨_, o', ho', hd⟩ := K.frames.mem m
    rw [ho] at ho'
    cases ho'
    obtain ⟨sl, hs⟩ := ((hsm.trans hsm₅).trans hsm₆) _ _ (F.keep _ _ ho) hd
    rw [hoe] at hs
    cases hs
    exact hd _ hoed)
  have N₆ := News.more F₆ News.nil hoe (fun es n q => by rw [hoed] at q; cases q) ne₆
  have Nl : News g₆ L h₆ news := fun q hq => ⟨hfl₆.1 _ _ (hl q hq).1, (fun z => by have := (hl q hq).1; rw [z, hL] at this; cases this), T₆.none_ _ (kts_none F.keep (hl q hq).2.1)⟩
  have X₆ : KF.In g₆ := XB.keeps K₆.stays
  have P₆ : Top p loose mean mg mb g₆ := TB.keeps K₆.stays
  have D₆ : KtsDicts (outer.filterMap (·.frame)) g₆ := D.turn T₆
  refine stN F₆ (news := (e, oe) :: news) (fun q hq => (List.mem_cons.mp hq).elim (fun z => N₆ q (by rw [z]; exact .head _)) (Nl q)) (fun h₇ F₇ N₇ => ?_) hk hlo
  exact k h₇ g₆ oe _ ws (T0.trans T₆) F₇ N₇ hoec edd hoed K₆ X₆ P₆ D₆
end
end
section
section
variable {prog : Program} {w : World} {A : Around} {K : Frag} {R : Result → Shared → Prop} {h : Heap} {g : Array GenState} {d : Drawn} {t : Nat} {os : OsState}
variable {nm q : Str} {C N : Addr} {bs bm bmB : List Value} {hdct : Bool} {sn : List Str} {sub : List Value} {ab : Bool} {col : Option Bool} {dd : Option Addr} {k0 k1 k2 k3 k5 : Option Value} {B newId initId : String}
noncomputable abbrev excObj (C t : Addr) (d : Option Addr) : Obj := { cls := .ref C, dict := d, data := .fields #[.ref t, .none, .none, .none, .bool false, .none] }
/-- a call of the text's own exception class, whose __init__ is a def -/
theorem type_call_init {E : Value → Shared → Prop} (F : ExcBaseFacts B newId initId bmB) (T : OwnTail h bmB bm) {rest : List Value} {fI : Addr} {Q : Fin → Shared → Prop} (X : K.In h)
    (hC : h.get? C = some (excClassObj nm q C N bs bm hdct sn sub ab col dd k0 k1 k2 k3 k5 newId)) (hi : findIn K (.ref C) "__init__" = some (some (.ref fI))) (hf : typeIn K (.ref fI) = some (.type "function"))
    (hq : codeAny (model prog w) A (.call (.ref fI) ⟨.ref (h.objs.size + 1) :: rest, []⟩) (fun r s' => match r with | .ok (.ret v) => v = .none ∧ Q (.done (.ret (.ref (h.objs.size + 1)))) s' | .ok _ => False | .error e => E e s')
      ⟨(h.push (tupOf rest)).push (excObj C h.objs.size none), g, d, t, os⟩) (hrest : rest.length ≤ sizeLine) :
    wpAny (model prog w) A (Builtin.«type.__call__» ⟨.ref C :: rest, []⟩) Q E ⟨h, g, d, t, os⟩ := by
  repeat (first | with_reducible refine wpAny_loadPart_at hC ?_ | with_reducible refine wpAny_madeBy_exc hC ?_ | wp_step)
  refine codeAny_call_builtin_code (Code.quiet_builtin _ F.quiet) (wpAny_check_new_subT F T hC ?_)
  refine codeAny_exc_new_subT F T hC ?_ hrest
  show wpAny _ _ _ _ _ _
  have up : ∀ b o, h.get? b = some o → ((h.push (tupOf rest)).push (excObj C h.objs.size none)).get? b = some o := fun b o e => Heap.get?_push_of_some _ (Heap.get?_push_of_some _ e)
  have hC₁ := up _ _ hC
  have hget : ((h.push (tupOf rest)).push (excObj C h.objs.size none)).get? (h.objs.size + 1) = some (excObj C h.objs.size none) := by heap_get
  have hcC : (Value.ref C :: bm).contains (.ref C) = true := by simp
  have X₁ : K.In ((h.push (tupOf rest)).push (excObj C h.objs.size none)) := X.keeps up
  unfold isInstance
  repeat (first | with_reducible refine wpAny_loadPart_at hget ?_ | (with_reducible refine wpAny_isSubtype_exc hC₁ ?_; rw [hcC]) | wp_step)
  show wpAny _ _ (typeLookup (.ref C) _) _ _ _
  refine (looks_findIn X₁ hi).here ?_
  dsimp only
  refine wpAny_holding (wpAny_bind ((bind_fn X₁ _ hf).here ?_))
  dsimp only
  refine wpAny_bind (wpAny_call ?_)
  refine codeAny_mono hq fun r s' z => ?_
  rcases r with e | (v | _ | _ | _) <;> first | exact z | exact z.elim | skip
  all_goals first
    | exact z.elim
    | (obtain ⟨rfl, z⟩ := z
       exact wpAny_pure (wpAny_pure z))
theorem call_init {s : Shared} {h₀ : Heap} {L : Addr} {m : Str → Option Value} {news : List (Addr × Obj)} (F : ExcBaseFacts B newId initId bmB) {rest : List Value} {fI : Addr} (Fr₀ : Fr h₀ L s.heap m) (N₀ : News h₀ L s.heap news) (X₀ : K.In h₀)
    (hk : K.lookup C = some (excClassObj nm q C N bs bmB hdct sn sub ab col dd k0 k1 k2 k3 k5 newId)) (hi : findIn K (.ref C) "__init__" = some (some (.ref fI))) (hf : typeIn K (.ref fI) = some (.type "function")) (hrest : rest.length ≤ sizeLine)
    (hq : ∀ e t h', Fr h₀ L h' m → News h₀ L h' ((e, excObj C t none) :: (t, tupOf rest) :: news) → (∀ p ∈ (t, tupOf rest) :: news, p.1 < e) →
      codeAny (model prog w) (A.under (.builtin "type.__call__" ⟨.ref C :: rest, []⟩)) (.call (.ref fI) ⟨.ref e :: rest, []⟩) (InitBack e R) { s with heap := h' }) :
    codeAny (model prog w) A (.call (.ref C) ⟨rest, []⟩) R s := by
  obtain ⟨hh, g, d, t, os⟩ := s
  have X : K.In hh := X₀.keeps Fr₀.keep
  have hC := X _ _ hk
  have f1 := tc_lookup
  have f2 := tc_bind (.ref C)
  have hT : (⟨hh, g, d, t, os⟩ : Shared).TypeIs (.ref C) "type" := ⟨_, hC, rfl⟩
  refine codeAny_of_tree ?_
  show wpAny _ _ (callAny (.ref C) _) _ _ _
  repeat (any_goals (first | assumption | with_reducible refine wpAny_loadPart_at hC ?_ | wp_step))
  refine ⟨rfl, ?_⟩
  refine codeAny_call_builtin_at (Code.quiet_builtin _ (by decide +kernel)) entry_typeCall (wpAny_check_type_call_sub hC ?_)
  refine type_call_init F .base X hC hi hf ?_ hrest
  have N' := (N₀.push Fr₀ (tupOf rest)).push (Fr₀.push _) (excObj C hh.objs.size none)
  rw [Heap.size_push] at N'
  refine codeAny_mono (hq _ _ _ ((Fr₀.push _).push _) N' (fun p hp => by
      rcases List.mem_cons.mp hp with rfl | hp
      · exact Nat.lt_succ_self _
      · exact Nat.lt_succ_of_lt (Heap.lt_size (N₀ p hp).1))) fun r s' z => ?_
  rcases r with e | (v | _ | _ | _) <;> exact z
end
end
section
section
open PySem.Builtin PySem.Builtin.ObjectAttr
variable {prog : Program} {w : World} {A : Around} {K : Frag} {C x d L : Addr} {s : Shared} {h₀ : Heap} {m : Str → Option Value} {R : Result → Shared → Prop} {ox : Obj} {od : Option Obj} {name : Str} {tk : Tok} {v : Value} {E : Value → Shared → Prop} {mro : List Value} {cd : ClassData}
theorem osaE_open (X : K.In s.heap) (I : InstAt s.heap x ox C od) (hr : ∀ self, refuseLoop self "__setattr__" mro = pure ()) (hc : clsIn K C = some cd) (hm : cd.mro = mro) (ho : mroIn K C (.type "object") = some true) (ht : findIn K (.ref C) name = some none)
    (h : wpAny (model prog w) A.in1 (storeInOwnDict (.ref x) (.ref C) (.str name tk) name v false)
      (fun fin s' => match fin with | .done f => R (.ok f) s' | .again c' => c'.quiet = true ∧ codeAny (model prog w) A c' R s') (fun e s' => R (.error e) s') s) :
    codeAny (model prog w) A (.call (.builtin "object.__setattr__") ⟨[.ref x, .str name tk, v], []⟩) R s := by
  have SF := PySem.F.store_object
  have sub : Looks (model prog w) s.heap (isInstance (.ref x) (.type "object")) true := I.type.andThen (looks_mroIn X ho)
  refine codeAny_call_builtin SF.slot.plain SF.entry (@check_slot (model prog w) _ _ s "object.__setattr__" "object" "__setattr__" (.ref x) [.str name tk, v] [] _ SF.kind SF.split sub (SF.args (.ref x) (.str name tk) v) ?_)
  have hm' : Looks (model prog w) s.heap (mroOf (.ref C)) mro := by
    have z : Looks (model prog w) s.heap (mroOf (.ref C)) cd.mro := (looks_clsIn X hc).andThen .now
    rw [← hm]
    exact z
  rw [osa_eq, refuse_eq]
  refine wpAny_bind (wpAny_bind (I.type.here (wpAny_bind (hm'.here ?_))))
  rw [hr]
  exact wpAny_pure (wpAny_bind (I.type.here (wpAny_bind ((looks_findIn X ht).here (wpAny_bind (wpAny_pure h))))))
/-- the last part of a store into an object's dict -/
theorem store_tail {A' : Around} {es : List DictEntry} {n : Nat} (D : s.heap.get? d = some (dictOf es n)) (hl : (getL name es).isSome = true) (hz : es.length ≤ 900)
    (h : ∀ h', h' = s.heap.update d (Obj.putName name (PyData.keyHash w.params name) (.str name s.toks) v) → R (.ok (.ret .none)) { s with heap := h', toks := s.toks + 1 }) :
    wpAny (model prog w) A' (storeInDict d (.str name tk) name v)
      (fun fin s' => match fin with | .done f => R (.ok f) s' | .again c' => c'.quiet = true ∧ codeAny (model prog w) A c' R s') (fun e s' => R (.error e) s') s := by
  unfold storeInDict newKeyGuard
  refine wpAny_bind (wpAny_pure (wpAny_bind ?_))
  unfold nsSet
  refine wpAny_bind (wpAny_bind (wpAny_askSetting (wpAny_pure (wpAny_bind (wpAny_mkText (wpAny_bind (wpAny_loadPart D ?_)))))))
  dsimp only
  have c : (!es.toArray.any (·.key.isStr name) && es.toArray.any (·.refKey)) = false := by
    rw [← Array.any_toList, ← Array.any_toList]
    unfold getL at hl
    split at hl
    · rename_i en he
      have : es.any (·.key.isStr name) = true := List.any_eq_true.mpr ⟨en, List.mem_of_find?_eq_some he, List.find?_some (p := fun e : DictEntry => e.key.isStr name) he⟩
      simp only [this]; rfl
    · split at hl
      · cases hl
      · rename_i z; rw [Bool.not_eq_true] at z; simp only [z, Bool.and_false]
  rw [aRefKeyMayBeTheName_at, c]
  refine wpAny_updatePart D ?_
  have e' := putName_dict name (PyData.keyHash w.params name) (.str name s.toks) v es n
  have hlen : (putL name (PyData.keyHash w.params name) (.str name s.toks) v es).length ≤ es.length + 1 := by
    have : ∀ l : List DictEntry, (putL name (PyData.keyHash w.params name) (.str name s.toks) v l).length ≤ l.length + 1 := by
      intro l
      induction l with
      | nil => simp [putL]
      | cons a r ih =>
        unfold putL
        split
        · simp
        · simp only [List.length_cons]; omega
    exact this es
  have D' : (s.heap.update d (Obj.putName name (PyData.keyHash w.params name) (.str name s.toks) v)).get? d = some (dictOf (putL name (PyData.keyHash w.params name) (.str name s.toks) v es) (putN name es n)) := by
    have z := Heap.get?_update_self (Obj.putName name (PyData.keyHash w.params name) (.str name s.toks) v) D (by rw [e']; rfl)
    rw [z, e']
  refine wpAny_bind (wpAny_lookBehind D' (pastItsLine_dict (by rw [List.size_toArray, sizeLine_eq]; omega)) ?_)
  exact wpAny_pure (h _ rfl)
end
theorem refuse_exc (self : Value) : refuseLoop self "__setattr__" [.ref 38, .type "Exception", .type "BaseException", .type "object"] = pure () := by
  rw [refuseLoop_ref]
  kernel_rfl
section
open PySem.Builtin PySem.Builtin.ObjectAttr
variable {prog : Program} {w : World} {A : Around} {K : Frag} {C x d t L : Addr} {s : Shared} {h₀ : Heap} {m : Str → Option Value} {name : Str} {v : Value} {E : Value → Shared → Prop} {mro : List Value} {cd : ClassData} {news : List (Addr × Obj)} {Q : Unit → Shared → Prop}
theorem excInst0 {h : Heap} (hx : h.get? x = some (excObj C t none)) : PySem.W.InstAt h x (excObj C t none) C none := ⟨hx, rfl, rfl, trivial⟩
theorem excInst1 {h : Heap} {dd : Addr} {od : Obj} (hx : h.get? x = some (excObj C t (some dd))) (hd : h.get? dd = some od) : PySem.W.InstAt h x (excObj C t (some dd)) C (some od) := ⟨hx, rfl, rfl, hd⟩
def SetBack (Q : Unit → Shared → Prop) (E : Value → Shared → Prop) (r : Result) (s' : Shared) : Prop := match r with
  | .ok (.ret _) => Q () s'
  | .ok _ => False
  | .error e => E e s'
theorem store_tail' {A' : Around} {es : List DictEntry} {n : Nat} {R : Result → Shared → Prop} (D : s.heap.get? d = some (dictOf es n)) (hl : (getL name es).isSome = true) (hz : es.length ≤ 900) {tk : Tok}
    (hR : ∀ v s', Q () s' → R (.ok (.ret v)) s')
    (h : ∀ h', h' = s.heap.update d (Obj.putName name (PyData.keyHash w.params name) (.str name s.toks) v) → Q () { s with heap := h', toks := s.toks + 1 }) :
    wpAny (model prog w) A' (storeInDict d (.str name tk) name v)
      (fun fin s' => match fin with | .done f => R (.ok f) s' | .again c' => c'.quiet = true ∧ codeAny (model prog w) A c' R s') (fun e s' => R (.error e) s') s :=
  store_tail D hl hz fun h' e => hR _ _ (h h' e)
/-- the first name stored into a fresh exception: its dict is made -/
theorem set_exc_first (F : Fr h₀ L s.heap m) (X₀ : K.In h₀) (N : News h₀ L s.heap ((x, excObj C t none) :: news)) (hne : ∀ p ∈ news, p.1 ≠ x)
    (hs : findIn K (.ref C) "__setattr__" = some (some (.builtin "object.__setattr__"))) (hr : ∀ self, refuseLoop self "__setattr__" mro = pure ()) (hc : clsIn K C = some cd) (hm : cd.mro = mro) (hh : cd.hasDict = true)
    (ho : mroIn K C (.type "object") = some true) (ht : findIn K (.ref C) name = some none)
    (h : ∀ D h', Fr h₀ L h' m → News h₀ L h' ((D, dictOf [⟨PyData.keyHash w.params name, .str name (s.toks + 1), v⟩] 1) :: (x, excObj C t (some D)) :: news) → (∀ p ∈ (x, excObj C t (some D)) :: news, p.1 < D) → Q () { s with heap := h', toks := s.toks + 2 }) :
    wpAny (model prog w) A (setAttr (.ref x) name v) Q E s := by
  have hx := (N _ (.head _)).1
  have X := X₀.keeps F.keep
  have I : PySem.W.InstAt s.heap x (excObj C t none) C none := excInst0 hx
  refine set_plain X I hs (osaE_open (s := { s with toks := s.toks + 1 }) X I hr hc hm ho ht ?_)
  have N1 := N.push F (dictOf [] 0)
  have F1 := F.push (dictOf [] 0)
  have hlt : x < s.heap.objs.size := Heap.lt_size hx
  have hxD : x ≠ s.heap.objs.size := Nat.ne_of_lt hlt
  obtain ⟨F2, N2⟩ := news_upd (pre := [(s.heap.objs.size, dictOf [] 0)]) (post := news) (d := x) (o := excObj C t none) (o' := excObj C t (some s.heap.objs.size)) (f := fun o => { o with dict := some s.heap.objs.size }) F1 N1
    (fun p hp => by rw [List.mem_singleton.mp hp]; exact Ne.symm hxD) hne rfl rfl
  have D2 := (N2 (s.heap.objs.size, dictOf [] 0) (List.mem_append_left _ (List.mem_singleton.mpr rfl))).1
  unfold storeInOwnDict ownStreamTells ownDictForStores instanceDict
  refine wpAny_bind (wpAny_pure (wpAny_bind ?_))
  refine wpAny_bind (wpAny_loadPart hx ?_)
  dsimp only
  refine wpAny_bind (Looks.at (looks_clsIn X hc) ?_)
  rw [hh]
  show wpAny _ _ (alloc _ >>= _) _ _ _
  refine wpAny_bind (wpAny_alloc ?_)
  refine wpAny_bind (wpAny_update (N1 (x, excObj C t none) (.tail _ (.head _))).1 ?_)
  unfold dictMade
  refine wpAny_pure ?_
  dsimp only
  refine wpAny_mono (store_tail' (A := A) (Q := Q) (R := SetBack Q E) (s := { s with heap := (s.heap.push (dictOf [] 0)).update x fun o => { o with dict := some s.heap.objs.size }, toks := s.toks + 1 }) (d := s.heap.objs.size) (es := []) (n := 0) D2 rfl (by simp) (fun _ _ z => z) fun h' e => ?_) (fun fin s' z => by
    rcases fin with f | c'
    · rcases f with _ | _ | _ | _ <;> exact z
    · exact ⟨z.1, codeAny_mono z.2 fun r s h => by rcases r with e | (_ | _ | _ | _) <;> exact h⟩) fun _ _ z => z
  obtain ⟨F3, N3⟩ := news_upd (pre := []) (post := (x, excObj C t (some s.heap.objs.size)) :: news) (d := s.heap.objs.size) (o := dictOf [] 0) (f := Obj.putName name (PyData.keyHash w.params name) (.str name (s.toks + 1)) v) F2 N2 (fun _ hp => nomatch hp)
    (fun p hp => by
      rcases List.mem_cons.mp hp with rfl | hp
      · exact hxD
      · exact Nat.ne_of_lt (Heap.lt_size (N p (.tail _ hp)).1)) (putName_dict ..) rfl
  rw [e]
  exact h _ _ F3 N3 fun p hp => by
    rcases List.mem_cons.mp hp with rfl | hp
    · exact hlt
    · exact Heap.lt_size (N p (.tail _ hp)).1
/-- a further name -/
theorem set_exc_next {es es' : List DictEntry} {n n' : Nat} (F : Fr h₀ L s.heap m) (X₀ : K.In h₀) (N : News h₀ L s.heap ((d, dictOf es n) :: (x, excObj C t (some d)) :: news)) (hne : ∀ p ∈ news, p.1 ≠ d) (hxd : x ≠ d)
    (hs : findIn K (.ref C) "__setattr__" = some (some (.builtin "object.__setattr__"))) (hr : ∀ self, refuseLoop self "__setattr__" mro = pure ()) (hc : clsIn K C = some cd) (hm : cd.mro = mro) (hh : cd.hasDict = true)
    (ho : mroIn K C (.type "object") = some true) (ht : findIn K (.ref C) name = some none) (hl : (getL name es).isSome = true) (hz : es.length ≤ 900)
    (ep : (putL name (PyData.keyHash w.params name) (.str name (s.toks + 1)) v es, putN name es n) = (es', n'))
    (h : ∀ h', Fr h₀ L h' m → News h₀ L h' ((d, dictOf es' n') :: (x, excObj C t (some d)) :: news) → Q () { s with heap := h', toks := s.toks + 2 }) :
    wpAny (model prog w) A (setAttr (.ref x) name v) Q E s := by
  have hx := (N _ (.tail _ (.head _))).1
  have D := (N _ (.head _)).1
  have X := X₀.keeps F.keep
  have I : PySem.W.InstAt s.heap x (excObj C t (some d)) C (some (dictOf es n)) := excInst1 hx D
  refine set_plain X I hs (osaE_open (s := { s with toks := s.toks + 1 }) X I hr hc hm ho ht ?_)
  unfold storeInOwnDict ownStreamTells ownDictForStores instanceDict
  refine wpAny_bind (wpAny_pure (wpAny_bind ?_))
  refine wpAny_bind (wpAny_loadPart hx ?_)
  dsimp only
  refine wpAny_bind (Looks.at (looks_clsIn X hc) ?_)
  rw [hh]
  refine wpAny_pure (a := some d) ?_
  dsimp only
  refine wpAny_mono (store_tail' (A := A) (Q := Q) (R := SetBack Q E) (s := { s with toks := s.toks + 1 }) (d := d) D hl hz (fun _ _ z => z) fun h' e => ?_) (fun fin s' z => by
    rcases fin with f | c'
    · rcases f with _ | _ | _ | _ <;> exact z
    · exact ⟨z.1, codeAny_mono z.2 fun r s h => by rcases r with e | (_ | _ | _ | _) <;> exact h⟩) fun _ _ z => z
  obtain ⟨F3, N3⟩ := news_upd (pre := []) (post := (x, excObj C t (some d)) :: news) (d := d) (o := dictOf es n) (f := Obj.putName name (PyData.keyHash w.params name) (.str name (s.toks + 1)) v) F N (fun _ hp => nomatch hp)
    (fun p hp => by
      rcases List.mem_cons.mp hp with rfl | hp
      · exact hxd
      · exact hne p hp) (o' := dictOf es' n') (by rw [← (Prod.mk.inj ep).1, ← (Prod.mk.inj ep).2]; exact putName_dict ..) rfl
  rw [e]
  exact h _ F3 N3
end

def RaisE (E : Value → Shared → Prop) (v : Value) (s₁ : Shared) : Prop :=
  ∃ x t d nm q N bs bm hdct sn sub ab col dd k0 k1 k2 k3 k5 newId, bm.contains (.type "BaseException") = true ∧ v = .ref x ∧ s₁.heap.get? 38 = some (excClassObj nm q 38 N bs bm hdct sn sub ab col dd k0 k1 k2 k3 k5 newId) ∧ s₁.heap.get? x = some (excObj 38 t d) ∧ E (.ref x) s₁
theorem raise_own {M : Model} {A : Around} {E : Value → Shared → Prop} {s : Shared} {env : Env} {e : PySem.Expr} {pos : Pos} {Q : Flow → Shared → Prop} (hh : A.handled = none)
    (h : wpAny M A (eval e env) (RaisE E) E s) : wpAny M A (exec (.Raise (some e) none pos) env) Q E s := by
  rw [arm_exec_Raise]
  simp only [evalOpt, Option.map]
  refine wpAny_bind (wpAny_standAt ?_)
  unfold raiseStmt
  dsimp only
  refine wpAny_bind (wpAny_bind (wpAny_mono h (fun v s₁ h₁ => wpAny_bind (wpAny_standAt (wpAny_pure ?_))) fun _ _ x => x))
  obtain ⟨x, t, d, nm, q, N, bs, bm, hdct, sn, sub, ab, col, dd, k0, k1, k2, k3, k5, newId, hbase, rfl, hC, he, hE⟩ := h₁
  have hcB : (Value.ref 38 :: bm).contains (.type "BaseException") = true := by rw [List.contains_cons, hbase, Bool.or_true]
  obtain ⟨hp, g, d, tk, os⟩ := s₁
  repeat (first | with_reducible refine wpAny_loadPart_at he ?_ | with_reducible refine wpAny_loadPart_at hC ?_ | (with_reducible refine wpAny_isSubtype_exc hC ?_; rw [hcB]) | wp_step)
  exact wpAny_raiseNew_none hh hE
theorem RaisE.intro {E : Value → Shared → Prop} {s₁ : Shared} {x t : Addr} {d : Option Addr} {nm q : Str} {N : Addr} {bs bm : List Value} {hdct : Bool} {sn : List Str} {sub : List Value} {ab : Bool} {col : Option Bool} {dd : Option Addr} {k0 k1 k2 k3 k5 : Option Value} {newId : String}
    (hC : s₁.heap.get? 38 = some (excClassObj nm q 38 N bs bm hdct sn sub ab col dd k0 k1 k2 k3 k5 newId)) (hb : bm.contains (.type "BaseException") = true) (he : s₁.heap.get? x = some (excObj 38 t d)) (hE : E (.ref x) s₁) : RaisE E (.ref x) s₁ :=
  ⟨x, t, d, nm, q, N, bs, bm, hdct, sn, sub, ab, col, dd, k0, k1, k2, k3, k5, newId, hb, rfl, hC, he, hE⟩
theorem head_only {p : Addr × Obj} {l : List (Addr × Obj)} {e : Addr} (h : @Ne Nat p.1 e) : ∀ q ∈ [p], q ∈ p :: l ∧ q.1 ≠ e := fun q hq => by
  obtain rfl := List.mem_singleton.mp hq
  exact ⟨.head _, h⟩
end
section
local macro_rules | `(tactic| k_room) => `(tactic| ((try simp only [depth_under_make, depth_under_kw, depth_in1, depth_deeper, depth_caller]); (try simp only [recursionLimit]); omega))
local macro_rules | `(tactic| ktr_rel) => `(tactic| first
  | exact BindsTo.of_eq (binds := [(_, _)]) rfl | exact BindsTo.of_eq (binds := [(_, _), (_, _)]) rfl | exact BindsTo.of_eq (binds := [(_, _), (_, _), (_, _)]) rfl | exact BindsTo.of_eq (binds := [(_, _), (_, _), (_, _), (_, _)]) rfl | exact BindsTo.of_eq (binds := [(_, _), (_, _), (_, _), (_, _), (_, _)]) rfl | fail "binds")
local macro_rules | `(tactic| k_enter) => `(tactic| (refine' code_def ?k1 ?k2 ?k3 ?k4 ?k5 ?kA ?kF ?kK ?k6 ?k7 ?k8 ?k9 ?kB ?_ ?c2 ?c3 ?c4 ?c5; (case kA => exact rfl); (case kF => first | exact rfl | assumption); (case kK => first | exact rfl | assumption); (case k1 => k_asm); (case k2 => k_asm); (case k3 => k_asm); (case k4 => k_asm); (case k5 => k_asm); (case k6 => k_is); (case k7 => k_is); (case k8 => k_room); (case k9 => first | ktr_rel | exact binds_K (by k_in) rfl (by k_is) rfl rfl rfl | fail "k_enter: no rule for these arguments"); (case c5 => decide); (case kB => exact locs rfl); (case c2 => exact rfl); (case c3 => exact rfl); (case c4 => exact rfl); k_whole; intro g' L' h' FG' F' N' B' X' T'; (try dsimp only [List.reverse, List.reverseAux] at F'); (try dsimp only); (try (have G' := BaseIs.lift' FG' (by assumption))); (try k_fold)))
local macro_rules | `(tactic| tb_start) => `(tactic| first | exact List.forall_mem_nil _ | (refine List.forall_mem_cons.mpr ⟨by k_memK, ?_⟩; tb_start) | (intro p hp; k_ownIn))
section
local macro_rules | `(tactic| k_inst) => `(tactic| (refine' Mine.InstAt.of_base ?F ?G ?h1 ?h2; (case F => k_asm); (case G => k_asm); (case h1 => k_mem); (case h2 => k_mem)))
local macro_rules | `(tactic| is_list) => `(tactic| (refine' isList_base ?F ?G ?h1; (case F => k_asm); (case G => k_asm); (case h1 => k_mem)))
local macro_rules | `(tactic| k_handed) => `(tactic| assumption)
local macro_rules | `(tactic| kto_obj) => `(tactic| (refine' get_base ?F ?G ?h1; (case F => k_asm); (case G => k_asm); (case h1 => k_mem)))
local macro_rules | `(tactic| kl_room) => `(tactic| (have hz9 := sizeLine_eq; (try simp only [List.length_append, List.length_cons, List.length_nil, List.size_toArray]); omega))
local macro_rules | `(tactic| walk_at "call builtin:len") => `(tactic| ((with_reducible show wpAny _ _ (call (Value.builtin "len") [Value.ref _]) _ _ _); k_dflt (refine' m_len ?l ?z ?_; (case l => first | exact News.isList (by k_asm) (by k_mem) | is_list); (case z => kl_room); k_whole)))
local macro_rules | `(tactic| walk_at "call builtin:list.append") => `(tactic| ((with_reducible show wpAny _ _ (call (Value.builtin _) [Value.ref _, _]) _ _ _); k_dflt (refine' m_append ?F ?N ?U ?z ?_; (case F => k_asm); (case N => k_asm); (case U => k_upd); (case z => kl_room); k_whole); intro h' F' N'; (try k_sweep)))
local macro_rules | `(tactic| walk_at "call builtin:list.extend") => `(tactic| ((with_reducible show wpAny _ _ (call (Value.builtin _) [Value.ref _, Value.ref _]) _ _ _); k_dflt (refine' m_extend ?F ?N ?b ?ne ?U ?z ?_; (case F => k_asm); (case N => k_asm); (case b => k_mem); (case U => k_upd); (case ne => kl_some); (case z => kl_room); k_whole); intro h' F' N'; (try k_sweep)))
local macro_rules | `(tactic| walk_at "subscriptTail Name Name ref int") => `(tactic| ((with_reducible show wpAny _ _ (subscriptTail _ _ (Value.ref _) (Value.int _ _)) _ _ _); (with_unfolding_all refine' item_listL ?k1 ?k2 ?k3 ?k4 ?_ ?k6 ?k7; (case k1 => is_list); (case k2 => omega); (case k3 => omega); (case k4 => first | assumption | (simp; done)); (case k6 => with_unfolding_all rfl); (case k7 => (intro _; with_unfolding_all rfl)); k_whole)))
local macro_rules | `(tactic| lsm_bools) => `(tactic| ((try simp only [beq_iff_eq, bne_iff_ne, beq_eq_false_iff_ne, ne_eq, decide_eq_true_eq, decide_eq_false_iff_not, Bool.and_eq_true, Bool.not_eq_true', Bool.not_eq_false', Bool.not_eq_true, Bool.not_eq_eq_eq_not]); omega))
local macro_rules | `(tactic| walk_at "ite") => `(tactic| (k_openite; first | (refine ite_pos (by lsm_bools) ?_) | (refine ite_neg (by lsm_bools) ?_)))
section
theorem do_cells_end (w : World) (a : PA) (thl : Addr) (items : List Value) (nth : Nat) (tk : Tok) (us js rs : List Value) (n1 n2 n3 : Nat) (tl : List (Addr × Obj)) (k : Int) (ek : k = (items.length : Int)) (hA : Apart a tl)
   (z1 : items.length ≤ 1000) (z2 : us.length ≤ 4000000) (z3 : js.length ≤ 100000) (z4 : rs.length ≤ 1000) :
    Does w 10 446 [.ref a.pr, .ref thl, .int k tk] (prB w a [(thl, listOf items.toArray nth)]) (led a us js rs n1 n2 n3 tl)
      (fun r nw => r = .none ∧ ∃ t n1', ∀ p ∈ led a (us ++ [.int 93 t]) js rs n1' n2 n3 tl, p ∈ nw) NoExc := by
  unfold Does
  k_fill
  intro dp un gd env outer A₀ base h₀ L m mg mb mean s R B F X N T G hf hk hd hu hret hexc
  obtain ⟨h1, h2, h3, h4⟩ := hA
  k_dflt k_enter
  k_steps
  exact hret _ _ _ _ (by assumption) (by assumption) ⟨rfl, _, _, by tb_start⟩
theorem do_cells_first (w : World) (a : PA) (thl : Addr) (items : List Value) (nth : Nat) (tk : Tok) (us js rs : List Value) (n1 n2 n3 : Nat) (tl : List (Addr × Obj)) (x : Value) (hA : Apart a tl)
   (ek : items[(0 : Int).toNat]? = some x) (z0 : 0 < items.length) (z1 : items.length ≤ 1000) (z2 : us.length ≤ 4000000) (z3 : js.length ≤ 100000) (z4 : rs.length ≤ 1000) :
    Does w 10 446 [.ref a.pr, .ref thl, .int 0 tk] (prB w a [(thl, listOf items.toArray nth)]) (led a us js rs n1 n2 n3 tl)
      (fun r nw => r = .none ∧ ∃ c d t n2', (∀ p ∈ led a us (js ++ [.ref c] ++ [.ref d]) rs n1 n2' n3 ((d, tupOf [.int 0 622, x]) :: (c, tupOf [.int 3 628, .ref thl, .int 1 t]) :: tl), p ∈ nw) ∧ Apart a ((d, tupOf [.int 0 622, x]) :: (c, tupOf [.int 3 628, .ref thl, .int 1 t]) :: tl)) NoExc := by
  unfold Does
  k_fill
  intro dp un gd env outer A₀ base h₀ L m mg mb mean s R B F X N T G hf hk hd hu hret hexc
  obtain ⟨h1, h2, h3, h4⟩ := hA
  k_dflt k_enter
  k_steps
  exact hret _ _ _ _ (by assumption) (by assumption) ⟨rfl, _, _, _, _, by tb_start, ⟨h1, h2, h3, off_cons (by omega) (by omega) (by omega) (off_cons (by omega) (by omega) (by omega) h4)⟩⟩
theorem do_cells_next (w : World) (a : PA) (thl : Addr) (items : List Value) (nth : Nat) (tk : Tok) (us js rs : List Value) (n1 n2 n3 : Nat) (tl : List (Addr × Obj)) (k : Int) (x : Value) (hA : Apart a tl)
   (k0 : 0 < k) (kz : k < items.length) (ek : items[k.toNat]? = some x) (z1 : items.length ≤ 1000) (z2 : us.length ≤ 4000000) (z3 : js.length ≤ 100000) (z4 : rs.length ≤ 1000) :
    Does w 10 446 [.ref a.pr, .ref thl, .int k tk] (prB w a [(thl, listOf items.toArray nth)]) (led a us js rs n1 n2 n3 tl)
      (fun r nw => r = .none ∧ ∃ c d t u n1' n2', (∀ p ∈ led a (us ++ [.int 32 u]) (js ++ [.ref c] ++ [.ref d]) rs n1' n2' n3 ((d, tupOf [.int 0 622, x]) :: (c, tupOf [.int 3 628, .ref thl, .int (k + 1) t]) :: tl), p ∈ nw) ∧ Apart a ((d, tupOf [.int 0 622, x]) :: (c, tupOf [.int 3 628, .ref thl, .int (k + 1) t]) :: tl)) NoExc := by
  unfold Does
  k_fill
  intro dp un gd env outer A₀ base h₀ L m mg mb mean s R B F X N T G hf hk hd hu hret hexc
  obtain ⟨h1, h2, h3, h4⟩ := hA
  k_dflt k_enter
  k_steps
  exact hret _ _ _ _ (by assumption) (by assumption) ⟨rfl, _, _, _, _, _, _, by tb_start, ⟨h1, h2, h3, off_cons (by omega) (by omega) (by omega) (off_cons (by omega) (by omega) (by omega) h4)⟩⟩
end
section
theorem do_row_end (w : World) (a : PA) (half : Value) (tk : Tok) (us js rs : List Value) (n1 n2 n3 : Nat) (tl : List (Addr × Obj)) (k : Int) (hA : Apart a tl)
   (z2 : us.length ≤ 4000000) (z3 : js.length ≤ 100000) (z4 : rs.length ≤ 1000) :
    Does w 10 432 [.ref a.pr, .ref 97, .int k tk, half] (prB w a []) (led a us js rs n1 n2 n3 tl)
      (fun r nw => r = .none ∧ ∃ t n1', ∀ p ∈ led a (us ++ [.int 41 t]) js rs n1' n2 n3 tl, p ∈ nw) NoExc := by
  unfold Does
  k_fill
  intro dp un gd env outer A₀ base h₀ L m mg mb mean s R B F X N T G hf hk hd hu hret hexc
  obtain ⟨h1, h2, h3, h4⟩ := hA
  k_dflt k_enter
  k_steps
  exact hret _ _ _ _ (by assumption) (by assumption) ⟨rfl, _, _, by tb_start⟩
theorem do_row_first (w : World) (a : PA) (x dx : Addr) (car cdr : Value) (t1 t2 : Tok) (tk : Tok) (us js rs : List Value) (n1 n2 n3 : Nat) (tl : List (Addr × Obj)) (hA : Apart a tl)
   (z2 : us.length ≤ 4000000) (z3 : js.length ≤ 100000) (z4 : rs.length ≤ 1000) (hx : @Ne Nat x 97) (hcar : handedIn car = true) (hcdr : handedIn cdr = true) :
    Does w 10 432 [.ref a.pr, .ref x, .int 0 tk, .ref x] (prB w a [(x, instObj 118 dx), (dx, consD w t1 t2 car cdr)]) (led a us js rs n1 n2 n3 tl)
      (fun r nw => r = .none ∧ ∃ c d t n2', (∀ p ∈ led a us (js ++ [.ref c] ++ [.ref d]) rs n1 n2' n3 ((d, tupOf [.int 0 622, car]) :: (c, tupOf [.int 2 626, cdr, .int 1 t, .ref x]) :: tl), p ∈ nw) ∧ Apart a ((d, tupOf [.int 0 622, car]) :: (c, tupOf [.int 2 626, cdr, .int 1 t, .ref x]) :: tl)) NoExc := by
  unfold Does
  k_fill
  intro dp un gd env outer A₀ base h₀ L m mg mb mean s R B F X N T G hf hk hd hu hret hexc
  obtain ⟨h1, h2, h3, h4⟩ := hA
  k_dflt k_enter
  k_steps
  exact hret _ _ _ _ (by assumption) (by assumption) ⟨rfl, _, _, _, _, by tb_start, ⟨h1, h2, h3, off_cons (by omega) (by omega) (by omega) (off_cons (by omega) (by omega) (by omega) h4)⟩⟩
theorem do_row_second (w : World) (a : PA) (x dx y dy : Addr) (car cdr ycar : Value) (t1 t2 t3 t4 : Tok) (tk : Tok) (us js rs : List Value) (n1 n2 n3 : Nat) (tl : List (Addr × Obj)) (hA : Apart a tl)
   (z2 : us.length ≤ 4000000) (z3 : js.length ≤ 100000) (z4 : rs.length ≤ 1000) (hx : @Ne Nat x 97) (hxy : @Ne Nat x y) (hcar : handedIn car = true) (hcdr : handedIn cdr = true) :
    Does w 10 432 [.ref a.pr, .ref x, .int 1 tk, .ref y] (prB w a [(x, instObj 118 dx), (dx, consD w t1 t2 car cdr), (y, instObj 118 dy), (dy, consD w t3 t4 ycar (.ref x))]) (led a us js rs n1 n2 n3 tl)
      (fun r nw => r = .none ∧ ∃ c d t u n1' n2', (∀ p ∈ led a (us ++ [.int 32 u]) (js ++ [.ref c] ++ [.ref d]) rs n1' n2' n3 ((d, tupOf [.int 0 622, car]) :: (c, tupOf [.int 2 626, cdr, .int 2 t, .ref x]) :: tl), p ∈ nw) ∧ Apart a ((d, tupOf [.int 0 622, car]) :: (c, tupOf [.int 2 626, cdr, .int 2 t, .ref x]) :: tl)) NoExc := by
  unfold Does
  k_fill
  intro dp un gd env outer A₀ base h₀ L m mg mb mean s R B F X N T G hf hk hd hu hret hexc
  obtain ⟨h1, h2, h3, h4⟩ := hA
  k_dflt k_enter
  k_steps
  exact hret _ _ _ _ (by assumption) (by assumption) ⟨rfl, _, _, _, _, _, _, by tb_start, ⟨h1, h2, h3, off_cons (by omega) (by omega) (by omega) (off_cons (by omega) (by omega) (by omega) h4)⟩⟩
end
section
theorem codes_of_spec (w : World) (y : Str) (tk : Tok) (news : List (Addr × Obj)) (ha : y.cps.all (· < 128) = true) (hz : y.cps.size ≤ sizeLine) :
    Does w 5 341 [.str y tk] [] news
      (fun r nw => ∃ c us, r = .ref c ∧ IntsAre us (y.cps.toList.map fun c : Nat => (c : Int)) ∧ nw = (c, LCg.lst us) :: news ∧ LCg.Off1 c news) NoExc := by
  unfold Does
  k_fill
  intro dp un gd env outer A₀ base h₀ L m mg mb mean s R B F X N T G hf hk hd hu hret hexc
  k_dflt k_enter
  walk1
  walk1
  try k_unfold
  try dsimp only
  refine ListComp_S (by assumption) (by rfl) (by decide) (by rfl) (by decide) (by rfl) ?_
  walk1
  refine ⟨y, tk, news, rfl, rfl, ha, hz, by assumption, by assumption, ?_⟩
  rintro s₂ ⟨h9, rfl⟩
  refine rest_inv (fun i ys nw => nw = news ∧ IntsAre ys ((y.cps.toList.take i).map fun c : Nat => (c : Int))) y.cps.size ?_ ?_ _ 0 [] news (by omega) ⟨rfl, by simp; exact .nil⟩
  · rintro ys nw ⟨rfl, hi⟩
    unfold LCg.FinE
    intro D' h' tk' F9 N9 o1
    refine leaveK_ F9 N9 fun kF kN => ?_
    exact hret _ _ _ _ kF kN ⟨_, _, rfl, by rw [← Array.length_toList, List.take_length] at hi; exact hi, rfl, o1⟩
  · rintro i ys nw v I oI C oC D m₂ h tk' E' hlt ⟨rfl, hi⟩ ⟨c, u, hc, rfl⟩ hC hx F' N' off ne
    k_steps
    refine LCg.CompEnd.intro (by assumption) (by assumption) _ (fun p hp => hp) off trivial ⟨rfl, ?_⟩
    rw [List.take_add_one, Array.getElem?_toList, hc, List.map_append]
    exact intsAre_snoc hi
theorem codes_of_1 (w : World) (y : Str) (c : Nat) (tk : Tok) (news : List (Addr × Obj)) (e : y.cps.toList = [c]) (hc : c < 128) :
    Does w 5 341 [.str y tk] [] news (fun r nw => ∃ D t, r = .ref D ∧ nw = (D, LCg.lst [.int c t]) :: news ∧ LCg.Off1 D news) NoExc := by
  have e' : y.cps = #[c] := Array.toList_inj.mp (by rw [e])
  refine Does.weaken (codes_of_spec w y tk news (by rw [e']; simp [hc]) (by rw [e', sizeLine_eq]; simp)) (fun r nw h => ?_) fun _ _ h => h
  obtain ⟨D, us, h1, h2, h3, h4⟩ := h
  rw [e] at h2
  obtain ⟨t, rfl⟩ := ints1 h2
  exact ⟨D, t, h1, h3, h4⟩
theorem codes_of_2 (w : World) (y : Str) (c d : Nat) (tk : Tok) (news : List (Addr × Obj)) (e : y.cps.toList = [c, d]) (hc : c < 128) (hd : d < 128) :
    Does w 5 341 [.str y tk] [] news (fun r nw => ∃ D t u, r = .ref D ∧ nw = (D, LCg.lst [.int c t, .int d u]) :: news ∧ LCg.Off1 D news) NoExc := by
  have e' : y.cps = #[c, d] := Array.toList_inj.mp (by rw [e])
  refine Does.weaken (codes_of_spec w y tk news (by rw [e']; simp [hc, hd]) (by rw [e', sizeLine_eq]; simp)) (fun r nw h => ?_) fun _ _ h => h
  obtain ⟨D, us, h1, h2, h3, h4⟩ := h
  rw [e] at h2
  obtain ⟨t, u, rfl⟩ := ints2 h2
  exact ⟨D, t, u, h1, h3, h4⟩
theorem is_whole_int (w : World) (k : Int) (tk : Tok) (news : List (Addr × Obj)) : Does w 5 257 [.int k tk] [] news (fun r nw => r = .bool true ∧ nw = news) NoExc := by
  unfold Does
  k_fill
  intro dp un gd env outer A₀ base h₀ L m mg mb mean s R B F X N T G hf hk hd hu hret hexc
  k_dflt k_enter
  k_steps
  exact hret _ _ _ _ (by assumption) (by assumption) ⟨rfl, rfl⟩
theorem is_whole_cons (w : World) (x dx : Addr) (o : Obj) (news : List (Addr × Obj)) : Does w 5 257 [.ref x] [(x, instObj 118 dx), (dx, o)] news (fun r nw => r = .bool false ∧ nw = news) NoExc := by
  unfold Does
  k_fill
  intro dp un gd env outer A₀ base h₀ L m mg mb mean s R B F X N T G hf hk hd hu hret hexc
  k_dflt k_enter
  k_steps
  exact hret _ _ _ _ (by assumption) (by assumption) ⟨rfl, rfl⟩
theorem is_whole_vec (w : World) (x dx : Addr) (o : Obj) (news : List (Addr × Obj)) : Does w 5 257 [.ref x] [(x, instObj 161 dx), (dx, o)] news (fun r nw => r = .bool false ∧ nw = news) NoExc := by
  unfold Does
  k_fill
  intro dp un gd env outer A₀ base h₀ L m mg mb mean s R B F X N T G hf hk hd hu hret hexc
  k_dflt k_enter
  k_steps
  exact hret _ _ _ _ (by assumption) (by assumption) ⟨rfl, rfl⟩
theorem figures_of_7 (w : World) (tk : Tok) (news : List (Addr × Obj)) : Does w 5 348 [.int 7 tk] [] news (fun r nw => (∃ t, r = .str (Str.ofString "7") t) ∧ nw = news) NoExc := by
  unfold Does
  k_fill
  intro dp un gd env outer A₀ base h₀ L m mg mb mean s R B F X N T G hf hk hd hu hret hexc
  k_dflt k_enter
  k_steps
  exact hret _ _ _ _ (by assumption) (by assumption) ⟨⟨_, rfl⟩, rfl⟩
theorem figures_of_5 (w : World) (tk : Tok) (news : List (Addr × Obj)) : Does w 5 348 [.int 5 tk] [] news (fun r nw => (∃ t, r = .str (Str.ofString "5") t) ∧ nw = news) NoExc := by
  unfold Does
  k_fill
  intro dp un gd env outer A₀ base h₀ L m mg mb mean s R B F X N T G hf hk hd hu hret hexc
  k_dflt k_enter
  k_steps
  exact hret _ _ _ _ (by assumption) (by assumption) ⟨⟨_, rfl⟩, rfl⟩
theorem figures_of_8 (w : World) (tk : Tok) (news : List (Addr × Obj)) : Does w 5 348 [.int 8 tk] [] news (fun r nw => (∃ t, r = .str (Str.ofString "8") t) ∧ nw = news) NoExc := by
  unfold Does
  k_fill
  intro dp un gd env outer A₀ base h₀ L m mg mb mean s R B F X N T G hf hk hd hu hret hexc
  k_dflt k_enter
  k_steps
  exact hret _ _ _ _ (by assumption) (by assumption) ⟨⟨_, rfl⟩, rfl⟩
theorem figures_of_1 (w : World) (tk : Tok) (news : List (Addr × Obj)) : Does w 5 348 [.int 1 tk] [] news (fun r nw => (∃ t, r = .str (Str.ofString "1") t) ∧ nw = news) NoExc := by
  unfold Does
  k_fill
  intro dp un gd env outer A₀ base h₀ L m mg mb mean s R B F X N T G hf hk hd hu hret hexc
  k_dflt k_enter
  k_steps
  exact hret _ _ _ _ (by assumption) (by assumption) ⟨⟨_, rfl⟩, rfl⟩
end
section
local macro_rules | `(tactic| ktr_call $d:term $_:term) => `(tactic| (k_dflt (refine' Does.use $d ?B ?F ?X ?N ?T ?G ?hf ?hk ?hd ?hu ?_ ?_; (case B => k_asm); (case F => k_asm); (case X => k_asm); (case N => k_asm); (case T => k_asm); (case G => first | exact nilBase | k_asm | exact subBase (by k_asm) (by tb_start)); (case hf => first | exact rfl | assumption); (case hk => first | exact rfl | assumption); (case hd => (try simp only [depth_in1, depth_deeper]); omega); (case hu => (try simp only [units_in1, units_deeper]); omega); rotate_left; (intro e9 h9 tk9 nw9 F9 N9 hr9; exact hr9.elim))))
local macro_rules | `(tactic| walk_at "call ref") => `(tactic| ((with_reducible show wpAny _ _ (call (Value.ref 257) [Value.int _ _]) _ _ _); k_dflt ((first | ktr_call (is_whole_int _ _ _ _) 0); (intro r9 h9 tk9 nw9 F' N' hr9; obtain ⟨hv9, hn9⟩ := hr9; subst hv9; subst hn9); (try dsimp only); (try k_sweep))))
local macro_rules | `(tactic| walk_at "call ref") => `(tactic| ((with_reducible show wpAny _ _ (call (Value.ref 257) [Value.ref _]) _ _ _); k_dflt ((first | ktr_call (is_whole_cons _ _ _ _ _) 0 | ktr_call (is_whole_vec _ _ _ _ _) 0); (intro r9 h9 tk9 nw9 F' N' hr9; obtain ⟨hv9, hn9⟩ := hr9; subst hv9; subst hn9); (try dsimp only); (try k_sweep))))
local macro_rules | `(tactic| walk_at "call ref") => `(tactic| ((with_reducible show wpAny _ _ (call (Value.ref 348) [Value.int _ _]) _ _ _); k_dflt ((first | ktr_call (figures_of_7 _ _ _) 0 | ktr_call (figures_of_5 _ _ _) 0 | ktr_call (figures_of_8 _ _ _) 0 | ktr_call (figures_of_1 _ _ _) 0); (intro r9 h9 tk9 nw9 F' N' hr9; obtain ⟨⟨t9, hv9⟩, hn9⟩ := hr9; subst hv9; subst hn9); (try dsimp only); (try k_sweep))))
local macro_rules | `(tactic| walk_at "call ref") => `(tactic| ((with_reducible show wpAny _ _ (call (Value.ref 341) [Value.str _ _]) _ _ _); k_dflt ((first | ktr_call (codes_of_1 _ _ _ _ _ (by rfl) (by decide)) 0); (intro r9 h9 tk9 nw9 F' N' hr9; obtain ⟨c9, t9, hv9, hn9, ho9⟩ := hr9; subst hv9; subst hn9; (try simp only [LCg.Off1, and_true] at ho9)); (try dsimp only); (try k_sweep))))
local macro_rules | `(tactic| walk_at "call ref") => `(tactic| ((with_reducible show wpAny _ _ (call (Value.ref 341) [Value.str _ _]) _ _ _); k_dflt ((first | ktr_call (codes_of_2 _ _ _ _ _ _ (by rfl) (by decide) (by decide)) 0); (intro r9 h9 tk9 nw9 F' N' hr9; obtain ⟨c9, t9, u9, hv9, hn9, ho9⟩ := hr9; subst hv9; subst hn9; (try simp only [LCg.Off1, and_true] at ho9)); (try dsimp only); (try k_sweep))))
section
theorem do_datum_7 (w : World) (a : PA) (tk : Tok) (us js rs : List Value) (n1 n2 n3 : Nat) (tl : List (Addr × Obj)) (hA : Apart a tl)
   (z2 : us.length ≤ 4000000) (z3 : js.length ≤ 100000) (z4 : rs.length ≤ 1000) :
    Does w 10 404 [.ref a.pr, .int 7 tk] (prB w a []) (led a us js rs n1 n2 n3 tl)
      (fun r nw => r = .none ∧ ∃ t n1', ∀ p ∈ led a (us ++ [.int 55 t]) js rs n1' n2 n3 tl, p ∈ nw) NoExc := by
  unfold Does
  k_fill
  intro dp un gd env outer A₀ base h₀ L m mg mb mean s R B F X N T G hf hk hd hu hret hexc
  obtain ⟨h1, h2, h3, h4⟩ := hA
  k_dflt k_enter
  k_steps
  exact hret _ _ _ _ (by assumption) (by assumption) ⟨rfl, _, _, by tb_start⟩
theorem do_datum_5 (w : World) (a : PA) (tk : Tok) (us js rs : List Value) (n1 n2 n3 : Nat) (tl : List (Addr × Obj)) (hA : Apart a tl)
   (z2 : us.length ≤ 4000000) (z3 : js.length ≤ 100000) (z4 : rs.length ≤ 1000) :
    Does w 10 404 [.ref a.pr, .int 5 tk] (prB w a []) (led a us js rs n1 n2 n3 tl)
      (fun r nw => r = .none ∧ ∃ t n1', ∀ p ∈ led a (us ++ [.int 53 t]) js rs n1' n2 n3 tl, p ∈ nw) NoExc := by
  unfold Does
  k_fill
  intro dp un gd env outer A₀ base h₀ L m mg mb mean s R B F X N T G hf hk hd hu hret hexc
  obtain ⟨h1, h2, h3, h4⟩ := hA
  k_dflt k_enter
  k_steps
  exact hret _ _ _ _ (by assumption) (by assumption) ⟨rfl, _, _, by tb_start⟩
theorem do_datum_8 (w : World) (a : PA) (tk : Tok) (us js rs : List Value) (n1 n2 n3 : Nat) (tl : List (Addr × Obj)) (hA : Apart a tl)
   (z2 : us.length ≤ 4000000) (z3 : js.length ≤ 100000) (z4 : rs.length ≤ 1000) :
    Does w 10 404 [.ref a.pr, .int 8 tk] (prB w a []) (led a us js rs n1 n2 n3 tl)
      (fun r nw => r = .none ∧ ∃ t n1', ∀ p ∈ led a (us ++ [.int 56 t]) js rs n1' n2 n3 tl, p ∈ nw) NoExc := by
  unfold Does
  k_fill
  intro dp un gd env outer A₀ base h₀ L m mg mb mean s R B F X N T G hf hk hd hu hret hexc
  obtain ⟨h1, h2, h3, h4⟩ := hA
  k_dflt k_enter
  k_steps
  exact hret _ _ _ _ (by assumption) (by assumption) ⟨rfl, _, _, by tb_start⟩
theorem do_datum_1 (w : World) (a : PA) (tk : Tok) (us js rs : List Value) (n1 n2 n3 : Nat) (tl : List (Addr × Obj)) (hA : Apart a tl)
   (z2 : us.length ≤ 4000000) (z3 : js.length ≤ 100000) (z4 : rs.length ≤ 1000) :
    Does w 10 404 [.ref a.pr, .int 1 tk] (prB w a []) (led a us js rs n1 n2 n3 tl)
      (fun r nw => r = .none ∧ ∃ t n1', ∀ p ∈ led a (us ++ [.int 49 t]) js rs n1' n2 n3 tl, p ∈ nw) NoExc := by
  unfold Does
  k_fill
  intro dp un gd env outer A₀ base h₀ L m mg mb mean s R B F X N T G hf hk hd hu hret hexc
  obtain ⟨h1, h2, h3, h4⟩ := hA
  k_dflt k_enter
  k_steps
  exact hret _ _ _ _ (by assumption) (by assumption) ⟨rfl, _, _, by tb_start⟩
end
section
theorem short_quote_int (w : World) (x dx : Addr) (t1 t2 : Tok) (k : Int) (tk : Tok) (cdr : Value) (news : List (Addr × Obj)) (hcdr : handedIn cdr = true) :
    Does w 5 376 [.ref x] ((x, instObj 118 dx) :: (dx, consD w t1 t2 (.int k tk) cdr) :: []) news (fun r nw => (∃ t, r = .str (Str.ofString "") t) ∧ nw = news) NoExc := by
  unfold Does
  k_fill
  intro dp un gd env outer A₀ base h₀ L m mg mb mean s R B F X N T G hf hk hd hu hret hexc
  k_dflt k_enter
  k_steps
  exact hret _ _ _ _ (by assumption) (by assumption) ⟨⟨_, rfl⟩, rfl⟩
theorem short_quote_cons (w : World) (x dx : Addr) (t1 t2 : Tok) (y dy : Addr) (oy : Obj) (cdr : Value) (news : List (Addr × Obj)) (hcdr : handedIn cdr = true) :
    Does w 5 376 [.ref x] ((x, instObj 118 dx) :: (dx, consD w t1 t2 (.ref y) cdr) :: [(y, instObj 118 dy), (dy, oy)]) news (fun r nw => (∃ t, r = .str (Str.ofString "") t) ∧ nw = news) NoExc := by
  unfold Does
  k_fill
  intro dp un gd env outer A₀ base h₀ L m mg mb mean s R B F X N T G hf hk hd hu hret hexc
  k_dflt k_enter
  k_steps
  exact hret _ _ _ _ (by assumption) (by assumption) ⟨⟨_, rfl⟩, rfl⟩
theorem short_quote_vec (w : World) (x dx : Addr) (t1 t2 : Tok) (y dy : Addr) (oy : Obj) (cdr : Value) (news : List (Addr × Obj)) (hcdr : handedIn cdr = true) :
    Does w 5 376 [.ref x] ((x, instObj 118 dx) :: (dx, consD w t1 t2 (.ref y) cdr) :: [(y, instObj 161 dy), (dy, oy)]) news (fun r nw => (∃ t, r = .str (Str.ofString "") t) ∧ nw = news) NoExc := by
  unfold Does
  k_fill
  intro dp un gd env outer A₀ base h₀ L m mg mb mean s R B F X N T G hf hk hd hu hret hexc
  k_dflt k_enter
  k_steps
  exact hret _ _ _ _ (by assumption) (by assumption) ⟨⟨_, rfl⟩, rfl⟩
end
section
local macro_rules | `(tactic| walk_at "pyIter ref") => `(tactic| ((with_reducible show wpAny _ _ (pyIter (Value.ref _)) (fun it s₂ => LoopAtV _ _ _ _ _ _ _ _ _ it s₂) _ _); k_dflt ((rename Fr _ _ _ _ => lF'); (rename News _ _ _ _ => lN'); (refine range_search (by rfl) (by assumption) (by rfl) (by omega) lF' lN' (fun u' h' tk' F' N' => ?_) (fun i' u' t' h' tk' I' o' hi' l1 off9 F' N' => ?_)); (all_goals (try clear lF' lN')); (all_goals (try k_lt l1)))))
local macro_rules | `(tactic| walk_at "subscriptTail Name Name ref int") => `(tactic| ((with_reducible show wpAny _ _ (subscriptTail _ _ (Value.ref _) (Value.int _ _)) _ _ _); k_dflt ((have hx9 := ar_item (by assumption) (by assumption) (by assumption)); obtain ⟨p9, hp9, hx9, hne9, hcl9⟩ := hx9; (with_unfolding_all refine' item_listL ?k1 ?k2 ?k3 hx9 ?_ ?k6 ?k7; (case k1 => exact News.isList (by k_asm) (by k_mem)); (case k2 => omega); (case k3 => omega); (case k6 => with_unfolding_all rfl); (case k7 => (intro _; with_unfolding_all rfl)); k_whole))))
local macro_rules | `(tactic| kto_obj) => `(tactic| (rename (∀ p ∈ _, p ∈ _) => hs9; exact get_base (by k_asm) (by k_asm) (hs9 _ (by assumption))))
local macro_rules | `(tactic| kto_not) => `(tactic| assumption)
local macro_rules | `(tactic| walk_at "call ref") => `(tactic| ((with_reducible show wpAny _ _ (call (Value.ref 376) [Value.ref _]) _ _ _); k_dflt ((rename ∀ n, Does _ _ 376 _ _ n _ _ => sq9); ktr_call (sq9 _) 0; (intro r9 h9 tk9 nw9 F' N' hr9; obtain ⟨⟨t9, hv9⟩, hn9⟩ := hr9; subst hv9; subst hn9); (try dsimp only); (try k_sweep))))
section
theorem do_whole_cons (w : World) (a : PA) (x dx : Addr) (car cdr : Value) (t1 t2 : Tok) (us js : List Value) (n1 n2 n3 : Nat) (tl ars lq : List (Addr × Obj)) (hA : Apart a tl) (hx : @Ne Nat x 97)
   (z2 : us.length ≤ 4000000) (z3 : js.length ≤ 100000) (z4 : ars.length < 200) (hcar : handedIn car = true) (hcdr : handedIn cdr = true)
   (har : ∀ p ∈ ars, @Ne Nat p.1 x ∧ p.2.cls ≠ .type "tuple")
   (SQ : ∀ news, Does w 5 376 [.ref x] (prB w a ((x, instObj 118 dx) :: (dx, consD w t1 t2 car cdr) :: (lq ++ ars))) news (fun r nw => (∃ t, r = .str (Str.ofString "") t) ∧ nw = news) NoExc) :
    Does w 15 418 [.ref a.pr, .ref x] (prB w a ((x, instObj 118 dx) :: (dx, consD w t1 t2 car cdr) :: (lq ++ ars))) (led a us js (ars.map fun p => .ref p.1) n1 n2 n3 tl)
      (fun r nw => r = .none ∧ ∃ c d t u n1' n2' n3', (∀ p ∈ led a (us ++ [.int 40 u]) (js ++ [.ref c] ++ [.ref d]) ((ars.map fun p => .ref p.1) ++ [.ref x]) n1' n2' n3' ((d, tupOf [.int 2 626, .ref x, .int 0 t, .ref x]) :: (c, tupOf [.int 4 630, .none]) :: tl), p ∈ nw) ∧ Apart a ((d, tupOf [.int 2 626, .ref x, .int 0 t, .ref x]) :: (c, tupOf [.int 4 630, .none]) :: tl)) NoExc := by
  unfold Does
  k_fill
  intro dp un gd env outer A₀ base h₀ L m mg mb mean s R B F X N T G hf hk hd hu hret hexc
  obtain ⟨h1, h2, h3, h4⟩ := hA
  k_dflt k_enter
  have z9 : (ars.map fun p : Addr × Obj => Value.ref p.1).length < 200 := by simpa using z4
  have hsub : ∀ p ∈ ars, p ∈ prB w a ((x, instObj 118 dx) :: (dx, consD w t1 t2 car cdr) :: (lq ++ ars)) := by intro p hp; simp [hp]
  generalize hrs : (ars.map fun p : Addr × Obj => Value.ref p.1) = rs at *
  k_steps
  · exact hret _ _ _ _ (by assumption) (by assumption) ⟨rfl, _, _, _, _, _, _, _, by tb_start, ⟨h1, h2, h3, off_cons (by omega) (by omega) (by omega) (off_cons (by omega) (by omega) (by omega) h4)⟩⟩
  · exact UnrEnd.intro (by assumption) (by assumption) _ (fun p hp => hp) (by assumption) ⟨rfl, fold_name⟩
end
section
theorem do_whole_vec (w : World) (a : PA) (x dx thl : Addr) (t1 : Tok) (us js : List Value) (n1 n2 n3 : Nat) (tl ars : List (Addr × Obj)) (hA : Apart a tl) (hx : @Ne Nat x 97)
   (z2 : us.length ≤ 4000000) (z3 : js.length ≤ 100000) (z4 : ars.length < 200)
   (har : ∀ p ∈ ars, @Ne Nat p.1 x ∧ p.2.cls ≠ .type "tuple") :
    Does w 15 418 [.ref a.pr, .ref x] (prB w a ((x, instObj 161 dx) :: (dx, vecD w t1 thl) :: ars)) (led a us js (ars.map fun p => .ref p.1) n1 n2 n3 tl)
      (fun r nw => r = .none ∧ ∃ c d t u n1' n2' n3', (∀ p ∈ led a (us ++ [.int 91 u]) (js ++ [.ref c] ++ [.ref d]) ((ars.map fun p => .ref p.1) ++ [.ref x]) n1' n2' n3' ((d, tupOf [.int 3 628, .ref thl, .int 0 t]) :: (c, tupOf [.int 4 630, .none]) :: tl), p ∈ nw) ∧ Apart a ((d, tupOf [.int 3 628, .ref thl, .int 0 t]) :: (c, tupOf [.int 4 630, .none]) :: tl)) NoExc := by
  unfold Does
  k_fill
  intro dp un gd env outer A₀ base h₀ L m mg mb mean s R B F X N T G hf hk hd hu hret hexc
  obtain ⟨h1, h2, h3, h4⟩ := hA
  k_dflt k_enter
  have z9 : (ars.map fun p : Addr × Obj => Value.ref p.1).length < 200 := by simpa using z4
  have hsub : ∀ p ∈ ars, p ∈ prB w a ((x, instObj 161 dx) :: (dx, vecD w t1 thl) :: ars) := by intro p hp; simp [hp]
  generalize hrs : (ars.map fun p : Addr × Obj => Value.ref p.1) = rs at *
  k_steps
  · exact hret _ _ _ _ (by assumption) (by assumption) ⟨rfl, _, _, _, _, _, _, _, by tb_start, ⟨h1, h2, h3, off_cons (by omega) (by omega) (by omega) (off_cons (by omega) (by omega) (by omega) h4)⟩⟩
  · exact UnrEnd.intro (by assumption) (by assumption) _ (fun p hp => hp) (by assumption) ⟨rfl, fold_name⟩
end
section
local macro_rules | `(tactic| walk_at "subscriptTail Name Name ref int") => `(tactic| ((with_reducible show wpAny _ _ (subscriptTail _ _ (Value.ref _) (Value.int _ _)) _ _ _); k_dflt ((with_unfolding_all refine' item_listL ?k1 ?k2 ?k3 ?k4 ?_ ?k6 ?k7; (case k1 => exact News.isList (by k_asm) (by k_mem)); (case k2 => omega); (case k3 => omega); (case k4 => rfl); (case k6 => with_unfolding_all rfl); (case k7 => (intro _; with_unfolding_all rfl)); k_whole))))
section
local macro_rules | `(tactic| walk_at "pyIter ref") => `(tactic| ((with_reducible show wpAny _ _ (pyIter (Value.ref _)) (fun it s₂ => LoopAtV _ _ _ _ _ _ _ _ _ it s₂) _ _); k_dflt ((rename Fr _ _ _ _ => lF'); (rename News _ _ _ _ => lN'); (refine range_upto 0 (n := List.length _) ?hc (by rfl) (by assumption) (by rfl) ?hn lF' lN' (fun i' u' t' h' tk' I' o' hi' l1 off9 F' N' => ?_) (fun u' t' h' tk' I' o' l1 off9 F' N' => ?_)); (case hc => simp only [List.length_cons]; omega); (case hn => simp only [List.length_cons]; omega); (first | (exfalso; omega) | ((have hz9 : i' = 0 := by omega); subst hz9)); (all_goals (try clear lF' lN')); (all_goals (try k_lt l1)))))
theorem do_whole_found0 (w : World) (a : PA) (x dx : Addr) (ox : Obj) (us js rs : List Value) (n1 n2 n3 : Nat) (tl : List (Addr × Obj)) (hA : Apart a tl) (hx : @Ne Nat x 97)
   (z2 : us.length ≤ 4000000) (z3 : js.length ≤ 100000) (z4 : rs.length < 199) :
    Does w 15 418 [.ref a.pr, .ref x] (prB w a [(x, instObj 118 dx), (dx, ox)]) (led a us js (.ref x :: rs) n1 n2 n3 tl)
      (fun r nw => r = .none ∧ ∃ t u n1', ∀ p ∈ led a (us ++ [.int 35 t, .int 48 u]) js (.ref x :: rs) n1' n2 n3 tl, p ∈ nw) NoExc := by
  unfold Does
  k_fill
  intro dp un gd env outer A₀ base h₀ L m mg mb mean s R B F X N T G hf hk hd hu hret hexc
  obtain ⟨h1, h2, h3, h4⟩ := hA
  k_dflt k_enter
  have z9 : (Value.ref x :: rs).length < 200 := by simp; omega
  k_steps
  exact hret _ _ _ _ (by assumption) (by assumption) ⟨rfl, _, _, _, by tb_start⟩
end
section
local macro_rules | `(tactic| walk_at "none such 1") => `(tactic| skip)
local macro_rules | `(tactic| walk_at "pyIter ref") => `(tactic| ((with_reducible show wpAny _ _ (pyIter (Value.ref _)) (fun it s₂ => LoopAtV _ _ _ _ _ _ _ _ _ it s₂) _ _); k_dflt ((rename Fr _ _ _ _ => lF'); (rename News _ _ _ _ => lN'); (refine range_second (n := List.length _) ?hc (by rfl) (by assumption) (by rfl) ?hn lF' lN' (fun u' t' h' tk' I' o' l1 off9 F' N' => ?_) (fun u' t' h' tk' I' o' l1 off9 F' N' => ?_)); (case hc => simp only [List.length_cons]; omega); (case hn => simp only [List.length_cons]; omega); (all_goals (try clear lF' lN')); (all_goals (try k_lt l1)))))
theorem do_whole_found1 (w : World) (a : PA) (x dx y dy : Addr) (ox : Obj) (us js rs : List Value) (n1 n2 n3 : Nat) (tl : List (Addr × Obj)) (hA : Apart a tl) (hx : @Ne Nat x 97) (hyx : @Ne Nat y x)
   (z2 : us.length ≤ 4000000) (z3 : js.length ≤ 100000) (z4 : rs.length < 198) :
    Does w 15 418 [.ref a.pr, .ref x] (prB w a [(x, instObj 118 dx), (dx, ox), (y, instObj 118 dy)]) (led a us js (.ref y :: .ref x :: rs) n1 n2 n3 tl)
      (fun r nw => r = .none ∧ ∃ t u n1', ∀ p ∈ led a (us ++ [.int 35 t, .int 49 u]) js (.ref y :: .ref x :: rs) n1' n2 n3 tl, p ∈ nw) NoExc := by
  unfold Does
  k_fill
  intro dp un gd env outer A₀ base h₀ L m mg mb mean s R B F X N T G hf hk hd hu hret hexc
  obtain ⟨h1, h2, h3, h4⟩ := hA
  k_dflt k_enter
  have z9 : (Value.ref y :: Value.ref x :: rs).length < 200 := by simp; omega
  k_steps
  · exact UnrEnd.intro (by assumption) (by assumption) _ (fun p hp => hp) (by assumption) ⟨rfl, fold_name⟩
  · exact hret _ _ _ _ (by assumption) (by assumption) ⟨rfl, _, _, _, by tb_start⟩
end
end
section
noncomputable abbrev sigD (w : World) (t1 t2 t3 : Tok) (dv : Value) : Obj := dictOf [en w "symbol" t1 (.str (Str.ofString "error") t2), en w "data" t3 dv] 2
/-- a def of the text, called: what it leaves, or the text's own exception -/
def DoesX (w : World) (D : Nat) (f : Addr) (vs : List Value) (lb news : List (Addr × Obj)) (Ret : Value → List (Addr × Obj) → Prop) (may : Prop) : Prop :=
  ∀ (dp un : Nat) (gd : Option (List Code)) (env : Env) (outer : List Env) (A₀ : Around) (base h₀ : Heap) (L : Addr) (m mg mb : Str → Option Value) (mean : ExcName → Option Value) (s : Shared) (R : Result → Shared → Prop),
    Below A₀ base outer h₀ → Fr h₀ L s.heap m → (grab.heap_1 w.params).In h₀ → News h₀ L s.heap news → Top view (looseW view loose) mean mg mb h₀ → BaseIs h₀ lb → env.frame = some L → env.scope.kind = .function → dp + D ≤ 900 → un + 20 * D ≤ 7000 →
    (∀ r h' tk' news', Fr h₀ L h' m → News h₀ L h' news' → Ret r news' → R (.ok (.ret r)) { s with heap := h', toks := tk' }) →
    (may → ∀ e d t1 t2 t3 dv h' tk' G, Fr h₀ L G m → RaisedQ base G (env :: outer) e d [(d, sigD w t1 t2 t3 dv)] h' → G.UpToSlots h' → R (.error (.ref e)) { s with heap := h', toks := tk' }) →
    codeAny (model PySem.Challenge.rw_pq0287_01.row.prog w) (AT dp un gd env outer) (.call (.ref f) ⟨vs, []⟩) R s
theorem Does.toX {w : World} {D : Nat} {f : Addr} {vs : List Value} {lb news : List (Addr × Obj)} {Ret : Value → List (Addr × Obj) → Prop} (H : Does w D f vs lb news Ret NoExc) (may : Prop) : DoesX w D f vs lb news Ret may :=
  fun dp un gd env outer A₀ base h₀ L m mg mb mean s R B F X N T G hf hk hd hu hret _ => H dp un gd env outer A₀ base h₀ L m mg mb mean s R B F X N T G hf hk hd hu hret fun _ _ _ _ _ _ q => q.elim
theorem DoesX.use {w : World} {D : Nat} {f : Addr} {vs : List Value} {lb news : List (Addr × Obj)} {Ret : Value → List (Addr × Obj) → Prop} {may : Prop} (H : DoesX w D f vs lb news Ret may)
    {dp un : Nat} {gd : Option (List Code)} {env : Env} {outer : List Env} {A₀ : Around} {base h₀ : Heap} {L : Addr} {m mg mb : Str → Option Value} {mean : ExcName → Option Value} {s : Shared} {Q E : Value → Shared → Prop}
    (B : Below A₀ base outer h₀) (F : Fr h₀ L s.heap m) (X : (grab.heap_1 w.params).In h₀) (N : News h₀ L s.heap news) (T : Top view (looseW view loose) mean mg mb h₀) (G : BaseIs h₀ lb) (hf : env.frame = some L) (hk : env.scope.kind = .function) (hd : dp + D ≤ 900) (hu : un + 20 * D ≤ 7000)
    (ret : ∀ r h' tk' news', Fr h₀ L h' m → News h₀ L h' news' → Ret r news' → Q r { s with heap := h', toks := tk' })
    (exc : may → ∀ e d t1 t2 t3 dv h' tk' G, Fr h₀ L G m → RaisedQ base G (env :: outer) e d [(d, sigD w t1 t2 t3 dv)] h' → G.UpToSlots h' → E (.ref e) { s with heap := h', toks := tk' }) :
    wpAny (model PySem.Challenge.rw_pq0287_01.row.prog w) (AT dp un gd env outer) (call (.ref f) vs) Q E s :=
  wpAny_call (H _ _ _ _ _ _ _ _ _ _ _ _ _ _ _ B F X N T G hf hk hd hu ret exc)
section
local macro_rules | `(tactic| walk_at "none such 2") => `(tactic| skip)
local macro_rules | `(tactic| walk_at "exec Raise some none") => `(tactic| (k_dflt (refine raise_own rfl ?_)))
local macro_rules | `(tactic| walk_at "call ref") => `(tactic| ((with_reducible show wpAny _ _ (call (Value.ref 38) _) _ _ _); k_dflt ((refine wpAny_call ?_); (refine' call_init PySem.F.excBase_Exception ?F ?N ?X ?hk ?hi ?hf ?hr ?_; (case F => k_asm); (case N => k_asm); (case X => k_asm); (case hk => k_is); (case hi => k_is); (case hf => k_is); (case hr => kl_room)); (intro e9 t9 h9 F9 N9 l9); (try k_lt l9); (try k_sweep); k_enter)))
local macro_rules | `(tactic| walk_at "setAttr ref") => `(tactic| (k_dflt (first
  | ((refine' set_exc_first (K := grab.heap_1 _) ?F ?X ?N ?ne ?hs refuse_exc ?hc ?hm ?hh ?ho ?ht ?_; (case F => k_asm); (case X => k_asm); (case N => k_asm); (case ne => k_all); (case hs => k_is); (case hc => k_is); (case hm => exact rfl); (case hh => exact rfl); (case ho => k_is); (case ht => k_is)); (intro D' h' F' N' l1); (try k_lt l1); (try k_sweep))
  | ((refine' set_exc_next (K := grab.heap_1 _) ?F ?X ?N ?ne ?xd ?hs refuse_exc ?hc ?hm ?hh ?ho ?ht ?hl ?hz ?ep ?_; (case F => k_asm); (case X => k_asm); (case N => k_asm); (case ne => k_all); (case xd => k_ne); (case hs => k_is); (case hc => k_is); (case hm => exact rfl); (case hh => exact rfl); (case ho => k_is); (case ht => k_is); (case hl => k_get); (case hz => exact Nat.le_of_ble_eq_true rfl); (case ep => k_put)); (intro h' F' N'); (try k_sweep))); walk_say "SET"))
theorem do_whole_raise (w : World) (a : PA) (x dx : Addr) (ox : Obj) (us js rs : List Value) (n1 n2 n3 : Nat) (tl : List (Addr × Obj)) (hA : Apart a tl) (hx : @Ne Nat x 97)
   (z2 : us.length ≤ 4000000) (z3 : js.length ≤ 100000) (z4 : 200 ≤ rs.length) (z5 : rs.length ≤ 1000) :
    DoesX w 15 418 [.ref a.pr, .ref x] (prB w a [(x, instObj 118 dx), (dx, ox)]) (led a us js rs n1 n2 n3 tl)
      (fun r nw => False) True := by
  unfold DoesX
  k_fill
  intro dp un gd env outer A₀ base h₀ L m mg mb mean s R B F X N T G hf hk hd hu hret hexc
  obtain ⟨h1, h2, h3, h4⟩ := hA
  k_dflt k_enter
  (rename Below _ _ _ _ => hB1); (rename Fr h₀ L _ m => hG1); (rename Frag.In _ _ => hX1)
  k_steps
  (rename News _ _ _ _ => kN); (rename Fr _ _ _ _ => kF)
  refine' RaisE.intro ?hC ?hb (kN _ (.tail _ (.head _))).1 ?_
  case hC => exact hX1.keeps kF.keep _ _ (by k_is)
  case hb => rfl
  k_dflt (exact leave_firstQ hB1 kF kN (.tail _ (.head _)) (head_only (by k_ne)) rfl rfl rfl rfl rfl (fun h' hR hU => hexc trivial _ _ _ _ _ _ _ _ _ hG1 hR hU))
theorem do_whole_raise_vec (w : World) (a : PA) (x dx : Addr) (ox : Obj) (us js rs : List Value) (n1 n2 n3 : Nat) (tl : List (Addr × Obj)) (hA : Apart a tl) (hx : @Ne Nat x 97)
   (z2 : us.length ≤ 4000000) (z3 : js.length ≤ 100000) (z4 : 200 ≤ rs.length) (z5 : rs.length ≤ 1000) :
    DoesX w 15 418 [.ref a.pr, .ref x] (prB w a [(x, instObj 161 dx), (dx, ox)]) (led a us js rs n1 n2 n3 tl)
      (fun r nw => False) True := by
  unfold DoesX
  k_fill
  intro dp un gd env outer A₀ base h₀ L m mg mb mean s R B F X N T G hf hk hd hu hret hexc
  obtain ⟨h1, h2, h3, h4⟩ := hA
  k_dflt k_enter
  (rename Below _ _ _ _ => hB1); (rename Fr h₀ L _ m => hG1); (rename Frag.In _ _ => hX1)
  k_steps
  (rename News _ _ _ _ => kN); (rename Fr _ _ _ _ => kF)
  refine' RaisE.intro ?hC ?hb (kN _ (.tail _ (.head _))).1 ?_
  case hC => exact hX1.keeps kF.keep _ _ (by k_is)
  case hb => rfl
  k_dflt (exact leave_firstQ hB1 kF kN (.tail _ (.head _)) (head_only (by k_ne)) rfl rfl rfl rfl rfl (fun h' hR hU => hexc trivial _ _ _ _ _ _ _ _ _ hG1 hR hU))
end
end
end
section
section
local macro_rules | `(tactic| walk_at "call ref") => `(tactic| ((with_reducible show wpAny _ _ (call (Value.ref 418) [Value.ref _, Value.ref _]) _ _ _); k_dflt (refine' DoesX.use (by assumption) ?B ?F ?X ?N ?T ?G ?hf ?hk ?hd ?hu ?_ ?_; (case B => k_asm); (case F => k_asm); (case X => k_asm); (case N => k_asm); (case T => k_asm); (case G => k_asm); (case hf => first | exact rfl | assumption); (case hk => first | exact rfl | assumption); (case hd => (try simp only [depth_in1, depth_deeper]); omega); (case hu => (try simp only [units_in1, units_deeper]); omega)); (intros)))
theorem do_datum_cons (w : World) (a : PA) (x dx : Addr) (ox : Obj) (lb news : List (Addr × Obj)) (Ret : Value → List (Addr × Obj) → Prop) (may : Prop) (hRet : ∀ r nw, Ret r nw → Ret .none nw)
   (H : DoesX w 15 418 [.ref a.pr, .ref x] (prB w a ((x, instObj 118 dx) :: (dx, ox) :: lb)) news Ret may) :
    DoesX w 20 404 [.ref a.pr, .ref x] (prB w a ((x, instObj 118 dx) :: (dx, ox) :: lb)) news Ret may := by
  unfold DoesX
  k_fill
  intro dp un gd env outer A₀ base h₀ L m mg mb mean s R B F X N T G hf hk hd hu hret hexc
  k_dflt k_enter
  (rename Below _ _ _ _ => hB1); (rename Fr h₀ L _ m => hG1); (rename Frag.In _ _ => hX1)
  k_steps
  · exact hret _ _ _ _ (by assumption) (by assumption) (hRet _ _ (by assumption))
  · k_dflt (exact leave_onQ hB1 (by assumption) (by assumption) (by assumption) (fun h' hR hU => hexc (by assumption) _ _ _ _ _ _ _ _ _ hG1 hR hU))
theorem do_datum_vec (w : World) (a : PA) (x dx : Addr) (ox : Obj) (lb news : List (Addr × Obj)) (Ret : Value → List (Addr × Obj) → Prop) (may : Prop) (hRet : ∀ r nw, Ret r nw → Ret .none nw)
   (H : DoesX w 15 418 [.ref a.pr, .ref x] (prB w a ((x, instObj 161 dx) :: (dx, ox) :: lb)) news Ret may) :
    DoesX w 20 404 [.ref a.pr, .ref x] (prB w a ((x, instObj 161 dx) :: (dx, ox) :: lb)) news Ret may := by
  unfold DoesX
  k_fill
  intro dp un gd env outer A₀ base h₀ L m mg mb mean s R B F X N T G hf hk hd hu hret hexc
  k_dflt k_enter
  (rename Below _ _ _ _ => hB1); (rename Fr h₀ L _ m => hG1); (rename Frag.In _ _ => hX1)
  k_steps
  · exact hret _ _ _ _ (by assumption) (by assumption) (hRet _ _ (by assumption))
  · k_dflt (exact leave_onQ hB1 (by assumption) (by assumption) (by assumption) (fun h' hR hU => hexc (by assumption) _ _ _ _ _ _ _ _ _ hG1 hR hU))
end
end
end
section
/-- what the printer has still to do -/
inductive Job where
  | datum (v : Value)
  | row (at_ : Value) (place : Int) (half : Value)
  | cells (things : Addr) (place : Int)
  | left
inductive JobIs : List Value → Job → Prop
  | datum (v : Value) : JobIs [.int 0 622, v] (.datum v)
  | row (at_ : Value) (k : Int) (t : Tok) (half : Value) : JobIs [.int 2 626, at_, .int k t, half] (.row at_ k half)
  | cells (thl : Addr) (k : Int) (t : Tok) : JobIs [.int 3 628, .ref thl, .int k t] (.cells thl k)
  | left : JobIs [.int 4 630, .none] .left
/-- the list of jobs in the heap; the top stands last there, first here -/
inductive JobsAre (tl : List (Addr × Obj)) : List Value → List Job → Prop
  | nil : JobsAre tl [] []
  | snoc {js : List Value} {J : List Job} {c : Addr} {vs : List Value} {j : Job} : JobsAre tl js J → (c, tupOf vs) ∈ tl → JobIs vs j → JobsAre tl (js ++ [.ref c]) (j :: J)
theorem JobsAre.mono {tl tl' : List (Addr × Obj)} {js : List Value} {J : List Job} (h : JobsAre tl js J) (hs : ∀ p ∈ tl, p ∈ tl') : JobsAre tl' js J := by
  induction h with
  | nil => exact .nil
  | snoc _ hm hi ih => exact .snoc ih (hs _ hm) hi
theorem JobsAre.append {tl : List (Addr × Obj)} {js js' : List Value} {J J' : List Job} (h : JobsAre tl js J) (h' : JobsAre tl js' J') : JobsAre tl (js ++ js') (J' ++ J) := by
  induction h' with
  | nil => simpa using h
  | snoc _ hm hi ih => rw [← List.append_assoc]; exact .snoc ih hm hi
theorem JobsAre.length {tl : List (Addr × Obj)} {js : List Value} {J : List Job} (h : JobsAre tl js J) : js.length = J.length := by
  induction h with
  | nil => rfl
  | snoc _ _ _ ih => simp [ih]
abbrev refs (ar : List Addr) : List Value := ar.map Value.ref
/-- a method of the printer, called: the jobs it lays on top, the codes and the data around behind it -/
def Eff (w : World) (a : PA) (lb : List (Addr × Obj)) (f : Addr) (args : List Value) (cs : List Int) (ar : List Addr) (may : Prop) (out : Option (List Job × List Int × List Addr)) : Prop :=
  ∀ us js n1 n2 n3 tl, IntsAre us cs → Apart a tl → us.length ≤ 1000000 → js.length ≤ 90000 → ar.length ≤ 200 →
    DoesX w 20 f (.ref a.pr :: args) lb (led a us js (refs ar) n1 n2 n3 tl)
      (fun r nw => r = .none ∧ ∃ dJ cs' ar' us' cjs ntl n1' n2' n3', out = some (dJ, cs', ar') ∧ IntsAre us' cs' ∧ JobsAre ntl cjs dJ ∧ (∀ p ∈ led a us' (js ++ cjs) (refs ar') n1' n2' n3' (ntl ++ tl), p ∈ nw) ∧ Apart a (ntl ++ tl)) may
structure Small (cs : List Int) (J : List Job) (ar : List Addr) : Prop where
  c : cs.length ≤ 100000
  j : J.length ≤ 10000
  a : ar.length ≤ 200
/-- the printer at work, by the effects of its methods -/
inductive Run (w : World) (a : PA) (lb : List (Addr × Obj)) : List Job → List Int → List Addr → Option (List Int) → Prop
  | done {cs : List Int} : Small cs [] [] → Run w a lb [] cs [] (some cs)
  | datum {v : Value} {J dJ : List Job} {cs cs' : List Int} {ar ar' : List Addr} {r : Option (List Int)} : Eff w a lb 404 [v] cs ar False (some (dJ, cs', ar')) → Small cs J ar → Run w a lb (dJ ++ J) cs' ar' r → Run w a lb (.datum v :: J) cs ar r
  | raises {v : Value} {J : List Job} {cs : List Int} {ar : List Addr} : Eff w a lb 404 [v] cs ar True none → Small cs J ar → Run w a lb (.datum v :: J) cs ar none
  | row {x half : Value} {k : Int} {J dJ : List Job} {cs cs' : List Int} {ar ar' : List Addr} {r : Option (List Int)} : (∀ t, Eff w a lb 432 [x, .int k t, half] cs ar False (some (dJ, cs', ar'))) → Small cs J ar → Run w a lb (dJ ++ J) cs' ar' r → Run w a lb (.row x k half :: J) cs ar r
  | cells {thl : Addr} {k : Int} {J dJ : List Job} {cs cs' : List Int} {ar ar' : List Addr} {r : Option (List Int)} : (∀ t, Eff w a lb 446 [.ref thl, .int k t] cs ar False (some (dJ, cs', ar'))) → Small cs J ar → Run w a lb (dJ ++ J) cs' ar' r → Run w a lb (.cells thl k :: J) cs ar r
  | left {x : Addr} {J : List Job} {cs : List Int} {ar : List Addr} {r : Option (List Int)} : Small cs J ar → Run w a lb J cs ar r → Run w a lb (.left :: J) cs (ar ++ [x]) r
def Hold (P : Prop) : Prop := P
theorem Hold.out {P : Prop} (h : Hold P) : P := h
theorem held250 {M : Model} {A : Around} {E : Value → Shared → Prop} {s : Shared} {vs : List Value} {Q : Value → Shared → Prop} (h : Hold (wpAny M A (call (.ref 250) vs) Q E s)) : wpAny M A (call (.ref 250) vs) Q E s := h
theorem held397 {M : Model} {A : Around} {E : Value → Shared → Prop} {s : Shared} {vs : List Value} {Q : Value → Shared → Prop} (h : Hold (wpAny M A (call (.ref 397) vs) Q E s)) : wpAny M A (call (.ref 397) vs) Q E s := h
theorem held460 {M : Model} {A : Around} {E : Value → Shared → Prop} {s : Shared} {vs : List Value} {Q : Value → Shared → Prop} (h : Hold (wpAny M A (call (.ref 460) vs) Q E s)) : wpAny M A (call (.ref 460) vs) Q E s := h
theorem held467 {M : Model} {A : Around} {E : Value → Shared → Prop} {s : Shared} {vs : List Value} {Q : Value → Shared → Prop} (h : Hold (wpAny M A (call (.ref 467) vs) Q E s)) : wpAny M A (call (.ref 467) vs) Q E s := h
theorem held549 {M : Model} {A : Around} {E : Value → Shared → Prop} {s : Shared} {vs : List Value} {Q : Value → Shared → Prop} (h : Hold (wpAny M A (call (.ref 549) vs) Q E s)) : wpAny M A (call (.ref 549) vs) Q E s := h
theorem held556 {M : Model} {A : Around} {E : Value → Shared → Prop} {s : Shared} {vs : List Value} {Q : Value → Shared → Prop} (h : Hold (wpAny M A (call (.ref 556) vs) Q E s)) : wpAny M A (call (.ref 556) vs) Q E s := h
theorem held568 {M : Model} {A : Around} {E : Value → Shared → Prop} {s : Shared} {vs : List Value} {Q : Value → Shared → Prop} (h : Hold (wpAny M A (call (.ref 568) vs) Q E s)) : wpAny M A (call (.ref 568) vs) Q E s := h
/-- the state between two turns of the printer's loop -/
def LoopSt (a : PA) (g : Heap) (L : Addr) (m₀ : Str → Option Value) (J : List Job) (cs : List Int) (ar : List Addr) (h : Heap) : Prop :=
  ∃ us js n1 n2 n3 tl, ∃ u : Str → Option Value, IntsAre us cs ∧ JobsAre tl js J ∧ Apart a tl ∧ Fr g L h (fun y => if y = Str.ofString "job" then u y else m₀ y) ∧ News g L h (led a us js (refs ar) n1 n2 n3 tl)
theorem machine_loop {w : World} {a : PA} {lb : List (Addr × Obj)} {g : Heap} {L : Addr} {m₀ : Str → Option Value} {Wh : Heap → Nat → Prop} {r : Option (List Int)}
    (oDone : ∀ cs h tk, Small cs [] [] → LoopSt a g L m₀ [] cs [] h → r = some cs → Wh h tk)
    (oDatum : ∀ v J cs ar may out h tk, Eff w a lb 404 [v] cs ar may out → Small cs J ar → (may → r = none) → (∀ dJ cs' ar' h' tk', out = some (dJ, cs', ar') → LoopSt a g L m₀ (dJ ++ J) cs' ar' h' → Wh h' tk') → LoopSt a g L m₀ (.datum v :: J) cs ar h → Wh h tk)
    (oRow : ∀ x k half J cs ar out h tk, (∀ t, Eff w a lb 432 [x, .int k t, half] cs ar False out) → Small cs J ar → (∀ dJ cs' ar' h' tk', out = some (dJ, cs', ar') → LoopSt a g L m₀ (dJ ++ J) cs' ar' h' → Wh h' tk') → LoopSt a g L m₀ (.row x k half :: J) cs ar h → Wh h tk)
    (oCells : ∀ thl k J cs ar out h tk, (∀ t, Eff w a lb 446 [.ref thl, .int k t] cs ar False out) → Small cs J ar → (∀ dJ cs' ar' h' tk', out = some (dJ, cs', ar') → LoopSt a g L m₀ (dJ ++ J) cs' ar' h' → Wh h' tk') → LoopSt a g L m₀ (.cells thl k :: J) cs ar h → Wh h tk)
    (oLeft : ∀ x J cs ar h tk, Small cs J ar → (∀ h' tk', LoopSt a g L m₀ J cs ar h' → Wh h' tk') → LoopSt a g L m₀ (.left :: J) cs (ar ++ [x]) h → Wh h tk)
    {J : List Job} {cs : List Int} {ar : List Addr} {r' : Option (List Int)} (hrun : Run w a lb J cs ar r') : r' = r → ∀ h tk, LoopSt a g L m₀ J cs ar h → Wh h tk := by
  induction hrun with
  | done z => intro e h tk st; exact oDone _ h tk z st e.symm
  | datum hE z _ ih =>
    intro e h tk st
    refine oDatum _ _ _ _ _ _ h tk hE z (fun q => q.elim) (fun dJ cs' ar' h' tk' q st' => ?_) st
    cases q
    exact ih e h' tk' st'
  | raises hE z => intro e h tk st; exact oDatum _ _ _ _ _ _ h tk hE z (fun _ => e.symm) (fun _ _ _ _ _ q => nomatch q) st
  | row hE z _ ih =>
    intro e h tk st
    refine oRow _ _ _ _ _ _ _ h tk hE z (fun dJ cs' ar' h' tk' q st' => ?_) st
    cases q
    exact ih e h' tk' st'
  | cells hE z _ ih =>
    intro e h tk st
    refine oCells _ _ _ _ _ _ h tk hE z (fun dJ cs' ar' h' tk' q st' => ?_) st
    cases q
    exact ih e h' tk' st'
  | left z _ ih => intro e h tk st; exact oLeft _ _ _ _ h tk z (fun h' tk' st' => ih e h' tk' st') st
theorem hold_while {prog : Program} {w : World} {A : Around} {E : Value → Shared → Prop} {s : Shared} {env : Env} {test : PySem.Expr} {body orelse : List Stmt} {Q : Flow → Shared → Prop} {pos : Pos}
    (h : Hold (WhlRest prog w A E env test body orelse Q 0 s)) : wpAny (model prog w) A (exec (.While test body orelse pos) env) Q E s := whl_start 0 h
theorem led_sub {a : PA} {us js rs : List Value} {n1 n2 n3 : Nat} {tl tl' : List (Addr × Obj)} : True := trivial
theorem loopSt_start {a : PA} {g h : Heap} {L D : Addr} {m₀ : Str → Option Value} {v : Value} {n1 n2 n3 : Nat} {tl : List (Addr × Obj)} (F : Fr g L h m₀)
    (N : News g L h ((D, tupOf [.int 0 622, v]) :: (a.cl, listOf ([] : List Value).toArray n1) :: (a.jl, listOf ([] ++ [.ref D] : List Value).toArray n2) :: (a.al, listOf ([] : List Value).toArray n3) :: tl)) (hA : Apart a ((D, tupOf [.int 0 622, v]) :: tl)) :
    LoopSt a g L m₀ [.datum v] [] [] h :=
  ⟨[], [.ref D], n1, n2, n3, (D, tupOf [.int 0 622, v]) :: tl, m₀, .nil, .snoc .nil (.head _) (.datum v), hA, by rw [keep_name]; exact F, News.sub N fun p hp => by
    simp only [led, List.mem_cons] at hp ⊢
    rcases hp with hp | hp | hp | hp | hp
    · exact .inr (.inl hp)
    · exact .inr (.inr (.inl hp))
    · exact .inr (.inr (.inr (.inl hp)))
    · exact .inl hp
    · exact .inr (.inr (.inr (.inr hp)))⟩
theorem hold_turn {prog : Program} {w : World} {A : Around} {E : Value → Shared → Prop} {s : Shared} {env : Env} {test : PySem.Expr} {body orelse : List Stmt} {Q : Flow → Shared → Prop} (hE : PassesOwn (model prog w) A env E)
    (h : wpAny (model prog w) A (isTrue test env (eval test env)) (fun b s₂ => WhlIf b (wpAny (model prog w) A (execs body env) (WhlPost prog w A E env test body orelse Q 0) E s₂) (wpAny (model prog w) A (execs orelse env) Q E s₂)) E s) :
    Hold (WhlRest prog w A E env test body orelse Q 0 s) := whl_turn (k := 0) hE h
theorem loopSt_next {a : PA} {g h : Heap} {L : Addr} {m₀ u : Str → Option Value} {vv : Option Value} {J dJ : List Job} {cs' : List Int} {ar' : List Addr} {us' js cjs : List Value} {ntl tl nw : List (Addr × Obj)} {n1 n2 n3 : Nat}
    (F : Fr g L h (fun y => if y = Str.ofString "job" then vv else if y = Str.ofString "job" then u y else m₀ y)) (N : News g L h nw) (hi : IntsAre us' cs') (hj : JobsAre tl js J) (hj' : JobsAre ntl cjs dJ) (hs : ∀ p ∈ led a us' (js ++ cjs) (refs ar') n1 n2 n3 (ntl ++ tl), p ∈ nw) (hA : Apart a (ntl ++ tl)) :
    LoopSt a g L m₀ (dJ ++ J) cs' ar' h := by
  obtain ⟨u', e⟩ := fold_name (x := Str.ofString "job") (m₀ := m₀) (u := u) (v := vv)
  exact ⟨us', js ++ cjs, n1, n2, n3, ntl ++ tl, u', hi, JobsAre.append (hj.mono fun p hp => List.mem_append_right _ hp) (hj'.mono fun p hp => List.mem_append_left _ hp), hA, e ▸ F, News.sub N hs⟩
theorem item_tup4 {prog : Program} {w : World} {A : Around} {E : Value → Shared → Prop} {s : Shared} {g : Heap} {L : Addr} {value slice : Expr} {c : Addr} {vs : List Value} {nw : List (Addr × Obj)} {k : Int} {u : Tok} {x : Value} {Q : Value → Shared → Prop} (N : News g L s.heap nw) (hm : (c, tupOf vs) ∈ nw)
    (h0 : 0 ≤ k) (hfit : k < 2 ^ 63) (hx : vs[k.toNat]? = some x) (h : Q x s)
    (hs : subscripted slice false (.ref c) (.int k u) = operate [.ref c, .int k u] (getItem (.ref c) (.int k u)) := by with_unfolding_all rfl) (hg : ∀ r, letTemporaryGo value (.ref c) r = pure () := by intro _; with_unfolding_all rfl) :
    wpAny (model prog w) A (subscriptTail value slice (.ref c) (.int k u)) Q E s := by
  have hlt : k.toNat < vs.length := (List.getElem?_eq_some_iff.mp hx).1
  exact item_tuple (j := k.toNat) (N.isTup hm) (by omega) hfit (seqIndex_of h0 (by simp only [List.size_toArray]; omega)) (by simpa using hx) h hs hg
/-- what stands in a heap beside the ledger, and is only read -/
def HidIs (h : Heap) (news hid : List (Addr × Obj)) : Prop := ∀ p ∈ hid, h.get? p.1 = some p.2 ∧ p.1 ∉ news.map (·.1)
theorem HidIs.of_base {h₀ h : Heap} {L : Addr} {m : Str → Option Value} {news lb : List (Addr × Obj)} (F : Fr h₀ L h m) (N : News h₀ L h news) (G : BaseIs h₀ lb) : HidIs h news lb := fun p hp =>
  ⟨F.keep _ _ (G p hp), fun q => by
    obtain ⟨x, hx, e⟩ := List.mem_map.mp q
    have := (N x hx).2.2
    rw [show x.1 = p.1 from e, G p hp] at this
    cases this⟩
theorem HidIs.nil {h : Heap} {news : List (Addr × Obj)} : HidIs h news [] := fun _ hp => nomatch hp
theorem HidIs.cons {h₀ h : Heap} {L x : Addr} {o : Obj} {news full hid : List (Addr × Obj)} (N : News h₀ L h full) (hm : (x, o) ∈ full) (hn : x ∉ news.map (·.1)) (H : HidIs h news hid) : HidIs h news ((x, o) :: hid) := fun p hp => by
  rcases List.mem_cons.mp hp with rfl | hp
  · exact ⟨N.get hm, hn⟩
  · exact H p hp
theorem HidIs.sub {h : Heap} {news hid hid' : List (Addr × Obj)} (H : HidIs h news hid) (hs : ∀ p ∈ hid', p ∈ hid) : HidIs h news hid' := fun p hp => H p (hs p hp)
def Kept (hid : List (Addr × Obj)) (R : Result → Shared → Prop) (r : Result) (s' : Shared) : Prop := (∀ p ∈ hid, s'.heap.get? p.1 = some p.2) → R r s'
section
variable {prog : Program} {w : World} {A₀ A : Around} {s : Shared} {base h₀ : Heap} {L : Addr} {m : Str → Option Value} {news hid : List (Addr × Obj)} {K : Frag} {p : Program} {loose : List Str} {mean : ExcName → Option Value} {mg mb : Str → Option Value}
theorem code_defH {env : Env} {outer : List Env} {R : Result → Shared → Prop} {name qual : Str} {params : Arguments} {body : List Stmt} {scope : Scope} {dV kV doc pm cdv ct oc : Value} {an od : Option Addr} {osl : Array (Option Value)} {f : Addr} {args : Args} {binds : List (Str × Value)}
    (H : HidIs s.heap news hid) (B : Below A₀ base outer h₀) (F : Fr h₀ L s.heap m) (X₀ : K.In h₀) (N : News h₀ L s.heap news) (T : Top p loose mean mg mb h₀) (hA : A.frames = some (env :: outer)) (hf : env.frame = some L) (hke : env.scope.kind = .function)
    (ho : K.lookup f = some ⟨oc, od, .func (fnOf name qual params body scope dV kV doc pm an cdv ct), osl⟩) (hcd : codeIn K cdv qual = true) (hroom : A.depth < recursionLimit)
    (hbind : BindsTo s (fnOf name qual params body scope dV kV doc pm an cdv ct) args binds) (hloc : ∀ y ∈ binds, scope.names.lookup y.1 = some .local)
    (h : ∀ g L' h₁, Fr h₀ L g m → Fr g L' h₁ (fun y => binds.reverse.lookup y) → News g L' h₁ news → Below A base (env :: outer) g → K.In g → Top p loose mean mg mb g → BaseIs g hid →
      wpAny (model prog w) (A.deeper (envOf qual scope L' f cdv)) (execs body (envOf qual scope L' f cdv))
        (fun fl s' => LeaveK h₀ L m g (Kept hid R) (match fl with | .ret v => v | _ => .none) s')
        (fun e s' => wpAny (model prog w) (A.deeper (envOf qual scope L' f cdv)) (leaving (envOf qual scope L' f cdv) e) (fun _ s'' => R (.error e) s'') (fun e' s'' => R (.error e') s'') s')
        { s with heap := h₁, toks := s.toks + binds.length })
    (hco : scope.isCoroutine = false) (hgen : scope.isGenerator = false) (hk : scope.kind = .function)
    (hcell : ∀ x ∈ scope.names, x.2 ≠ .cell) : codeAny (model prog w) A (.call (.ref f) args) R s := by
  have ho' := (X₀.keeps F.keep) _ _ ho
  obtain ⟨FG, BG, st, lv⟩ := groundX (R := R) B F N hA hf hke
  have G : BaseIs (hideAll s.heap (news.map (·.1))) hid := fun q hq => hideAll_get _ (H q hq).1 (H q hq).2
  refine codeAny_call_def (fd := fnOf name qual params body scope dV kV doc pm an cdv ct) (body := body) (binds := binds) hroom ho' rfl (T.nolimit.keeps F.keep) (codeRec_of (X₀.keeps F.keep) hcd) rfl hbind hcell hloc (fun h₁ hns hk₁ => ?_) hco hgen hk
  refine wpAny_mono (h _ s.heap.objs.size h₁ FG ⟨hns, fun b o e => hk₁ b o (of_hideAll _ e), Nat.le_of_eq (hideAll_size _ _)⟩
    (fun p hp => ⟨hk₁ _ _ (N p hp).1, Nat.ne_of_lt (Heap.lt_size (N p hp).1), hideAll_none _ (List.mem_map_of_mem hp)⟩) BG (X₀.keeps st) (T.keeps st) G) (fun fl s' hl => lv _ _ ?_) fun _ _ y => y
  obtain ⟨L', m', news', F', N', k⟩ := hl
  exact ⟨L', m', news', F', N', fun f1 n1 => k f1 n1 (fun q hq => F'.keep _ _ (G q hq))⟩
end
/-- a def of the text, called, while more stands beside the ledger -/
def DoesH (w : World) (D : Nat) (f : Addr) (vs : List Value) (hid news : List (Addr × Obj)) (Ret : Value → List (Addr × Obj) → Prop) (may : Prop) : Prop :=
  ∀ (dp un : Nat) (gd : Option (List Code)) (env : Env) (outer : List Env) (A₀ : Around) (base h₀ : Heap) (L : Addr) (m mg mb : Str → Option Value) (mean : ExcName → Option Value) (s : Shared) (R : Result → Shared → Prop),
    Below A₀ base outer h₀ → Fr h₀ L s.heap m → (grab.heap_1 w.params).In h₀ → News h₀ L s.heap news → Top view (looseW view loose) mean mg mb h₀ → HidIs s.heap news hid → env.frame = some L → env.scope.kind = .function → dp + D ≤ 900 → un + 20 * D ≤ 7000 →
    (∀ r h' tk' news', Fr h₀ L h' m → News h₀ L h' news' → (∀ p ∈ hid, h'.get? p.1 = some p.2) → Ret r news' → R (.ok (.ret r)) { s with heap := h', toks := tk' }) →
    (may → ∀ e d t1 t2 t3 dv h' tk' G, Fr h₀ L G m → RaisedQ base G (env :: outer) e d [(d, sigD w t1 t2 t3 dv)] h' → G.UpToSlots h' → R (.error (.ref e)) { s with heap := h', toks := tk' }) →
    codeAny (model PySem.Challenge.rw_pq0287_01.row.prog w) (AT dp un gd env outer) (.call (.ref f) ⟨vs, []⟩) R s
theorem DoesH.use {w : World} {D : Nat} {f : Addr} {vs : List Value} {hid news : List (Addr × Obj)} {Ret : Value → List (Addr × Obj) → Prop} {may : Prop} (H : DoesH w D f vs hid news Ret may)
    {dp un : Nat} {gd : Option (List Code)} {env : Env} {outer : List Env} {A₀ : Around} {base h₀ : Heap} {L : Addr} {m mg mb : Str → Option Value} {mean : ExcName → Option Value} {s : Shared} {Q E : Value → Shared → Prop}
    (B : Below A₀ base outer h₀) (F : Fr h₀ L s.heap m) (X : (grab.heap_1 w.params).In h₀) (N : News h₀ L s.heap news) (T : Top view (looseW view loose) mean mg mb h₀) (G : HidIs s.heap news hid) (hf : env.frame = some L) (hk : env.scope.kind = .function) (hd : dp + D ≤ 900) (hu : un + 20 * D ≤ 7000)
    (ret : ∀ r h' tk' news', Fr h₀ L h' m → News h₀ L h' news' → (∀ p ∈ hid, h'.get? p.1 = some p.2) → Ret r news' → Q r { s with heap := h', toks := tk' })
    (exc : may → ∀ e d t1 t2 t3 dv h' tk' G, Fr h₀ L G m → RaisedQ base G (env :: outer) e d [(d, sigD w t1 t2 t3 dv)] h' → G.UpToSlots h' → E (.ref e) { s with heap := h', toks := tk' }) :
    wpAny (model PySem.Challenge.rw_pq0287_01.row.prog w) (AT dp un gd env outer) (call (.ref f) vs) Q E s :=
  wpAny_call (H _ _ _ _ _ _ _ _ _ _ _ _ _ _ _ B F X N T G hf hk hd hu ret exc)
end
section
section
local macro_rules | `(tactic| lsm_bools) => `(tactic| ((try simp only [List.length_append, List.length_cons, List.length_nil, beq_iff_eq, bne_iff_ne, beq_eq_false_iff_ne, ne_eq, decide_eq_true_eq, decide_eq_false_iff_not, Bool.and_eq_true, Bool.not_eq_true', Bool.not_eq_false', Bool.not_eq_true, Bool.not_eq_eq_eq_not]); omega))
local macro_rules | `(tactic| walk_at "WhlRest") => `(tactic| (refine Hold.out ?_))
local macro_rules | `(tactic| walk_at "WhlIf") => `(tactic| first | (refine WhlIf.yes (by lsm_bools) ?_) | (refine WhlIf.no (by lsm_bools) ?_))
local macro_rules | `(tactic| walk_at "exec While Compare") => `(tactic| (k_dflt (refine hold_while ?_)))
section
section
local macro_rules | `(tactic| walk_at "none such 5") => `(tactic| skip)
local macro_rules | `(tactic| k_mem) => `(tactic| with_reducible assumption)
local macro_rules | `(tactic| walk_at "call builtin:list.pop") => `(tactic| ((with_reducible show wpAny _ _ (call (Value.builtin _) [Value.ref _]) _ _ _); k_dflt (refine' m_pop ?F ?N ?U ?z ?_; (case F => k_asm); (case N => k_asm); (case U => k_upd); (case z => kl_room); k_whole); intro h' F' N'; (try k_sweep)))
local macro_rules | `(tactic| walk_at "call ref") => `(tactic| ((first | (with_reducible show wpAny _ _ (call (Value.ref 404) [Value.ref _, _]) _ _ _) | (with_reducible show wpAny _ _ (call (Value.ref 432) [Value.ref _, _, _, _]) _ _ _) | (with_reducible show wpAny _ _ (call (Value.ref 446) [Value.ref _, _, _]) _ _ _)); k_dflt ((rename Eff _ _ _ _ _ _ _ _ _ => hE9); (refine' DoesX.use (hE9 _ _ _ _ _ _ (by assumption) (by assumption) ?z1 ?z2 (by assumption)) ?B ?F ?X ?N ?T ?G ?hf ?hk ?hd ?hu ?_ ?_; (case N => k_asm); (case z1 => omega); (case z2 => (simp only [List.length_append, List.length_cons, List.length_nil] at *; omega)); (case B => k_asm); (case F => k_asm); (case X => k_asm); (case T => k_asm); (case G => k_asm); (case hf => first | exact rfl | assumption); (case hk => first | exact rfl | assumption); (case hd => (try simp only [depth_in1, depth_deeper]); omega); (case hu => (try simp only [units_in1, units_deeper]); omega)))))
local macro_rules | `(tactic| walk_at "subscriptTail Name Constant ref int") => `(tactic| ((with_reducible show wpAny _ _ (subscriptTail _ _ (Value.ref _) (Value.int _ _)) _ _ _); (with_unfolding_all refine' item_tup4 ?k1 ?k2 ?k3 ?k4 ?k5 ?_ ?k6 ?k7; (case k1 => k_asm); (case k2 => first | k_mem | exact .tail _ (.tail _ (.tail _ (by assumption)))); (case k3 => omega); (case k4 => omega); (case k5 => exact rfl); (case k6 => with_unfolding_all rfl); (case k7 => (intro _; with_unfolding_all rfl)); k_whole)))
theorem printed_loop (w : World) (a : PA) (lb : List (Addr × Obj)) (v : Value) (r : Option (List Int)) (n1 n2 n3 : Nat) (tl : List (Addr × Obj)) (hA : Apart a tl) (hrun : Run w a (prB w a lb) [.datum v] [] [] r) :
    DoesH w 40 397 [.ref a.pr, v] (prB w a lb) (led a [] [] [] n1 n2 n3 tl)
      (fun r' nw => r' = .ref a.cl ∧ ∃ cs us n', r = some cs ∧ IntsAre us cs ∧ (a.cl, listOf us.toArray n') ∈ nw) (r = none) := by
  unfold DoesH
  k_fill
  intro dp un gd env outer A₀ base h₀ L m mg mb mean s R B F X N T G hf hk hd hu hret hexc
  obtain ⟨h1, h2, h3, h4⟩ := hA
  k_dflt (refine' code_defH ?kH ?k1 ?k2 ?k3 ?k4 ?k5 ?kA ?kF ?kK ?k6 ?k7 ?k8 ?k9 ?kB ?_ ?c2 ?c3 ?c4 ?c5; (case kH => assumption); (case kA => exact rfl); (case kF => first | exact rfl | assumption); (case kK => first | exact rfl | assumption); (case k1 => k_asm); (case k2 => k_asm); (case k3 => k_asm); (case k4 => k_asm); (case k5 => k_asm); (case k6 => k_is); (case k7 => k_is); (case k8 => k_room); (case k9 => first | ktr_rel | exact binds_K (by k_in) rfl (by k_is) rfl rfl rfl | fail "k_enter: no rule for these arguments"); (case c5 => decide); (case kB => exact locs rfl); (case c2 => exact rfl); (case c3 => exact rfl); (case c4 => exact rfl); k_whole; intro g' L' h' FG' F' N' B' X' T' G'; (try dsimp only [List.reverse, List.reverseAux] at F'); (try dsimp only); (try k_fold))
  (rename Below _ _ _ _ => hB1); (rename Fr h₀ L _ m => hG1); (rename Frag.In _ _ => hX1)
  k_steps
  (rename Fr _ _ _ _ => F1); (rename News _ _ _ _ => N1)
  rename Heap => h9
  have st := loopSt_start F1 N1 ⟨h1, h2, h3, off_cons (by omega) (by omega) (by omega) h4⟩
  clear F1 N1
  revert st
  revert tk
  revert h9
  refine machine_loop (a := a) ?oDone ?oDatum ?oRow ?oCells ?oLeft hrun rfl
  case oDone =>
    intro cs h tk z st e
    obtain ⟨us, js, n1, n2, n3, tl, u, hi, hj, hA, F9, N9⟩ := st
    obtain ⟨h1, h2, h3, h4⟩ := hA
    obtain ⟨z1, z2, z3⟩ := z
    cases hj
    have hl := IntsAre.length hi
    refine hold_turn ?hE ?_
    case hE => first | passes_own | with_unfolding_all passes_own
    k_steps
    exact fun hKp => hret _ _ _ _ (by assumption) (by assumption) hKp ⟨rfl, _, us, _, e, hi, .head _⟩
  case oDatum =>
    intro v J cs ar may out h tk hE z hm next st
    obtain ⟨us, js, n1, n2, n3, tl, u, hi, hj, hA, F9, N9⟩ := st
    obtain ⟨h1, h2, h3, h4⟩ := id hA
    obtain ⟨z1, z2, z3⟩ := z
    have hl := IntsAre.length hi
    have hz := JobsAre.length hj
    cases hj with | snoc hj hmem hi' =>
    cases hi'
    simp only [List.length_append, List.length_cons, List.length_nil] at hz
    refine hold_turn ?hE ?_
    case hE => first | passes_own | with_unfolding_all passes_own
    k_steps
    · rename (_ ∧ _) => hr9
      obtain ⟨-, dJ, cs', ar', us', cjs, ntl, n1', n2', n3', hout, hi', hj', hsub, hA'⟩ := hr9
      exact next _ _ _ _ _ hout (loopSt_next (by assumption) (by assumption) hi' hj hj' hsub hA')
    · rename may => hmay
      exact leave_onQ hB1 (by assumption) (by assumption) (by assumption) (fun h' hR hU => hexc (hm hmay) _ _ _ _ _ _ _ _ _ hG1 hR hU)
  case oRow =>
    intro x k half J cs ar out h tk hEs z next st
    obtain ⟨us, js, n1, n2, n3, tl, u, hi, hj, hA, F9, N9⟩ := st
    obtain ⟨h1, h2, h3, h4⟩ := id hA
    obtain ⟨z1, z2, z3⟩ := z
    have hl := IntsAre.length hi
    have hz := JobsAre.length hj
    cases hj with | snoc hj hmem hi' =>
    cases hi' with | row _ _ tt _ =>
    have hE := hEs tt
    clear hEs
    simp only [List.length_append, List.length_cons, List.length_nil] at hz
    refine hold_turn ?hE ?_
    case hE => first | passes_own | with_unfolding_all passes_own
    k_steps
    · rename (_ ∧ _) => hr9
      obtain ⟨-, dJ, cs', ar', us', cjs, ntl, n1', n2', n3', hout, hi', hj', hsub, hA'⟩ := hr9
      exact next _ _ _ _ _ hout (loopSt_next (by assumption) (by assumption) hi' hj hj' hsub hA')
    · contradiction
  case oCells =>
    intro thl k J cs ar out h tk hEs z next st
    obtain ⟨us, js, n1, n2, n3, tl, u, hi, hj, hA, F9, N9⟩ := st
    obtain ⟨h1, h2, h3, h4⟩ := id hA
    obtain ⟨z1, z2, z3⟩ := z
    have hl := IntsAre.length hi
    have hz := JobsAre.length hj
    cases hj with | snoc hj hmem hi' =>
    cases hi' with | cells _ _ tt =>
    have hE := hEs tt
    clear hEs
    simp only [List.length_append, List.length_cons, List.length_nil] at hz
    refine hold_turn ?hE ?_
    case hE => first | passes_own | with_unfolding_all passes_own
    k_steps
    · rename (_ ∧ _) => hr9
      obtain ⟨-, dJ, cs', ar', us', cjs, ntl, n1', n2', n3', hout, hi', hj', hsub, hA'⟩ := hr9
      exact next _ _ _ _ _ hout (loopSt_next (by assumption) (by assumption) hi' hj hj' hsub hA')
    · contradiction
  case oLeft =>
    intro x J cs ar h tk z next st
    obtain ⟨us, js, n1, n2, n3, tl, u, hi, hj, hA, F9, N9⟩ := st
    obtain ⟨h1, h2, h3, h4⟩ := id hA
    obtain ⟨z1, z2, z3⟩ := z
    have hl := IntsAre.length hi
    have hz := JobsAre.length hj
    cases hj with | snoc hj hmem hi' =>
    cases hi'
    simp only [List.length_append, List.length_cons, List.length_nil] at hz
    have hra : (refs ar).length = ar.length := List.length_map _
    rw [show refs (ar ++ [x]) = refs ar ++ [.ref x] from List.map_append] at N9
    refine hold_turn ?hE ?_
    case hE => first | passes_own | with_unfolding_all passes_own
    k_steps
    exact next _ _ (loopSt_next (dJ := []) (cjs := []) (ntl := []) (by assumption) (by assumption) hi hj .nil (fun p hp => by simpa using hp) hA)
end
end
section
theorem Does.more {w : World} {D D' : Nat} {f : Addr} {vs : List Value} {lb lb' news : List (Addr × Obj)} {Ret Exc : Value → List (Addr × Obj) → Prop} (H : Does w D f vs lb news Ret Exc) (hD : D ≤ D') (hs : ∀ p ∈ lb, p ∈ lb') : Does w D' f vs lb' news Ret Exc :=
  fun dp un gd env outer A₀ base h₀ L m mg mb mean s R B F X N T G hf hk hd hu hret hexc => H dp un gd env outer A₀ base h₀ L m mg mb mean s R B F X N T (subBase G hs) hf hk (by omega) (by omega) hret hexc
theorem DoesX.more {w : World} {D D' : Nat} {f : Addr} {vs : List Value} {lb lb' news : List (Addr × Obj)} {Ret Ret' : Value → List (Addr × Obj) → Prop} {may may' : Prop} (H : DoesX w D f vs lb news Ret may) (hD : D ≤ D') (hs : ∀ p ∈ lb, p ∈ lb') (hr : ∀ r nw, Ret r nw → Ret' r nw) (hm : may → may') : DoesX w D' f vs lb' news Ret' may' :=
  fun dp un gd env outer A₀ base h₀ L m mg mb mean s R B F X N T G hf hk hd hu hret hexc => H dp un gd env outer A₀ base h₀ L m mg mb mean s R B F X N T (subBase G hs) hf hk (by omega) (by omega) (fun r h' tk' nw F' N' q => hret r h' tk' nw F' N' (hr _ _ q)) (fun q => hexc (hm q))
def ConsIn (w : World) (lb : List (Addr × Obj)) (x : Addr) (car cdr : Value) : Prop := ∃ dx t1 t2, (x, instObj 118 dx) ∈ lb ∧ (dx, consD w t1 t2 car cdr) ∈ lb
def VecIn (w : World) (lb : List (Addr × Obj)) (x : Addr) (vs : List Value) : Prop := ∃ dx t1 thl n, (x, instObj 161 dx) ∈ lb ∧ (dx, vecD w t1 thl) ∈ lb ∧ (thl, listOf vs.toArray n) ∈ lb
/-- what the printer prints here -/
inductive Plain (w : World) (lb : List (Addr × Obj)) : Value → Prop
  | int (k : Int) (t : Tok) : Plain w lb (.int k t)
  | cons {x : Addr} {car cdr : Value} : ConsIn w lb x car cdr → Plain w lb (.ref x)
  | vec {x : Addr} {vs : List Value} : VecIn w lb x vs → Plain w lb (.ref x)
def AroundIn (lb : List (Addr × Obj)) (x : Addr) (ar : List Addr) : Prop := ∃ ars : List (Addr × Obj), ars.map (fun p => p.1) = ar ∧ ∀ p ∈ ars, p ∈ lb ∧ @Ne Nat p.1 x ∧ p.2.cls ≠ .type "tuple"
theorem AroundIn.refs {lb : List (Addr × Obj)} {x : Addr} {ar : List Addr} (h : AroundIn lb x ar) : ∃ ars : List (Addr × Obj), (ars.map fun p => Value.ref p.1) = refs ar ∧ ars.length = ar.length ∧ ∀ p ∈ ars, p ∈ lb ∧ @Ne Nat p.1 x ∧ p.2.cls ≠ .type "tuple" := by
  obtain ⟨ars, e, h⟩ := h
  subst e
  exact ⟨ars, by simp [Mine.refs], by simp, h⟩
section
variable {w : World} {a : PA} {lb : List (Addr × Obj)} {f : Addr} {args : List Value} {cs : List Int} {ar : List Addr} {may : Prop}
theorem Eff.of_same {k : Int} (H : ∀ us js n1 n2 n3 tl, Apart a tl → us.length ≤ 4000000 → js.length ≤ 100000 → ar.length ≤ 200 →
      DoesX w 20 f (.ref a.pr :: args) lb (led a us js (refs ar) n1 n2 n3 tl) (fun r nw => r = .none ∧ ∃ t n1', ∀ p ∈ led a (us ++ [.int k t]) js (refs ar) n1' n2 n3 tl, p ∈ nw) may) :
    Eff w a lb f args cs ar may (some ([], cs ++ [k], ar)) := by
  intro us js n1 n2 n3 tl hi hA z1 z2 z3
  refine (H us js n1 n2 n3 tl hA (by omega) (by omega) z3).more (Nat.le_refl _) (fun _ h => h) ?_ id
  rintro r nw ⟨rfl, t, n1', hs⟩
  exact ⟨rfl, [], _, _, _, [], [], _, _, _, rfl, ksk_snoc hi, .nil, by simpa using hs, hA⟩
theorem IntsAre.two {us : List Value} {k k2 : Int} {t t2 : Tok} (h : IntsAre us cs) : IntsAre (us ++ [.int k t, .int k2 t2]) (cs ++ [k, k2]) := by
  have := ksk_snoc (n := k2) (t := t2) (ksk_snoc (n := k) (t := t) h)
  simpa using this
theorem jobs_two {c d : Addr} {vs ws : List Value} {jc jd : Job} {tl : List (Addr × Obj)} (h1 : JobIs vs jc) (h2 : JobIs ws jd) : JobsAre [(d, tupOf ws), (c, tupOf vs)] [.ref c, .ref d] [jd, jc] :=
  .snoc (js := [.ref c]) (.snoc (js := []) .nil (.tail _ (.head _)) h1) (.head _) h2
/-- the data of the ring told by their number -/
theorem eff_int7 {t : Tok} (hl : ∀ p ∈ prB w a [], p ∈ lb) : Eff w a lb 404 [.int 7 t] cs ar may (some ([], cs ++ [55], ar)) :=
  Eff.of_same fun us js n1 n2 n3 tl hA z1 z2 z3 => ((do_datum_7 w a t us js (refs ar) n1 n2 n3 tl hA z1 z2 (by simp; omega)).more (by omega) hl).toX may
theorem eff_int5 {t : Tok} (hl : ∀ p ∈ prB w a [], p ∈ lb) : Eff w a lb 404 [.int 5 t] cs ar may (some ([], cs ++ [53], ar)) :=
  Eff.of_same fun us js n1 n2 n3 tl hA z1 z2 z3 => ((do_datum_5 w a t us js (refs ar) n1 n2 n3 tl hA z1 z2 (by simp; omega)).more (by omega) hl).toX may
theorem eff_int8 {t : Tok} (hl : ∀ p ∈ prB w a [], p ∈ lb) : Eff w a lb 404 [.int 8 t] cs ar may (some ([], cs ++ [56], ar)) :=
  Eff.of_same fun us js n1 n2 n3 tl hA z1 z2 z3 => ((do_datum_8 w a t us js (refs ar) n1 n2 n3 tl hA z1 z2 (by simp; omega)).more (by omega) hl).toX may
theorem eff_int1 {t : Tok} (hl : ∀ p ∈ prB w a [], p ∈ lb) : Eff w a lb 404 [.int 1 t] cs ar may (some ([], cs ++ [49], ar)) :=
  Eff.of_same fun us js n1 n2 n3 tl hA z1 z2 z3 => ((do_datum_1 w a t us js (refs ar) n1 n2 n3 tl hA z1 z2 (by simp; omega)).more (by omega) hl).toX may
theorem eff_row_end {t : Tok} {half : Value} (hl : ∀ p ∈ prB w a [], p ∈ lb) {k : Int} : Eff w a lb 432 [.ref 97, .int k t, half] cs ar may (some ([], cs ++ [41], ar)) :=
  Eff.of_same fun us js n1 n2 n3 tl hA z1 z2 z3 => ((do_row_end w a half t us js (refs ar) n1 n2 n3 tl k hA z1 z2 (by simp; omega)).more (by omega) hl).toX may
theorem prB_sub {l l' : List (Addr × Obj)} (h : ∀ p ∈ l, p ∈ l') : ∀ p ∈ prB w a l, p ∈ prB w a l' := by
  intro p hp
  simp only [prB, List.mem_cons] at hp ⊢
  rcases hp with hp | hp | hp | hp | hp
  · exact .inl hp
  · exact .inr (.inl hp)
  · exact .inr (.inr (.inl hp))
  · exact .inr (.inr (.inr (.inl hp)))
  · exact .inr (.inr (.inr (.inr (h _ hp))))
theorem eff_row_first {x : Addr} {car cdr : Value} {t : Tok} (hc : ConsIn w lb x car cdr) (hx : @Ne Nat x 97) (h1 : handedIn car = true) (h2 : handedIn cdr = true) :
    Eff w a (prB w a lb) 432 [.ref x, .int 0 t, .ref x] cs ar may (some ([.datum car, .row cdr 1 (.ref x)], cs, ar)) := by
  obtain ⟨dx, t1, t2, m1, m2⟩ := hc
  intro us js n1 n2 n3 tl hi hA z1 z2 z3
  refine (((do_row_first w a x dx car cdr t1 t2 t us js (refs ar) n1 n2 n3 tl hA (by omega) (by omega) (by simp; omega) hx h1 h2).more (D' := 20) (by omega) (prB_sub (by simp [m1, m2]))).toX may).more (Nat.le_refl _) (fun _ h => h) ?_ id
  rintro r nw ⟨rfl, c, d, tt, n2', hs, hA'⟩
  exact ⟨rfl, _, _, _, _, [.ref c, .ref d], [_, _], _, _, _, rfl, hi, jobs_two (tl := tl) (.row _ _ _ _) (.datum _), by simpa using hs, hA'⟩
theorem eff_row_second {x y : Addr} {car cdr ycar : Value} {t : Tok} (hc : ConsIn w lb x car cdr) (hy : ConsIn w lb y ycar (.ref x)) (hx : @Ne Nat x 97) (hxy : @Ne Nat x y) (h1 : handedIn car = true) (h2 : handedIn cdr = true) :
    Eff w a (prB w a lb) 432 [.ref x, .int 1 t, .ref y] cs ar may (some ([.datum car, .row cdr 2 (.ref x)], cs ++ [32], ar)) := by
  obtain ⟨dx, t1, t2, m1, m2⟩ := hc
  obtain ⟨dy, t3, t4, m3, m4⟩ := hy
  intro us js n1 n2 n3 tl hi hA z1 z2 z3
  refine (((do_row_second w a x dx y dy car cdr ycar t1 t2 t3 t4 t us js (refs ar) n1 n2 n3 tl hA (by omega) (by omega) (by simp; omega) hx hxy h1 h2).more (D' := 20) (by omega) (prB_sub (by simp [m1, m2, m3, m4]))).toX may).more (Nat.le_refl _) (fun _ h => h) ?_ id
  rintro r nw ⟨rfl, c, d, tt, u, n1', n2', hs, hA'⟩
  exact ⟨rfl, _, _, _, _, [.ref c, .ref d], [_, _], _, _, _, rfl, ksk_snoc hi, jobs_two (tl := tl) (.row _ _ _ _) (.datum _), by simpa using hs, hA'⟩
theorem eff_cells_first {thl : Addr} {items : List Value} {nth : Nat} {x : Value} {t : Tok} (hl : (thl, listOf items.toArray nth) ∈ lb) (ek : items[0]? = some x) (z : items.length ≤ 1000) :
    Eff w a (prB w a lb) 446 [.ref thl, .int 0 t] cs ar may (some ([.datum x, .cells thl 1], cs, ar)) := by
  intro us js n1 n2 n3 tl hi hA z1 z2 z3
  have z0 := (List.getElem?_eq_some_iff.mp ek).1
  refine (((do_cells_first w a thl items nth t us js (refs ar) n1 n2 n3 tl x hA ek z0 z (by omega) (by omega) (by simp; omega)).more (D' := 20) (by omega) (prB_sub (by simp [hl]))).toX may).more (Nat.le_refl _) (fun _ h => h) ?_ id
  rintro r nw ⟨rfl, c, d, tt, n2', hs, hA'⟩
  exact ⟨rfl, _, _, _, _, [.ref c, .ref d], [_, _], _, _, _, rfl, hi, jobs_two (tl := tl) (.cells _ _ _) (.datum _), by simpa using hs, hA'⟩
theorem eff_cells_next {thl : Addr} {items : List Value} {nth : Nat} {x : Value} {k : Int} {t : Tok} (hl : (thl, listOf items.toArray nth) ∈ lb) (k0 : 0 < k) (ek : items[k.toNat]? = some x) (z : items.length ≤ 1000) :
    Eff w a (prB w a lb) 446 [.ref thl, .int k t] cs ar may (some ([.datum x, .cells thl (k + 1)], cs ++ [32], ar)) := by
  intro us js n1 n2 n3 tl hi hA z1 z2 z3
  have z0 := (List.getElem?_eq_some_iff.mp ek).1
  refine (((do_cells_next w a thl items nth t us js (refs ar) n1 n2 n3 tl k x hA k0 (by omega) ek z (by omega) (by omega) (by simp; omega)).more (D' := 20) (by omega) (prB_sub (by simp [hl]))).toX may).more (Nat.le_refl _) (fun _ h => h) ?_ id
  rintro r nw ⟨rfl, c, d, tt, u, n1', n2', hs, hA'⟩
  exact ⟨rfl, _, _, _, _, [.ref c, .ref d], [_, _], _, _, _, rfl, ksk_snoc hi, jobs_two (tl := tl) (.cells _ _ _) (.datum _), by simpa using hs, hA'⟩
theorem eff_cells_end {thl : Addr} {items : List Value} {nth : Nat} {k : Int} {t : Tok} (hl : (thl, listOf items.toArray nth) ∈ lb) (ek : k = (items.length : Int)) (z : items.length ≤ 1000) :
    Eff w a (prB w a lb) 446 [.ref thl, .int k t] cs ar may (some ([], cs ++ [93], ar)) :=
  Eff.of_same fun us js n1 n2 n3 tl hA z1 z2 z3 => ((do_cells_end w a thl items nth t us js (refs ar) n1 n2 n3 tl k ek hA z z1 z2 (by simp; omega)).more (by omega) (prB_sub (by simp [hl]))).toX may
theorem sq_of {x dx : Addr} {t1 t2 : Tok} {car cdr : Value} (hp : Plain w lb car) (h2 : handedIn cdr = true) :
    ∃ lq, (∀ p ∈ lq, p ∈ lb) ∧ ∀ news, Does w 5 376 [.ref x] ((x, instObj 118 dx) :: (dx, consD w t1 t2 car cdr) :: lq) news (fun r nw => (∃ t, r = .str (Str.ofString "") t) ∧ nw = news) NoExc := by
  cases hp with
  | int k t => exact ⟨[], by simp, fun news => short_quote_int w x dx t1 t2 k t cdr news h2⟩
  | @cons y _ _ h =>
    obtain ⟨dy, t3, t4, m1, m2⟩ := h
    exact ⟨[_, _], by simpa using ⟨m1, m2⟩, fun news => short_quote_cons w x dx t1 t2 y dy _ cdr news h2⟩
  | @vec y _ h =>
    obtain ⟨dy, t3, thl, n, m1, m2, m3⟩ := h
    exact ⟨[_, _], by simpa using ⟨m1, m2⟩, fun news => short_quote_vec w x dx t1 t2 y dy _ cdr news h2⟩
theorem eff_cons {x : Addr} {car cdr : Value} (hc : ConsIn w lb x car cdr) (hp : Plain w lb car) (hx : @Ne Nat x 97) (h1 : handedIn car = true) (h2 : handedIn cdr = true) (har : AroundIn lb x ar) (z : ar.length < 200) :
    Eff w a (prB w a lb) 404 [.ref x] cs ar may (some ([.row (.ref x) 0 (.ref x), .left], cs ++ [40], ar ++ [x])) := by
  obtain ⟨dx, t1, t2, m1, m2⟩ := hc
  obtain ⟨ars, e, el, har⟩ := har.refs
  obtain ⟨lq, hlq, SQ⟩ := sq_of (x := x) (dx := dx) (t1 := t1) (t2 := t2) hp h2
  intro us js n1 n2 n3 tl hi hA z1 z2 z3
  rw [← e]
  have H := do_whole_cons w a x dx car cdr t1 t2 us js n1 n2 n3 tl ars lq hA hx (by omega) (by omega) (by omega) h1 h2 (fun p hp => (har p hp).2) (fun news => (SQ news).more (Nat.le_refl _) (by intro p hp; simp only [prB, List.mem_cons, List.mem_append] at hp ⊢; rcases hp with hp | hp | hp <;> simp [hp]))
  refine (do_datum_cons w a x dx _ (lq ++ ars) _ _ may (by rintro r nw ⟨-, q⟩; exact ⟨rfl, q⟩) (H.toX may)).more (Nat.le_refl _) (prB_sub ?_) ?_ id
  · intro p hp
    simp only [List.mem_cons, List.mem_append] at hp
    rcases hp with rfl | rfl | hp | hp
    · exact m1
    · exact m2
    · exact hlq _ hp
    · exact (har p hp).1
  · rintro r nw ⟨rfl, c, d, tt, u, n1', n2', n3', hs, hA'⟩
    exact ⟨rfl, _, _, _, _, [.ref c, .ref d], [_, _], _, _, _, rfl, ksk_snoc hi, jobs_two (tl := tl) .left (.row _ _ _ _), by rw [e] at hs; simpa using hs, hA'⟩
theorem eff_vec {x thl : Addr} {dx : Addr} {t1 : Tok} (m1 : (x, instObj 161 dx) ∈ lb) (m2 : (dx, vecD w t1 thl) ∈ lb) (hx : @Ne Nat x 97) (har : AroundIn lb x ar) (z : ar.length < 200) :
    Eff w a (prB w a lb) 404 [.ref x] cs ar may (some ([.cells thl 0, .left], cs ++ [91], ar ++ [x])) := by
  obtain ⟨ars, e, el, har⟩ := har.refs
  intro us js n1 n2 n3 tl hi hA z1 z2 z3
  rw [← e]
  have H := do_whole_vec w a x dx thl t1 us js n1 n2 n3 tl ars hA hx (by omega) (by omega) (by omega) (fun p hp => (har p hp).2)
  refine (do_datum_vec w a x dx _ ars _ _ may (by rintro r nw ⟨-, q⟩; exact ⟨rfl, q⟩) (H.toX may)).more (Nat.le_refl _) (prB_sub ?_) ?_ id
  · intro p hp
    simp only [List.mem_cons] at hp
    rcases hp with rfl | rfl | hp
    · exact m1
    · exact m2
    · exact (har p hp).1
  · rintro r nw ⟨rfl, c, d, tt, u, n1', n2', n3', hs, hA'⟩
    exact ⟨rfl, _, _, _, _, [.ref c, .ref d], [_, _], _, _, _, rfl, ksk_snoc hi, jobs_two (tl := tl) .left (.cells _ _ _), by rw [e] at hs; simpa using hs, hA'⟩
theorem eff_raise_cons {x : Addr} {car cdr : Value} (hc : ConsIn w lb x car cdr) (hx : @Ne Nat x 97) (z : ar.length = 200) : Eff w a (prB w a lb) 404 [.ref x] cs ar True none := by
  obtain ⟨dx, t1, t2, m1, m2⟩ := hc
  intro us js n1 n2 n3 tl hi hA z1 z2 z3
  have H := do_whole_raise w a x dx (consD w t1 t2 car cdr) us js (refs ar) n1 n2 n3 tl hA hx (by omega) (by omega) (by simp; omega) (by simp; omega)
  exact (do_datum_cons w a x dx _ [] _ _ True (fun _ _ q => q) H).more (Nat.le_refl _) (prB_sub (by simp [m1, m2])) (fun _ _ q => q.elim) id
theorem eff_raise_vec {x : Addr} {vs : List Value} (hc : VecIn w lb x vs) (hx : @Ne Nat x 97) (z : ar.length = 200) : Eff w a (prB w a lb) 404 [.ref x] cs ar True none := by
  obtain ⟨dx, t1, thl, n, m1, m2, m3⟩ := hc
  intro us js n1 n2 n3 tl hi hA z1 z2 z3
  have H := do_whole_raise_vec w a x dx (vecD w t1 thl) us js (refs ar) n1 n2 n3 tl hA hx (by omega) (by omega) (by simp; omega) (by simp; omega)
  exact (do_datum_vec w a x dx _ [] _ _ True (fun _ _ q => q) H).more (Nat.le_refl _) (prB_sub (by simp [m1, m2])) (fun _ _ q => q.elim) id
theorem eff_found0 {x : Addr} {car cdr : Value} (hc : ConsIn w lb x car cdr) (hx : @Ne Nat x 97) (z : ar.length < 199) : Eff w a (prB w a lb) 404 [.ref x] cs (x :: ar) may (some ([], cs ++ [35, 48], x :: ar)) := by
  obtain ⟨dx, t1, t2, m1, m2⟩ := hc
  intro us js n1 n2 n3 tl hi hA z1 z2 z3
  have H := do_whole_found0 w a x dx (consD w t1 t2 car cdr) us js (refs ar) n1 n2 n3 tl hA hx (by omega) (by omega) (by simp; omega)
  refine (do_datum_cons w a x dx _ [] _ _ may (by rintro r nw ⟨-, q⟩; exact ⟨rfl, q⟩) (H.toX may)).more (Nat.le_refl _) (prB_sub (by simp [m1, m2])) ?_ id
  rintro r nw ⟨rfl, t, u, n1', hs⟩
  exact ⟨rfl, [], _, _, _, [], [], _, _, _, rfl, IntsAre.two hi, .nil, by simpa [Mine.refs] using hs, hA⟩
theorem eff_found1 {x y dy : Addr} {car cdr : Value} (hc : ConsIn w lb x car cdr) (hy : (y, instObj 118 dy) ∈ lb) (hx : @Ne Nat x 97) (hyx : @Ne Nat y x) (z : ar.length < 198) : Eff w a (prB w a lb) 404 [.ref x] cs (y :: x :: ar) may (some ([], cs ++ [35, 49], y :: x :: ar)) := by
  obtain ⟨dx, t1, t2, m1, m2⟩ := hc
  intro us js n1 n2 n3 tl hi hA z1 z2 z3
  have H := do_whole_found1 w a x dx y dy (consD w t1 t2 car cdr) us js (refs ar) n1 n2 n3 tl hA hx hyx (by omega) (by omega) (by simp; omega)
  refine (do_datum_cons w a x dx _ [(y, instObj 118 dy)] _ _ may (by rintro r nw ⟨-, q⟩; exact ⟨rfl, q⟩) (H.toX may)).more (Nat.le_refl _) (prB_sub (by simp [m1, m2, hy])) ?_ id
  rintro r nw ⟨rfl, t, u, n1', hs⟩
  exact ⟨rfl, [], _, _, _, [], [], _, _, _, rfl, IntsAre.two hi, .nil, by simpa [Mine.refs] using hs, hA⟩
end
end
section
section
variable {w : World} {a : PA} {lb : List (Addr × Obj)}
/-- a datum, printed: its codes, whatever waits behind it -/
def Prints (w : World) (a : PA) (lb : List (Addr × Obj)) (v : Value) (c : List Int) (ar : List Addr) (N : Nat) : Prop :=
  c.length ≤ N ∧ ∀ J cs r, cs.length + N ≤ 100000 → J.length + N ≤ 10000 → Run w a (prB w a lb) J (cs ++ c) ar r → Run w a (prB w a lb) (.datum v :: J) cs ar r
/-- a datum too deep -/
def Fails (w : World) (a : PA) (lb : List (Addr × Obj)) (v : Value) (ar : List Addr) (N : Nat) : Prop :=
  ∀ J cs, cs.length + N ≤ 100000 → J.length + N ≤ 10000 → Run w a (prB w a lb) (.datum v :: J) cs ar none
/-- the step every datum begins with: one job, more jobs laid -/
theorem pr_int {k c : Int} {t : Tok} {ar : List Addr} (H : ∀ cs, Eff w a (prB w a lb) 404 [.int k t] cs ar False (some ([], cs ++ [c], ar))) (z : ar.length ≤ 200) : Prints w a lb (.int k t) [c] ar 1 :=
  ⟨by simp, fun J cs r z1 z2 h => .datum (H cs) ⟨by omega, by omega, z⟩ h⟩
theorem pr_found {x : Addr} {c : List Int} {ar : List Addr} (H : ∀ cs, Eff w a (prB w a lb) 404 [.ref x] cs ar False (some ([], cs ++ c, ar))) (z : ar.length ≤ 200) : Prints w a lb (.ref x) c ar c.length :=
  ⟨Nat.le_refl _, fun J cs r z1 z2 h => .datum (H cs) ⟨by omega, by omega, z⟩ h⟩
theorem hl0 : ∀ p ∈ prB w a [], p ∈ prB w a lb := prB_sub (fun _ h => nomatch h)
theorem run_cons {x : Addr} {inner cdr : Value} {ar : List Addr} {J : List Job} {cs : List Int} {r : Option (List Int)} (hc : ConsIn w lb x inner cdr) (hp : Plain w lb inner) (hx : @Ne Nat x 97) (hcdr : handedIn cdr = true) (har : AroundIn lb x ar) (z : ar.length < 200)
    (z1 : cs.length + 5 ≤ 100000) (z2 : J.length + 5 ≤ 10000) (h : Run w a (prB w a lb) (.datum inner :: .row cdr 1 (.ref x) :: .left :: J) (cs ++ [40]) (ar ++ [x]) r) :
    Run w a (prB w a lb) (.datum (.ref x) :: J) cs ar r := by
  have h1 : handedIn inner = true := by cases hp <;> rfl
  refine .datum (eff_cons hc hp hx h1 hcdr har z) ⟨by omega, by omega, by omega⟩ ?_
  exact .row (J := .left :: J) (fun t => eff_row_first hc hx h1 hcdr) ⟨by simp; omega, by simp; omega, by simp; omega⟩ h
theorem run_row_end {x : Addr} {half : Value} {k : Int} {ar : List Addr} {J : List Job} {cs : List Int} {r : Option (List Int)} (z : ar.length < 200) (z1 : cs.length + 1 ≤ 100000) (z2 : J.length + 5 ≤ 10000) (h : Run w a (prB w a lb) J (cs ++ [41]) ar r) :
    Run w a (prB w a lb) (.row (.ref 97) k half :: .left :: J) cs (ar ++ [x]) r :=
  .row (J := .left :: J) (fun t => eff_row_end hl0) ⟨by omega, by simp; omega, by simp; omega⟩ (.left ⟨by simp; omega, by omega, by omega⟩ h)
theorem pr_list1 {x : Addr} {inner : Value} {c : List Int} {ar : List Addr} {N : Nat} (hc : ConsIn w lb x inner (.ref 97)) (hp : Plain w lb inner) (hx : @Ne Nat x 97) (har : AroundIn lb x ar) (z : ar.length < 200) (H : Prints w a lb inner c (ar ++ [x]) N) :
    Prints w a lb (.ref x) (40 :: (c ++ [41])) ar (N + 10) := by
  obtain ⟨hN, H⟩ := H
  refine ⟨by simp; omega, fun J cs r z1 z2 h => run_cons hc hp hx rfl har z (by omega) (by omega) ?_⟩
  refine H _ _ _ (by simp; omega) (by simp; omega) (run_row_end z (by simp; omega) (by omega) ?_)
  simpa using h
/-- a list of two data -/
theorem pr_list2 {x y : Addr} {inner second : Value} {c c2 : List Int} {ar : List Addr} {N N2 : Nat} (hc : ConsIn w lb x inner (.ref y)) (hy : ConsIn w lb y second (.ref 97)) (hp : Plain w lb inner) (hp2 : handedIn second = true) (hx : @Ne Nat x 97) (hy9 : @Ne Nat y 97) (hyx : @Ne Nat y x) (har : AroundIn lb x ar) (z : ar.length < 200)
    (H : Prints w a lb inner c (ar ++ [x]) N) (H2 : Prints w a lb second c2 (ar ++ [x]) N2) :
    Prints w a lb (.ref x) (40 :: (c ++ (32 :: (c2 ++ [41])))) ar (N + N2 + 10) := by
  obtain ⟨hN, H⟩ := H
  obtain ⟨hN2, H2⟩ := H2
  refine ⟨by simp; omega, fun J cs r z1 z2 h => run_cons hc hp hx rfl har z (by omega) (by omega) ?_⟩
  refine H _ _ _ (by simp; omega) (by simp; omega) ?_
  refine .row (J := .left :: J) (fun t => eff_row_second hy hc hy9 hyx hp2 rfl) ⟨by simp; omega, by simp; omega, by simp; omega⟩ ?_
  refine H2 _ _ _ (by simp; omega) (by simp; omega) (run_row_end z (by simp; omega) (by omega) ?_)
  simpa using h
theorem fl_list {x : Addr} {inner cdr : Value} {ar : List Addr} {N : Nat} (hc : ConsIn w lb x inner cdr) (hp : Plain w lb inner) (hx : @Ne Nat x 97) (hcdr : handedIn cdr = true) (har : AroundIn lb x ar) (z : ar.length < 200) (H : Fails w a lb inner (ar ++ [x]) N) : Fails w a lb (.ref x) ar (N + 10) :=
  fun J cs z1 z2 => run_cons hc hp hx hcdr har z (by omega) (by omega) (H _ _ (by simp; omega) (by simp; omega))
theorem run_vec {x thl dx : Addr} {t1 : Tok} {items : List Value} {n : Nat} {inner : Value} {ar : List Addr} {J : List Job} {cs : List Int} {r : Option (List Int)} (m1 : (x, instObj 161 dx) ∈ lb) (m2 : (dx, vecD w t1 thl) ∈ lb) (m3 : (thl, listOf items.toArray n) ∈ lb) (ek : items[0]? = some inner) (zi : items.length ≤ 1000)
    (hx : @Ne Nat x 97) (har : AroundIn lb x ar) (z : ar.length < 200) (z1 : cs.length + 5 ≤ 100000) (z2 : J.length + 5 ≤ 10000) (h : Run w a (prB w a lb) (.datum inner :: .cells thl 1 :: .left :: J) (cs ++ [91]) (ar ++ [x]) r) :
    Run w a (prB w a lb) (.datum (.ref x) :: J) cs ar r := by
  refine .datum (eff_vec m1 m2 hx har z) ⟨by omega, by omega, by omega⟩ ?_
  exact .cells (J := .left :: J) (fun t => eff_cells_first m3 ek zi) ⟨by simp; omega, by simp; omega, by simp; omega⟩ h
theorem run_cells_end {x thl : Addr} {items : List Value} {n : Nat} {k : Int} {ar : List Addr} {J : List Job} {cs : List Int} {r : Option (List Int)} (m3 : (thl, listOf items.toArray n) ∈ lb) (ek : k = (items.length : Int)) (zi : items.length ≤ 1000) (z : ar.length < 200) (z1 : cs.length + 1 ≤ 100000) (z2 : J.length + 5 ≤ 10000) (h : Run w a (prB w a lb) J (cs ++ [93]) ar r) :
    Run w a (prB w a lb) (.cells thl k :: .left :: J) cs (ar ++ [x]) r :=
  .cells (J := .left :: J) (fun t => eff_cells_end m3 ek zi) ⟨by omega, by simp; omega, by simp; omega⟩ (.left ⟨by simp; omega, by omega, by omega⟩ h)
theorem pr_vec1 {x : Addr} {inner : Value} {c : List Int} {ar : List Addr} {N : Nat} (hc : VecIn w lb x [inner]) (hx : @Ne Nat x 97) (har : AroundIn lb x ar) (z : ar.length < 200) (H : Prints w a lb inner c (ar ++ [x]) N) :
    Prints w a lb (.ref x) (91 :: (c ++ [93])) ar (N + 10) := by
  obtain ⟨hN, H⟩ := H
  obtain ⟨dx, t1, thl, n, m1, m2, m3⟩ := hc
  refine ⟨by simp; omega, fun J cs r z1 z2 h => run_vec m1 m2 m3 rfl (by simp) hx har z (by omega) (by omega) ?_⟩
  refine H _ _ _ (by simp; omega) (by simp; omega) (run_cells_end m3 rfl (by simp) z (by simp; omega) (by omega) ?_)
  simpa using h
theorem pr_vec2 {x : Addr} {inner second : Value} {c c2 : List Int} {ar : List Addr} {N N2 : Nat} (hc : VecIn w lb x [inner, second]) (hx : @Ne Nat x 97) (har : AroundIn lb x ar) (z : ar.length < 200) (H : Prints w a lb inner c (ar ++ [x]) N) (H2 : Prints w a lb second c2 (ar ++ [x]) N2) :
    Prints w a lb (.ref x) (91 :: (c ++ (32 :: (c2 ++ [93])))) ar (N + N2 + 10) := by
  obtain ⟨hN, H⟩ := H
  obtain ⟨hN2, H2⟩ := H2
  obtain ⟨dx, t1, thl, n, m1, m2, m3⟩ := hc
  refine ⟨by simp; omega, fun J cs r z1 z2 h => run_vec m1 m2 m3 rfl (by simp) hx har z (by omega) (by omega) ?_⟩
  refine H _ _ _ (by simp; omega) (by simp; omega) ?_
  refine .cells (J := .left :: J) (fun t => eff_cells_next (x := second) m3 (by omega) rfl (by simp)) ⟨by simp; omega, by simp; omega, by simp; omega⟩ ?_
  refine H2 _ _ _ (by simp; omega) (by simp; omega) (run_cells_end m3 rfl (by simp) z (by simp; omega) (by omega) ?_)
  simpa using h
theorem fl_vec {x : Addr} {inner : Value} {rest : List Value} {ar : List Addr} {N : Nat} (hc : VecIn w lb x (inner :: rest)) (zr : rest.length ≤ 10) (hx : @Ne Nat x 97) (har : AroundIn lb x ar) (z : ar.length < 200) (H : Fails w a lb inner (ar ++ [x]) N) : Fails w a lb (.ref x) ar (N + 10) := by
  obtain ⟨dx, t1, thl, n, m1, m2, m3⟩ := hc
  exact fun J cs z1 z2 => run_vec m1 m2 m3 rfl (by simp; omega) hx har z (by omega) (by omega) (H _ _ (by simp; omega) (by simp; omega))
/-- the law's tall datum: its layers from the outside, list or vector, with an 8 or without -/
inductive Tower (w : World) (lb : List (Addr × Obj)) : List Addr → List (Bool × Bool) → Value → Prop
  | int {t : Tok} : Tower w lb [] [] (.int 7 t)
  | list1 {as : List Addr} {x : Addr} {v : Value} {ls : List (Bool × Bool)} : Tower w lb as ls v → x ∉ as → @Ne Nat x 97 → ConsIn w lb x v (.ref 97) → Tower w lb (x :: as) ((true, false) :: ls) (.ref x)
  | list2 {as : List Addr} {x y : Addr} {t : Tok} {v : Value} {ls : List (Bool × Bool)} : Tower w lb as ls v → x ∉ as → @Ne Nat x 97 → @Ne Nat y 97 → @Ne Nat y x → ConsIn w lb x v (.ref y) → ConsIn w lb y (.int 8 t) (.ref 97) → Tower w lb (x :: as) ((true, true) :: ls) (.ref x)
  | vec1 {as : List Addr} {x : Addr} {v : Value} {ls : List (Bool × Bool)} : Tower w lb as ls v → x ∉ as → @Ne Nat x 97 → VecIn w lb x [v] → Tower w lb (x :: as) ((false, false) :: ls) (.ref x)
  | vec2 {as : List Addr} {x : Addr} {t : Tok} {v : Value} {ls : List (Bool × Bool)} : Tower w lb as ls v → x ∉ as → @Ne Nat x 97 → VecIn w lb x [v, .int 8 t] → Tower w lb (x :: as) ((false, true) :: ls) (.ref x)
def showT : List (Bool × Bool) → List Int
  | [] => [55]
  | (true, false) :: ls => 40 :: (showT ls ++ [41])
  | (true, true) :: ls => 40 :: (showT ls ++ (32 :: ([56] ++ [41])))
  | (false, false) :: ls => 91 :: (showT ls ++ [93])
  | (false, true) :: ls => 91 :: (showT ls ++ (32 :: ([56] ++ [93])))
theorem Tower.plain {B : List Addr} {ls : List (Bool × Bool)} {v : Value} (h : Tower w lb B ls v) : Plain w lb v := by
  cases h with
  | int => exact .int _ _
  | list1 _ _ _ h => exact .cons h
  | list2 _ _ _ _ _ h _ => exact .cons h
  | vec1 _ _ _ h => exact .vec h
  | vec2 _ _ _ h => exact .vec h
/-- the data around, none of those within -/
def Later (lb : List (Addr × Obj)) (as : List Addr) (ar : List Addr) : Prop := ∀ b ∈ ar, b ∉ as ∧ ∃ o, (b, o) ∈ lb ∧ o.cls ≠ .type "tuple"
theorem aroundIn_of {lb : List (Addr × Obj)} {x : Addr} : ∀ {ar : List Addr}, (∀ b ∈ ar, @Ne Nat b x ∧ ∃ o, (b, o) ∈ lb ∧ o.cls ≠ .type "tuple") → AroundIn lb x ar
  | [], _ => ⟨[], rfl, fun _ h => nomatch h⟩
  | b :: ar, h => by
    obtain ⟨ars, e, h'⟩ := aroundIn_of (ar := ar) fun c hc => h c (.tail _ hc)
    obtain ⟨h1, o, h2, h3⟩ := h b (.head _)
    refine ⟨(b, o) :: ars, by simp [e], fun p hp => ?_⟩
    rcases List.mem_cons.mp hp with rfl | hp
    · exact ⟨h2, h1, h3⟩
    · exact h' p hp
theorem Later.around {as : List Addr} {x : Addr} {ar : List Addr} (h : Later lb (x :: as) ar) : AroundIn lb x ar :=
  aroundIn_of fun b hb => ⟨fun e => (h b hb).1 (by rw [show b = x from e]; exact .head _), (h b hb).2⟩
theorem Later.more {as : List Addr} {x : Addr} {ar : List Addr} (h : Later lb (x :: as) ar) (hx : x ∉ as) {o : Obj} (ho : (x, o) ∈ lb) (hc : o.cls ≠ .type "tuple") : Later lb as (ar ++ [x]) := by
  intro b hb
  rcases List.mem_append.mp hb with hb | hb
  · exact ⟨fun q => (h b hb).1 (.tail _ q), (h b hb).2⟩
  · rw [List.mem_singleton.mp hb]; exact ⟨hx, o, ho, hc⟩
theorem ConsIn.obj {x : Addr} {v v2 : Value} (h : ConsIn w lb x v v2) : ∃ o, (x, o) ∈ lb ∧ o.cls ≠ .type "tuple" := by
  obtain ⟨dx, _, _, m, _⟩ := h; exact ⟨_, m, by simp [instObj]⟩
theorem VecIn.obj {x : Addr} {vs : List Value} (h : VecIn w lb x vs) : ∃ o, (x, o) ∈ lb ∧ o.cls ≠ .type "tuple" := by
  obtain ⟨dx, _, _, _, m, _⟩ := h; exact ⟨_, m, by simp [instObj]⟩
theorem tower_prints {B : List Addr} {ls : List (Bool × Bool)} {v : Value} (h : Tower w lb B ls v) : ∀ {ar : List Addr}, Later lb B ar → ar.length + ls.length ≤ 200 → Prints w a lb v (showT ls) ar (1 + 12 * ls.length) := by
  induction h with
  | int => intro ar _ z; exact pr_int (fun cs => eff_int7 hl0) (by simpa using z)
  | list1 _ hB h9 hc ih =>
    intro ar hL z
    rename_i hT
    obtain ⟨o, ho, hcl⟩ := hc.obj
    simp only [List.length_cons] at z ⊢
    have H := pr_list1 (a := a) hc hT.plain h9 hL.around (by omega) (ih (hL.more hB ho hcl) (by simp; omega))
    exact ⟨by have := H.1; simp only [showT] at this ⊢; omega, fun J cs r z1 z2 h => H.2 J cs r (by omega) (by omega) h⟩
  | list2 _ hB h9 hy hyx hc hc2 ih =>
    intro ar hL z
    rename_i hT
    obtain ⟨o, ho, hcl⟩ := hc.obj
    simp only [List.length_cons] at z ⊢
    have H := pr_list2 (a := a) hc hc2 hT.plain rfl h9 hy hyx hL.around (by omega) (ih (hL.more hB ho hcl) (by simp; omega)) (pr_int (fun cs => eff_int8 hl0) (by simp; omega))
    exact ⟨by have := H.1; simp only [showT] at this ⊢; omega, fun J cs r z1 z2 h => H.2 J cs r (by omega) (by omega) h⟩
  | vec1 _ hB h9 hc ih =>
    intro ar hL z
    rename_i hT
    obtain ⟨o, ho, hcl⟩ := hc.obj
    simp only [List.length_cons] at z ⊢
    have H := pr_vec1 (a := a) hc h9 hL.around (by omega) (ih (hL.more hB ho hcl) (by simp; omega))
    exact ⟨by have := H.1; simp only [showT] at this ⊢; omega, fun J cs r z1 z2 h => H.2 J cs r (by omega) (by omega) h⟩
  | vec2 _ hB h9 hc ih =>
    intro ar hL z
    rename_i hT
    obtain ⟨o, ho, hcl⟩ := hc.obj
    simp only [List.length_cons] at z ⊢
    have H := pr_vec2 (a := a) hc h9 hL.around (by omega) (ih (hL.more hB ho hcl) (by simp; omega)) (pr_int (fun cs => eff_int8 hl0) (by simp; omega))
    exact ⟨by have := H.1; simp only [showT] at this ⊢; omega, fun J cs r z1 z2 h => H.2 J cs r (by omega) (by omega) h⟩
theorem tower_fails {B : List Addr} {ls : List (Bool × Bool)} {v : Value} (h : Tower w lb B ls v) : ∀ {ar : List Addr}, Later lb B ar → ar.length ≤ 200 → 200 < ar.length + ls.length → Fails w a lb v ar (1 + 12 * ls.length) := by
  induction h with
  | int => intro ar _ z z2; simp only [List.length_nil] at z2; omega
  | list1 _ hB h9 hc ih =>
    intro ar hL z z2
    rename_i hT
    obtain ⟨o, ho, hcl⟩ := hc.obj
    simp only [List.length_cons] at z2 ⊢
    by_cases e : ar.length = 200
    · exact fun J cs z3 z4 => .raises (eff_raise_cons hc h9 e) ⟨by omega, by omega, by omega⟩
    · have H := fl_list (a := a) hc hT.plain h9 rfl hL.around (by omega) (ih (hL.more hB ho hcl) (by simp; omega) (by simp; omega))
      exact fun J cs z1 z2 => H J cs (by omega) (by omega)
  | list2 _ hB h9 hy hyx hc hc2 ih =>
    intro ar hL z z2
    rename_i hT
    obtain ⟨o, ho, hcl⟩ := hc.obj
    simp only [List.length_cons] at z2 ⊢
    by_cases e : ar.length = 200
    · exact fun J cs z3 z4 => .raises (eff_raise_cons hc h9 e) ⟨by omega, by omega, by omega⟩
    · have H := fl_list (a := a) hc hT.plain h9 rfl hL.around (by omega) (ih (hL.more hB ho hcl) (by simp; omega) (by simp; omega))
      exact fun J cs z1 z2 => H J cs (by omega) (by omega)
  | vec1 _ hB h9 hc ih =>
    intro ar hL z z2
    rename_i hT
    obtain ⟨o, ho, hcl⟩ := hc.obj
    simp only [List.length_cons] at z2 ⊢
    by_cases e : ar.length = 200
    · exact fun J cs z3 z4 => .raises (eff_raise_vec hc h9 e) ⟨by omega, by omega, by omega⟩
    · have H := fl_vec (a := a) hc (by simp) h9 hL.around (by omega) (ih (hL.more hB ho hcl) (by simp; omega) (by simp; omega))
      exact fun J cs z1 z2 => H J cs (by omega) (by omega)
  | vec2 _ hB h9 hc ih =>
    intro ar hL z z2
    rename_i hT
    obtain ⟨o, ho, hcl⟩ := hc.obj
    simp only [List.length_cons] at z2 ⊢
    by_cases e : ar.length = 200
    · exact fun J cs z3 z4 => .raises (eff_raise_vec hc h9 e) ⟨by omega, by omega, by omega⟩
    · have H := fl_vec (a := a) hc (by simp) h9 hL.around (by omega) (ih (hL.more hB ho hcl) (by simp; omega) (by simp; omega))
      exact fun J cs z1 z2 => H J cs (by omega) (by omega)
theorem tower_run {B : List Addr} {ls : List (Bool × Bool)} {v : Value} (h : Tower w lb B ls v) (z : ls.length ≤ 300) : Run w a (prB w a lb) [.datum v] [] [] (if ls.length ≤ 200 then some (showT ls) else none) := by
  split
  · rename_i hz
    have H := tower_prints (a := a) h (ar := []) (fun _ h => nomatch h) (by simp; omega)
    exact H.2 [] [] _ (by simp; omega) (by simp; omega) (by simpa using .done ⟨by have := H.1; omega, by simp, by simp⟩)
  · exact tower_fails (a := a) h (ar := []) (fun _ h => nomatch h) (by simp) (by simp; omega) [] [] (by simp; omega) (by simp; omega)
end
end
section
section
variable {w : World} {a : PA} {lb : List (Addr × Obj)}
/-- lists around the ring -/
inductive Nest (w : World) (lb : List (Addr × Obj)) (g : Addr) : List Addr → Nat → Value → Prop
  | ring : Nest w lb g [] 0 (.ref g)
  | more {as : List Addr} {x : Addr} {v : Value} {k : Nat} : Nest w lb g as k v → x ∉ as → @Ne Nat g x → @Ne Nat x 97 → ConsIn w lb x v (.ref 97) → Nest w lb g (x :: as) (k + 1) (.ref x)
theorem Nest.notg {g : Addr} {as : List Addr} {k : Nat} {v : Value} (h : Nest w lb g as k v) : g ∉ as := by
  induction h with
  | ring => simp
  | more _ _ hg _ _ ih => exact fun q => (List.mem_cons.mp q).elim (fun e => hg e) ih
def showN (tag : List Int) : Nat → List Int
  | 0 => tag
  | k + 1 => 40 :: (showN tag k ++ [41])
theorem Nest.plain {g : Addr} {B : List Addr} {k : Nat} {v : Value} {car cdr : Value} (hg : ConsIn w lb g car cdr) (h : Nest w lb g B k v) : Plain w lb v := by
  cases h with
  | ring => exact .cons hg
  | more _ _ _ _ h => exact .cons h
theorem nest_prints {g : Addr} {car cdr : Value} {tag : List Int} {ar0 : List Addr} (hg : ConsIn w lb g car cdr) (ht : tag.length = 2) (z0 : ar0.length ≤ 50)
    (found : ∀ (ar : List Addr) (cs : List Int), ar.length ≤ 50 → Eff w a (prB w a lb) 404 [.ref g] cs (ar0 ++ ar) False (some ([], cs ++ tag, ar0 ++ ar)))
    {B : List Addr} {k : Nat} {v : Value} (h : Nest w lb g B k v) : ∀ (ar : List Addr), Later lb B (ar0 ++ ar) → ar.length + k ≤ 50 → Prints w a lb v (showN tag k) (ar0 ++ ar) (2 + 12 * k) := by
  induction h with
  | ring =>
    intro ar _ z
    have H := pr_found (a := a) (lb := lb) (x := g) (ar := ar0 ++ ar) (fun cs => found ar cs (by omega)) (by simp; omega)
    exact ⟨by simp [showN, ht], fun J cs r z1 z2 h => H.2 J cs r (by omega) (by omega) h⟩
  | @more B x v k hT hB hgx h9 hc ih =>
    intro ar hL z
    obtain ⟨o, ho, hcl⟩ := hc.obj
    have hA : AroundIn lb x (ar0 ++ ar) := hL.around
    have hL' : Later lb B (ar0 ++ (ar ++ [x])) := by
      rw [← List.append_assoc]
      exact hL.more hB ho hcl
    have IH := ih (ar ++ [x]) hL' (by simp; omega)
    rw [← List.append_assoc] at IH
    have H := pr_list1 (a := a) hc (hT.plain hg) h9 hA (by simp; omega) IH
    exact ⟨by have := H.1; simp only [showN] at this ⊢; omega, fun J cs r z1 z2 h => H.2 J cs r (by omega) (by omega) h⟩
theorem Nest.given {g : Addr} {B : List Addr} {k : Nat} {v : Value} (h : Nest w lb g B k v) : handedIn v = true := by cases h <;> rfl
theorem ring_prints {g c1 : Addr} {t : Tok} {tag : List Int} {pre : List Addr} {v : Value} {k : Nat} {B : List Addr} (hg : ConsIn w lb g (.int 5 t) (.ref c1)) (hc : ConsIn w lb c1 v (.ref 97)) (h9 : @Ne Nat g 97) (h8 : @Ne Nat c1 97) (hcg : @Ne Nat c1 g) (hN : Nest w lb g B k v) (zk : k ≤ 10) (ht : tag.length = 2) (zp : pre.length ≤ 10)
    (hpre : ∀ b ∈ pre, b ∉ B ∧ @Ne Nat b g ∧ ∃ o, (b, o) ∈ lb ∧ o.cls ≠ .type "tuple")
    (found : ∀ (ar : List Addr) (cs : List Int), ar.length ≤ 50 → Eff w a (prB w a lb) 404 [.ref g] cs ((pre ++ [g]) ++ ar) False (some ([], cs ++ tag, (pre ++ [g]) ++ ar))) :
    Prints w a lb (.ref g) (40 :: ([53] ++ (32 :: (showN tag k ++ [41])))) pre (13 + 12 * k) := by
  have hA : AroundIn lb g pre := aroundIn_of fun b hb => ⟨(hpre b hb).2.1, (hpre b hb).2.2⟩
  have hP := nest_prints (a := a) hg ht (ar0 := pre ++ [g]) (by simp; omega) found hN [] (by
    intro b hb
    rw [List.append_nil] at hb
    rcases List.mem_append.mp hb with hb | hb
    · exact ⟨(hpre b hb).1, (hpre b hb).2.2⟩
    · rw [List.mem_singleton.mp hb]; exact ⟨hN.notg, hg.obj⟩) (by simp; omega)
  rw [List.append_nil] at hP
  have H := pr_list2 (a := a) hg hc (.int _ _) hN.given h9 h8 hcg hA (by omega) (pr_int (c := 53) (fun cs => eff_int5 hl0) (by simp; omega)) hP
  exact ⟨by have := H.1; omega, fun J cs r z1 z2 h => H.2 J cs r (by omega) (by omega) h⟩
theorem ring_run {g c1 : Addr} {t : Tok} {v : Value} {k : Nat} {B : List Addr} (hg : ConsIn w lb g (.int 5 t) (.ref c1)) (hc : ConsIn w lb c1 v (.ref 97)) (h9 : @Ne Nat g 97) (h8 : @Ne Nat c1 97) (hcg : @Ne Nat c1 g) (hN : Nest w lb g B k v) (zk : k ≤ 10) :
    Run w a (prB w a lb) [.datum (.ref g)] [] [] (some (40 :: ([53] ++ (32 :: (showN [35, 48] k ++ [41]))))) := by
  have H := ring_prints (a := a) hg hc h9 h8 hcg hN zk (tag := [35, 48]) rfl (pre := []) (by simp) (by simp) (fun ar cs z => eff_found0 (ar := ar) hg h9 (by omega))
  refine H.2 [] [] _ (by simp; omega) (by simp; omega) ?_
  rw [List.nil_append]
  exact .done ⟨by have := H.1; omega, by simp, by simp⟩
theorem ring2_run {g c1 o p : Addr} {t t2 : Tok} {v : Value} {k : Nat} {B : List Addr} (hg : ConsIn w lb g (.int 5 t) (.ref c1)) (hc : ConsIn w lb c1 v (.ref 97)) (h9 : @Ne Nat g 97) (h8 : @Ne Nat c1 97) (hcg : @Ne Nat c1 g) (hN : Nest w lb g B k v) (zk : k ≤ 10)
    (ho : ConsIn w lb o (.ref g) (.ref p)) (hp : ConsIn w lb p (.int 1 t2) (.ref 97)) (o9 : @Ne Nat o 97) (p9 : @Ne Nat p 97) (hpo : @Ne Nat p o) (hBo : o ∉ B) (hog : @Ne Nat o g) :
    Run w a (prB w a lb) [.datum (.ref o)] [] [] (some (40 :: ((40 :: ([53] ++ (32 :: (showN [35, 49] k ++ [41])))) ++ (32 :: ([49] ++ [41]))))) := by
  have ho' := ho
  obtain ⟨dy, t3, t4, mo, -⟩ := ho'
  have HR := ring_prints (a := a) hg hc h9 h8 hcg hN zk (tag := [35, 49]) rfl (pre := [o]) (by simp) (by
    intro b hb
    rw [List.mem_singleton.mp hb]
    exact ⟨hBo, hog, ho.obj⟩) (fun ar cs z => eff_found1 (ar := ar) hg mo h9 hog (by omega))
  have H := pr_list2 (a := a) ho hp (.cons hg) rfl o9 p9 hpo (aroundIn_of (ar := []) (by simp)) (by simp) HR (pr_int (c := 49) (fun cs => eff_int1 hl0) (by simp))
  refine H.2 [] [] _ (by simp; omega) (by simp; omega) ?_
  rw [List.nil_append]
  exact .done ⟨by have := H.1; omega, by simp, by simp⟩
end
end
section
theorem Hold.mk {P : Prop} (h : P) : Hold P := h
noncomputable abbrev PA.with_ (a0 : PA) (pr pd lbl cl jl al : Addr) (t0 t1 t2 t3 t4 t5 : Tok) : PA :=
  { pr := pr, pd := pd, op := a0.op, od := a0.od, lb := lbl, ob := a0.ob, cl := cl, jl := jl, al := al, t := fun n => match n with | 0 => t0 | 1 => t1 | 2 => t2 | 3 => t3 | 4 => t4 | 5 => t5 | n => a0.t n }
theorem use_printed {w : World} {a0 : PA} {lb rest : List (Addr × Obj)} {v : Value} {r : Option (List Int)} {pr pd lbl cl jl al : Addr} {t0 t1 t2 t3 t4 t5 : Tok} (hrun : ∀ a : PA, Run w a (prB w a lb) [.datum v] [] [] r)
    {dp un : Nat} {gd : Option (List Code)} {env : Env} {outer : List Env} {A₀ : Around} {base h₀ : Heap} {L : Addr} {m mg mb : Str → Option Value} {mean : ExcName → Option Value} {s : Shared} {Q E : Value → Shared → Prop}
    (N : News h₀ L s.heap ((al, listOf #[] 0) :: (jl, listOf #[] 0) :: (cl, listOf #[] 0) :: (pr, instObj 449 pd) :: (pd, dictOf [en w "options" t0 (.ref a0.op), en w "obarray" t1 (.ref a0.ob), en w "labels" t2 (.ref lbl), en w "codes" t3 (.ref cl), en w "jobs" t4 (.ref jl), en w "around" t5 (.ref al)] 6) :: rest))
    (G : BaseIs h₀ ((a0.op, instObj 332 a0.od) :: (a0.od, opD w a0) :: lb))
    (n1 : @Ne Nat cl jl) (n2 : @Ne Nat cl al) (n3 : @Ne Nat jl al) (p1 : @Ne Nat pr cl) (p2 : @Ne Nat pr jl) (p3 : @Ne Nat pr al) (d1 : @Ne Nat pd cl) (d2 : @Ne Nat pd jl) (d3 : @Ne Nat pd al)
    (B : Below A₀ base outer h₀) (F : Fr h₀ L s.heap m) (X : (grab.heap_1 w.params).In h₀) (T : Top view (looseW view loose) mean mg mb h₀) (hf : env.frame = some L) (hk : env.scope.kind = .function) (hd : dp + 40 ≤ 900) (hu : un + 20 * 40 ≤ 7000)
    (ret : ∀ rv h' tk' news', Fr h₀ L h' m → News h₀ L h' news' → (rv = .ref cl ∧ ∃ cs us n', r = some cs ∧ IntsAre us cs ∧ (cl, listOf us.toArray n') ∈ news') → Q rv { s with heap := h', toks := tk' })
    (exc : r = none → ∀ e d t1 t2 t3 dv h' tk' G, Fr h₀ L G m → RaisedQ base G (env :: outer) e d [(d, sigD w t1 t2 t3 dv)] h' → G.UpToSlots h' → E (.ref e) { s with heap := h', toks := tk' }) :
    wpAny (model PySem.Challenge.rw_pq0287_01.row.prog w) (AT dp un gd env outer) (call (.ref 397) [.ref pr, v]) Q E s := by
  have N' : News h₀ L s.heap (led (a0.with_ pr pd lbl cl jl al t0 t1 t2 t3 t4 t5) [] [] [] 0 0 0 []) := News.sub N (by
    intro p hp
    simp only [led, List.mem_cons, List.not_mem_nil, or_false] at hp ⊢
    rcases hp with hp | hp | hp
    · exact .inr (.inr (.inl hp))
    · exact .inr (.inl hp)
    · exact .inl hp)
  have H : HidIs s.heap (led (a0.with_ pr pd lbl cl jl al t0 t1 t2 t3 t4 t5) [] [] [] 0 0 0 []) (prB w (a0.with_ pr pd lbl cl jl al t0 t1 t2 t3 t4 t5) lb) := by
    refine HidIs.cons N (.tail _ (.tail _ (.tail _ (.head _)))) ?_ (HidIs.cons N (.tail _ (.tail _ (.tail _ (.tail _ (.head _))))) ?_ (HidIs.of_base F N' G))
    · intro hq
      simp only [led, List.map_cons, List.map_nil, List.mem_cons, List.not_mem_nil, or_false] at hq
      rcases hq with hq | hq | hq
      · exact p1 hq
      · exact p2 hq
      · exact p3 hq
    · intro hq
      simp only [led, List.map_cons, List.map_nil, List.mem_cons, List.not_mem_nil, or_false] at hq
      rcases hq with hq | hq | hq
      · exact d1 hq
      · exact d2 hq
      · exact d3 hq
  exact (printed_loop w (a0.with_ pr pd lbl cl jl al t0 t1 t2 t3 t4 t5) lb v r 0 0 0 [] ⟨n1, n2, n3, fun _ hp => nomatch hp⟩ (hrun _)).use B F X N' T H hf hk hd hu (fun rv h' tk' nw F' N' _ q => ret rv h' tk' nw F' N' q) exc
end
section
section
local macro_rules | `(tactic| walk_at "call builtin:list.pop") => `(tactic| ((with_reducible show wpAny _ _ (call (Value.builtin _) [Value.ref _]) _ _ _); k_dflt (refine' m_pop (us := []) ?F ?N ?U ?z ?_; (case F => k_asm); (case N => k_asm); (case U => k_upd); (case z => kl_room); k_whole); intro h' F' N'; (try k_sweep)))
local macro_rules | `(tactic| walk_at "call ref") => `(tactic| with_reducible refine held397 ?_)
theorem printed_spec (w : World) (a0 : PA) (lb : List (Addr × Obj)) (v : Value) (r : Option (List Int)) (hv : handedIn v = true)
    (hrun : ∀ a : PA, Run w a (prB w a lb) [.datum v] [] [] r) :
    DoesH w 60 460 [v, .ref a0.op, .ref a0.ob] ((a0.op, instObj 332 a0.od) :: (a0.od, opD w a0) :: lb) []
      (fun r' nw => ∃ cl cs us n', r' = .ref cl ∧ r = some cs ∧ IntsAre us cs ∧ (cl, listOf us.toArray n') ∈ nw) (r = none) := by
  unfold DoesH
  k_fill
  intro dp un gd env outer A₀ base h₀ L m mg mb mean s R B F X N T G hf hk hd hu hret hexc
  k_dflt (refine' code_defH ?kH ?k1 ?k2 ?k3 ?k4 ?k5 ?kA ?kF ?kK ?k6 ?k7 ?k8 ?k9 ?kB ?_ ?c2 ?c3 ?c4 ?c5; (case kH => assumption); (case kA => exact rfl); (case kF => first | exact rfl | assumption); (case kK => first | exact rfl | assumption); (case k1 => k_asm); (case k2 => k_asm); (case k3 => k_asm); (case k4 => k_asm); (case k5 => k_asm); (case k6 => k_is); (case k7 => k_is); (case k8 => k_room); (case k9 => first | ktr_rel | exact binds_K (by k_in) rfl (by k_is) rfl rfl rfl | fail "k_enter: no rule for these arguments"); (case c5 => decide); (case kB => exact locs rfl); (case c2 => exact rfl); (case c3 => exact rfl); (case c4 => exact rfl); k_whole; intro g' L' h' FG' F' N' B' X' T' G'; (try dsimp only [List.reverse, List.reverseAux] at F'); (try dsimp only); (try k_fold))
  (rename Below _ _ _ _ => hB1); (rename Fr h₀ L _ m => hG1); (rename Frag.In _ _ => hX1)
  k_steps
  refine hold_turn ?hE ?_
  case hE => first | passes_own | with_unfolding_all passes_own
  k_steps
  refine hold_turn ?hE ?_
  case hE => first | passes_own | with_unfolding_all passes_own
  k_steps
  refine Hold.mk ?_
  (rename News _ _ _ _ => kN)
  (refine' use_printed (a0 := a0) (lb := lb) hrun kN ?G ?n1 ?n2 ?n3 ?p1 ?p2 ?p3 ?d1 ?d2 ?d3 ?B ?F ?X ?T ?hf ?hk ?hd ?hu ?_ ?_)
  case G => assumption
  case B => k_asm
  case F => k_asm
  case X => k_asm
  case T => k_asm
  case hf => rfl
  case hk => rfl
  case hd => (try simp only [depth_in1, depth_deeper]); omega
  case hu => (try simp only [units_in1, units_deeper]); omega
  all_goals (try omega)
  all_goals k_steps
  · rename (_ = _ ∧ _) => hr9
    obtain ⟨rfl, cs, us, n', q1, q2, q3⟩ := hr9
    exact fun hKp => hret _ _ _ _ (by assumption) (by assumption) hKp ⟨_, cs, us, n', rfl, q1, q2, q3⟩
  · k_dflt (exact leave_onQ hB1 (by assumption) (by assumption) (by assumption) (fun h' hR hU => hexc (by assumption) _ _ _ _ _ _ _ _ _ hG1 hR hU))
end
end
end
section
noncomputable abbrev PA.opts (op od ob : Addr) (t6 t7 t8 t9 t10 t11 t12 t13 t14 t15 : Tok) : PA :=
  { pr := 0, pd := 0, op := op, od := od, lb := 0, ob := ob, cl := 0, jl := 0, al := 0, t := fun n => match n with | 6 => t6 | 7 => t7 | 8 => t8 | 9 => t9 | 10 => t10 | 11 => t11 | 12 => t12 | 13 => t13 | 14 => t14 | _ => t15 }
theorem use_printed460 {w : World} {lb rest : List (Addr × Obj)} {v : Value} {r : Option (List Int)} {op od ob : Addr} {t6 t7 t8 t9 t10 t11 t12 t13 t14 t15 : Tok} (hv : handedIn v = true) (hrun : ∀ a : PA, Run w a (prB w a lb) [.datum v] [] [] r)
    {dp un : Nat} {gd : Option (List Code)} {env : Env} {outer : List Env} {A₀ : Around} {base h₀ : Heap} {L : Addr} {m mg mb : Str → Option Value} {mean : ExcName → Option Value} {s : Shared} {Q E : Value → Shared → Prop}
    (N : News h₀ L s.heap ((op, instObj 332 od) :: (od, dictOf [en w "is_quoting" t6 (.bool true), en w "length" t7 (.int (-1) t8), en w "level" t9 (.int (-1) t10), en w "escape_newlines" t11 (.bool false), en w "quoted" t12 (.bool true), en w "circle" t13 (.bool false), en w "gensym" t14 (.bool false), en w "spans_rows" t15 .none] 8) :: rest))
    (G : BaseIs h₀ lb)
    (B : Below A₀ base outer h₀) (F : Fr h₀ L s.heap m) (X : (grab.heap_1 w.params).In h₀) (T : Top view (looseW view loose) mean mg mb h₀) (hf : env.frame = some L) (hk : env.scope.kind = .function) (hd : dp + 60 ≤ 900) (hu : un + 20 * 60 ≤ 7000)
    (ret : ∀ rv h' tk' news', Fr h₀ L h' m → News h₀ L h' news' → (∃ cl cs us n', rv = .ref cl ∧ r = some cs ∧ IntsAre us cs ∧ (cl, listOf us.toArray n') ∈ news') → Q rv { s with heap := h', toks := tk' })
    (exc : r = none → ∀ e d t1 t2 t3 dv h' tk' G, Fr h₀ L G m → RaisedQ base G (env :: outer) e d [(d, sigD w t1 t2 t3 dv)] h' → G.UpToSlots h' → E (.ref e) { s with heap := h', toks := tk' }) :
    wpAny (model PySem.Challenge.rw_pq0287_01.row.prog w) (AT dp un gd env outer) (call (.ref 460) [v, .ref op, .ref ob]) Q E s := by
  have N' : News h₀ L s.heap [] := News.nil
  have H : HidIs s.heap [] ((op, instObj 332 od) :: (od, opD w (PA.opts op od ob t6 t7 t8 t9 t10 t11 t12 t13 t14 t15)) :: lb) :=
    HidIs.cons N (.head _) (by simp) (HidIs.cons N (.tail _ (.head _)) (by simp) (HidIs.of_base F N' G))
  exact (printed_spec w (PA.opts op od ob t6 t7 t8 t9 t10 t11 t12 t13 t14 t15) lb v r hv hrun).use B F X N' T H hf hk hd hu (fun rv h' tk' nw F' N' _ q => ret rv h' tk' nw F' N' q) exc
end
section
section
variable {prog : Program} {w : World} {A : Around} {E : Value → Shared → Prop} {s : Shared} {K : Frag} {x C : Addr} {ox : Obj} {od : Option Obj} {name : Str} {expr : Bool} {Q : Value → Shared → Prop}
theorem looks_isInst {M : Model} {h : Heap} (X : K.In h) (I : InstAt h x ox C od) {b : Value} {r : Bool} (e : mroIn K C b = some r) : Looks M h (isInstance (.ref x) b) r := I.type.andThen (looks_mroIn X e)
theorem get_exc {v : Value} (X : K.In s.heap) (I : InstAt s.heap x ox C od) (hga : findIn K (.ref C) "__getattribute__" = some (some (.builtin "BaseException.__getattribute__"))) (hnk : findIn K (.ref C) "__getattr__" = some none) (hsub : mroIn K C (.type "BaseException") = some true)
    (hf : findObj K C od name = some (.value v)) (hh : handedIn v = true) (h : Q v { s with toks := s.toks + 1 }) : wpAny (model prog w) A (getAttr (.ref x) name expr) Q E s := by
  obtain ⟨hp, g, d, t, os⟩ := s
  have L0 := I.type (M := model prog w)
  have L1 := looks_findIn (M := model prog w) X hga
  have L2 := looks_findIn (M := model prog w) X hnk
  have L3 := looks_isInst (M := model prog w) X I hsub
  have L4 := looks_find (M := model prog w) X I hf
  have f3 := PySem.F.attr_ValueError.ga.bind (.ref x)
  have f4 := PySem.F.attr_ValueError.ga.plain
  have hx0 : (expr && onTheHeap (Value.builtin "BaseException.__getattribute__")) = false := by cases expr <;> rfl
  have hx2 : (Value.builtin "BaseException.__getattribute__" == Value.builtin "object.__getattribute__") = false := by decide +kernel
  have hx1 : (onTheHeap (Value.ref C) && Value.builtin "BaseException.__getattribute__" == Value.builtin "object.__getattribute__") = false := by rw [hx2]; rfl
  have hck : ∀ (nameV : Value) (A' : Around) (Q' : Unit → Shared → Prop) (E' : Value → Shared → Prop) t', Q' () ⟨hp, g, d, t', os⟩ → wpAny (model prog w) A' (checkBuiltinCall "BaseException.__getattribute__" ⟨[.ref x, nameV], []⟩) Q' E' ⟨hp, g, d, t', os⟩ := by
    intro nameV A' Q' E' t' hq
    have hk : builtinKind "BaseException.__getattribute__" = some .slot := by decide +kernel
    have hsplit : splitId "BaseException.__getattribute__" = some ("BaseException", "__getattribute__") := by decide +kernel
    have ha := PySem.F.args_bexc_ga (.ref x) nameV
    simp only [checkBuiltinCall, hk, hsplit]
    refine wpAny_bind ?_
    repeat (first | with_reducible refine L3.at ?_ | wp_step)
    exact hq
  unfold getAttr
  refine wpAny_bind (wpAny_mkText ?_)
  unfold getAttrBy
  refine wpAny_holding (wpAny_bind (L0.at (wpAny_bind (L1.at ?_))))
  dsimp only
  rw [hx1]
  rw [if_neg (by decide)]
  have h1 : onTheHeap (Value.ref C) = true := rfl
  repeat (any_goals (first | assumption | with_reducible refine L0.at ?_ | with_reducible refine L1.at ?_ | with_reducible refine L2.at ?_ | wp_step))
  refine codeAny_call_builtin f4 PySem.F.entry_bexc_ga (hck _ _ _ _ _ ?_)
  repeat (any_goals (first | assumption | with_reducible refine L0.at ?_ | with_reducible refine L4.at ?_ | wp_step))
  show wpAny _ _ (handedOut v) _ _ _
  rw [handedOut_of hh]
  exact wpAny_pure h
theorem get_exc_own {v : Value} {attr : Option Value} {es : List DictEntry} {n : Nat} {h₀ : Heap} {L : Addr} {m : Str → Option Value} (F : Fr h₀ L s.heap m) (X₀ : K.In h₀) (I : InstAt s.heap x ox C (some (dictOf es n)))
    (hga : findIn K (.ref C) "__getattribute__" = some (some (.builtin "BaseException.__getattribute__"))) (hnk : findIn K (.ref C) "__getattr__" = some none) (hsub : mroIn K C (.type "BaseException") = some true)
    (hd : hasDictIn K C = true) (ha : findIn K (.ref C) name = some attr) (hn : noGet K attr = true) (hl : getL name es = some (some v)) (hh : handedIn v = true) (h : Q v { s with toks := s.toks + 1 }) : wpAny (model prog w) A (getAttr (.ref x) name expr) Q E s :=
  get_exc (X₀.keeps F.keep) I hga hnk hsub (findObj_own hd ha hn hl) hh h
end
section
variable {prog : Program} {w : World} {A₀ A : Around} {s : Shared} {base h₀ : Heap} {L : Addr} {m : Str → Option Value} {news hid : List (Addr × Obj)} {K : Frag} {p : Program} {loose : List Str} {mean : ExcName → Option Value} {mg mb : Str → Option Value}
theorem frames_one {env : Env} {L : Addr} (hf : env.frame = some L) {b : Addr} (h : b ∈ [env].filterMap (·.frame)) : b = L := by
  simp only [List.filterMap_cons, hf, List.filterMap_nil, List.mem_singleton] at h
  exact h
theorem code_defHS {env : Env} {R : Result → Shared → Prop} {name qual : Str} {params : Arguments} {body : List Stmt} {scope : Scope} {dV kV doc pm cdv ct oc : Value} {an od : Option Addr} {osl : Array (Option Value)} {f : Addr} {args : Args} {binds : List (Str × Value)}
    (H : HidIs s.heap news hid) (HL : News h₀ L s.heap hid) (B : Below A₀ base [] h₀) (F : Fr h₀ L s.heap m) (X₀ : K.In h₀) (N : News h₀ L s.heap news) (T : Top p loose mean mg mb h₀) (hA : A.frames = some [env]) (hf : env.frame = some L) (hke : env.scope.kind = .function)
    (ho : K.lookup f = some ⟨oc, od, .func (fnOf name qual params body scope dV kV doc pm an cdv ct), osl⟩) (hcd : codeIn K cdv qual = true) (hroom : A.depth < recursionLimit)
    (hbind : BindsTo s (fnOf name qual params body scope dV kV doc pm an cdv ct) args binds) (hloc : ∀ y ∈ binds, scope.names.lookup y.1 = some .local)
    (h : ∀ g L' h₁, Fr h₀ L g m → Fr g L' h₁ (fun y => binds.reverse.lookup y) → News g L' h₁ news → Below A base [env] g → K.In g → Top p loose mean mg mb g → KtsDicts ([env].filterMap (·.frame)) g → BaseIs g hid →
      wpAny (model prog w) (A.deeper (envOf qual scope L' f cdv)) (execs body (envOf qual scope L' f cdv))
        (fun fl s' => LeaveS0 ([env].filterMap (·.frame)) h₀ L m g (fun r s'' => News h₀ L s''.heap hid → R r s'') (match fl with | .ret v => v | _ => .none) s')
        (fun e s' => wpAny (model prog w) (A.deeper (envOf qual scope L' f cdv)) (leaving (envOf qual scope L' f cdv) e) (fun _ s'' => R (.error e) s'') (fun e' s'' => R (.error e') s'') s')
        { s with heap := h₁, toks := s.toks + binds.length })
    (hco : scope.isCoroutine = false) (hgen : scope.isGenerator = false) (hk : scope.kind = .function)
    (hcell : ∀ x ∈ scope.names, x.2 ≠ .cell) : codeAny (model prog w) A (.call (.ref f) args) R s := by
  have ho' := (X₀.keeps F.keep) _ _ ho
  obtain ⟨FG, BG, st, _⟩ := groundX (R := R) B F N hA hf hke
  have G : BaseIs (hideAll s.heap (news.map (·.1))) hid := fun q hq => hideAll_get _ (H q hq).1 (H q hq).2
  obtain ⟨oL, es, ep, hL, hLd, hLk, hLf⟩ := F.ns
  have nL : L ∉ news.map (·.1) := fun q => by
    obtain ⟨p, hp, e⟩ := List.mem_map.mp q
    exact (N p hp).2.1 e
  have hLg := hideAll_get (news.map (·.1)) hL nL
  refine codeAny_call_def (fd := fnOf name qual params body scope dV kV doc pm an cdv ct) (body := body) (binds := binds) hroom ho' rfl (T.nolimit.keeps F.keep) (codeRec_of (X₀.keeps F.keep) hcd) rfl hbind hcell hloc (fun h₁ hns hk₁ => ?_) hco hgen hk
  refine wpAny_mono (h _ s.heap.objs.size h₁ FG ⟨hns, fun b o e => hk₁ b o (of_hideAll _ e), Nat.le_of_eq (hideAll_size _ _)⟩
    (fun p hp => ⟨hk₁ _ _ (N p hp).1, Nat.ne_of_lt (Heap.lt_size (N p hp).1), hideAll_none _ (List.mem_map_of_mem hp)⟩) BG (X₀.keeps st) (T.keeps st) (fun b hb => by
      rw [frames_one hf hb]
      exact ⟨oL, es, ep, hLg, hLd⟩) G) (fun fl s' hl => ?_) fun _ _ y => y
  obtain ⟨g', L', m', news', T', F', N', k⟩ := hl
  have nL₀ : h₀.get? L = none := kts_self F
  obtain ⟨sl, hs⟩ := T'.up hLg
  refine k ⟨⟨{ oL with slots := sl }, es, ep, F'.keep _ _ hs, hLd, hLk, hLf⟩, fun b o e => F'.keep b o (T'.other b o (st b o e) (fun q => by
    rw [frames_one hf q, nL₀] at e
    cases e)), F.above⟩ (fun p hp => ⟨(N' p hp).1, fun q => ?_, ?_⟩) fun q hq => ⟨F'.keep _ _ (T'.other _ _ (G q hq) fun z => (HL q hq).2.1 (frames_one hf z)), (HL q hq).2⟩
  · have := (N' p hp).2.2; rw [q, hs] at this; cases this
  · cases q : h₀.get? p.1 with
    | none => rfl
    | some o =>
      obtain ⟨sl', hs'⟩ := T'.up (st _ _ q)
      have := (N' p hp).2.2
      rw [hs'] at this
      cases this
end
theorem HidIs.of_nil {h₀ h : Heap} {L : Addr} {hid : List (Addr × Obj)} (N : News h₀ L h hid) : HidIs h [] hid := fun p hp => ⟨(N p hp).1, by simp⟩
/-- _law_heard, called from the law itself: the data told stand again after it -/
def DoesT (w : World) (D : Nat) (f : Addr) (vs : List Value) (hid : List (Addr × Obj)) (Ret : Value → List (Addr × Obj) → Prop) : Prop :=
  ∀ (dp un : Nat) (gd : Option (List Code)) (env : Env) (A₀ : Around) (base h₀ : Heap) (L : Addr) (m mg mb : Str → Option Value) (mean : ExcName → Option Value) (s : Shared) (R : Result → Shared → Prop),
    Below A₀ base [] h₀ → Fr h₀ L s.heap m → (grab.heap_1 w.params).In h₀ → (grab.heap_1 w.params).In base → Top view (looseW view loose) mean mg mb h₀ → Top view (looseW view loose) mean mg mb base → News h₀ L s.heap hid → env.frame = some L → env.scope.kind = .function → dp + D ≤ 900 → un + 20 * D ≤ 7000 →
    (∀ r h' tk' news', Fr h₀ L h' m → News h₀ L h' news' → News h₀ L h' hid → Ret r news' → R (.ok (.ret r)) { s with heap := h', toks := tk' }) →
    codeAny (model PySem.Challenge.rw_pq0287_01.row.prog w) (AT dp un gd env []) (.call (.ref f) ⟨vs, []⟩) R s
theorem ints_at {us : List Value} {cs : List Int} (h : IntsAre us cs) : ∀ {i : Nat} {v : Value}, us[i]? = some v → ∃ c t, v = .int c t ∧ cs[i]? = some c := by
  induction h with
  | nil => intro i v e; simp at e
  | cons k t h ih =>
    intro i v e
    cases i with
    | zero => simp only [List.getElem?_cons_zero, Option.some.injEq] at e ⊢; exact ⟨k, t, e.symm, rfl⟩
    | succ i => simp only [List.getElem?_cons_succ] at e ⊢; exact ih e
def sign (c : Int) : Str := ⟨#[c.toNat]⟩
theorem strsAre_snoc {us : List Value} {ws : List Str} {y : Str} {t : Tok} (h : StrsAre us ws) : StrsAre (us ++ [.str y t]) (ws ++ [y]) := by
  induction h with
  | nil => exact .cons _ _ .nil
  | cons a b _ ih => exact .cons a b ih
noncomputable def told (cs : List Int) : Str := Txt.join (Str.ofString "") (cs.map sign)
theorem signs_len (cs : List Int) : ((cs.map sign).map (·.length)).sum = cs.length := by
  induction cs with
  | nil => rfl
  | cons c cs ih =>
    simp only [List.map_cons, List.sum_cons, ih, List.length_cons]
    show 1 + _ = _
    omega
end
section
section
local macro_rules | `(tactic| walk_at "call ref") => `(tactic| with_reducible refine held460 ?_)
theorem prin1_spec (w : World) (ob : Addr) (lb : List (Addr × Obj)) (v : Value) (r : Option (List Int)) (hv : handedIn v = true)
    (hrun : ∀ a : PA, Run w a (prB w a lb) [.datum v] [] [] r) :
    DoesX w 70 467 [v, .ref ob] lb []
      (fun r' nw => ∃ cl cs us n', r' = .ref cl ∧ r = some cs ∧ IntsAre us cs ∧ (cl, listOf us.toArray n') ∈ nw) (r = none) := by
  unfold DoesX
  k_fill
  intro dp un gd env outer A₀ base h₀ L m mg mb mean s R B F X N T G hf hk hd hu hret hexc
  k_dflt k_enter
  (rename Below _ _ _ _ => hB1); (rename Fr h₀ L _ m => hG1); (rename Frag.In _ _ => hX1)
  k_steps
  refine Hold.mk ?_
  (rename News _ _ _ _ => kN)
  (refine' use_printed460 (lb := lb) hv hrun kN ?G ?B ?F ?X ?T ?hf ?hk ?hd ?hu ?_ ?_)
  case G => assumption
  case B => k_asm
  case F => k_asm
  case X => k_asm
  case T => k_asm
  case hf => rfl
  case hk => rfl
  case hd => (try simp only [depth_in1, depth_deeper]); omega
  case hu => (try simp only [units_in1, units_deeper]); omega
  all_goals k_steps
  · exact hret _ _ _ _ (by assumption) (by assumption) (by assumption)
  · k_dflt (exact leave_onQ hB1 (by assumption) (by assumption) (by assumption) (fun h' hR hU => hexc (by assumption) _ _ _ _ _ _ _ _ _ hG1 hR hU))
end
end
section
section
local macro_rules | `(tactic| walk_at "call ref") => `(tactic| with_reducible refine held467 ?_)
local macro_rules | `(tactic| walk_at "eval ListComp") => `(tactic| (k_dflt (refine LCg.ListComp_U (F₀ := by k_asm) (by rfl) (by decide) (by rfl) (by decide) (by rfl) ?_)))
theorem heard_spec (w : World) (lb : List (Addr × Obj)) (v : Value) (r : Option (List Int)) (hv : handedIn v = true)
    (hrun : ∀ a : PA, Run w a (prB w a lb) [.datum v] [] [] r) (hr : ∀ cs, r = some cs → cs.length ≤ 100000 ∧ ∀ c ∈ cs, 0 ≤ c ∧ c < 128) :
    DoesT w 80 568 [v] lb (fun r' nw => (∃ cs t, r = some cs ∧ r' = .str (told cs) t) ∨ (r = none ∧ ∃ x t n, r' = .ref x ∧ (x, listOf #[.str (Str.ofString "error") t] n) ∈ nw)) := by
  unfold DoesT
  k_fill
  intro dp un gd env A₀ base h₀ L m mg mb mean s R B F X XB T TB NH hf hk hd hu hret
  k_dflt (refine' code_defHS ?kH ?kN ?k1 ?k2 ?k3 ?k4 ?k5 ?kA ?kF ?kK ?k6 ?k7 ?k8 ?k9 ?kB ?_ ?c2 ?c3 ?c4 ?c5; (case kH => exact HidIs.of_nil NH); (case kN => exact NH); (case kA => exact rfl); (case kF => first | exact rfl | assumption); (case kK => first | exact rfl | assumption); (case k1 => k_asm); (case k2 => k_asm); (case k3 => k_asm); (case k4 => exact News.nil); (case k5 => k_asm); (case k6 => k_is); (case k7 => k_is); (case k8 => k_room); (case k9 => first | ktr_rel | exact binds_K (by k_in) rfl (by k_is) rfl rfl rfl | fail "k_enter: no rule for these arguments"); (case c5 => decide); (case kB => exact locs rfl); (case c2 => exact rfl); (case c3 => exact rfl); (case c4 => exact rfl); k_whole; intro g' L' h' FG' F' N' B' X' T' D' G'; (try dsimp only [List.reverse, List.reverseAux] at F'); (try dsimp only); (try k_fold))
  (rename Below _ _ _ _ => hB1); (rename Fr h₀ L _ m => hG1); (rename Frag.In _ _ => hX1)
  (rename BaseIs _ _ => hG2)
  k_steps
  refine Hold.mk ?_
  k_dflt (refine' DoesX.use (prin1_spec w _ lb v r hv hrun) ?B ?F ?X News.nil ?T ?G ?hf ?hk ?hd ?hu ?_ ?_)
  case B => k_asm
  case F => k_asm
  case X => k_asm
  case T => k_asm
  case G => assumption
  case hf => rfl
  case hk => rfl
  case hd => (try simp only [depth_in1, depth_deeper]); omega
  case hu => (try simp only [units_in1, units_deeper]); omega
  · intro rv h' tk' nw F9 N9 hr9
    obtain ⟨cl, cs, us, n', rfl, q1, q2, q3⟩ := hr9
    obtain ⟨z1, z2⟩ := hr _ q1
    have hlen := IntsAre.length q2
    refine LCg.CompSrc.ledger rfl F9 N9 q3 (by rw [sizeLine_eq, List.size_toArray]; omega) fun g => ?_
    refine rest_inv (fun i ys nw' => nw' = nw ∧ StrsAre ys ((cs.take i).map sign)) us.toArray.size ?_ ?_ _ 0 [] nw (by omega) ⟨rfl, by simp; exact .nil⟩
    · rintro ys nw' ⟨rfl, hi⟩
      unfold LCg.FinE
      intro D' h'' tk'' F8 N8 o1
      rw [List.size_toArray, hlen, List.take_length] at hi
      k_steps
      have hl : Heap.IsList h'' D' ys.toArray := ⟨_, (N8 _ (.head _)).1, rfl, _, rfl⟩
      refine' join_list ?hl hi ?_ (fun t' k => ?_)
      case hl => exact hl
      · rw [signs_len]
        rw [show (Str.ofString "").length = 0 from by decide, List.length_map]; omega
      k_steps
      exact hret _ _ _ _ (by assumption) (by assumption) (by assumption) (.inl ⟨cs, _, q1, rfl⟩)
    · rintro i ys nw' vv I oI C oC D m₂ h tk2 E' hlt ⟨rfl, hi⟩ hP hC hx F' N' off ne
      obtain ⟨c, tc, rfl, hc⟩ := ints_at q2 (by simpa using hP)
      have hc2 := z2 c (List.mem_of_getElem? hc)
      k_steps
      refine LCg.CompEnd.intro (by assumption) (by assumption) _ (fun p hp => hp) off (.inr ⟨_, q3, rfl, _, rfl⟩) ⟨rfl, ?_⟩
      rw [List.take_add_one, hc, List.map_append]
      exact strsAre_snoc hi
  · k_steps
    refine caughtQ (by assumption) (by assumption) hB1 (by assumption) XB TB (by assumption) KtsTurn.refl ?ex ?q ?_
    case ex => k_is
    case q => kts_isx
    intro h' g₂ oe tk vs T' F' N' c1 c2 c3 K' X' P' D'
    have iX : InstAt h' _ oe 38 (some _) := ⟨(N' _ (.head _)).1, c1, by unfold notCls; rw [c3], by rw [c2]; exact (N' _ (.tail _ (.head _))).1⟩
    k_steps
    k_dflt (refine' get_exc_own ?k1 ?k2 iX ?k3 ?k4 ?k5 ?k6 ?k7 ?k8 ?k9 ?k10 ?_)
    case k1 => k_asm
    case k2 => k_asm
    case k3 => k_is
    case k4 => k_is
    case k5 => k_is
    case k6 => k_is
    case k7 => k_is
    case k8 => k_is
    case k9 => k_get
    case k10 => rfl
    k_steps
    exact hret _ _ _ _ (by assumption) (by assumption) (by assumption) (.inr ⟨by assumption, _, _, _, rfl, .head _⟩)
end
end
section
theorem fresh_of {g h : Heap} {L c : Addr} {o : Obj} {hid nw : List (Addr × Obj)} (G : BaseIs g hid) (N : News g L h nw) (hm : (c, o) ∈ nw) : ∀ p ∈ hid, @Ne Nat p.1 c := fun p hp e => by
  have h1 := G p hp
  have h2 := (N _ hm).2.2
  rw [e] at h1
  simp only [h1] at h2
  cases h2
section
theorem m_pop0 {prog : Program} {w : World} {A : Around} {E : Value → Shared → Prop} {s : Shared} {h₀ : Heap} {L D : Addr} {m : Str → Option Value} {news news' : List (Addr × Obj)} {n : Nat} {us : List Value} {y : Value} {u : Tok} {Q : Value → Shared → Prop} (F : Fr h₀ L s.heap m) (N : News h₀ L s.heap news) (U : Upd D (listOf (y :: us).toArray n) (listOf us.toArray (n + 1)) news news') (hz : us.length ≤ 100000)
    (h : ∀ h', Fr h₀ L h' m → News h₀ L h' news' → Q y { s with heap := h' }) : wpAny (model prog w) A (call (.builtin "list.pop") [.ref D, .int 0 u]) Q E s :=
  kl_popAt (k := 0) (p := []) (q := us) F N (by decide) (seqIndex_of (k := 0) (by decide) (by simp only [List.size_toArray, List.length_cons]; omega)) rfl U (by have := sizeLine_eq; simp; omega) h
local macro_rules | `(tactic| k_mem) => `(tactic| with_reducible assumption)
local macro_rules | `(tactic| lsm_bools) => `(tactic| ((try simp only [List.length_append, List.length_cons, List.length_nil, beq_iff_eq, bne_iff_ne, beq_eq_false_iff_ne, ne_eq, decide_eq_true_eq, decide_eq_false_iff_not, Bool.and_eq_true, Bool.not_eq_true', Bool.not_eq_false', Bool.not_eq_true, Bool.not_eq_eq_eq_not]); first | omega | (simp; done)))
local macro_rules | `(tactic| walk_at "exec While BoolOp") => `(tactic| (k_dflt (refine hold_while ?_)))
local macro_rules | `(tactic| walk_at "WhlRest") => `(tactic| (refine Hold.out ?_))
local macro_rules | `(tactic| walk_at "WhlIf") => `(tactic| first | (refine WhlIf.yes (by lsm_bools) ?_) | (refine WhlIf.no (by lsm_bools) ?_))
local macro_rules | `(tactic| walk_at "subscriptTail Name Constant ref int") => `(tactic| ((with_reducible show wpAny _ _ (subscriptTail _ _ (Value.ref _) (Value.int _ _)) _ _ _); k_dflt ((with_unfolding_all refine' item_listL ?k1 ?k2 ?k3 ?k4 ?_ ?k6 ?k7; (case k1 => exact News.isList (by k_asm) (by k_mem)); (case k2 => omega); (case k3 => omega); (case k4 => rfl); (case k6 => with_unfolding_all rfl); (case k7 => (intro _; with_unfolding_all rfl)); k_whole))))
local macro_rules | `(tactic| walk_at "subscriptTail Subscript Constant ref int") => `(tactic| ((with_reducible show wpAny _ _ (subscriptTail _ _ (Value.ref _) (Value.int _ _)) _ _ _); k_dflt ((with_unfolding_all refine' item_listL ?k1 ?k2 ?k3 ?k4 ?_ ?k6 ?k7; (case k1 => exact News.isList (by k_asm) (by k_mem)); (case k2 => omega); (case k3 => omega); (case k4 => rfl); (case k6 => with_unfolding_all rfl); (case k7 => (intro _; with_unfolding_all rfl)); k_whole))))
local macro_rules | `(tactic| walk_at "compareOp NotEq ref ref") => `(tactic| ((with_reducible show wpAny _ _ (compareOp CmpOp.NotEq (Value.ref _) (Value.ref _)) _ _ _); k_dflt (refine' ne_intsK ?k1 ?k2 ?k3 (IntsAre.nil) ?k5 ?_; (case k2 => assumption); (case k1 => exact News.isList (by k_asm) (by k_mem)); (case k3 => exact News.isList (by k_asm) (by k_mem)); (case k5 => units_room); k_whole)))
local macro_rules | `(tactic| walk_at "call builtin:list.pop") => `(tactic| ((with_reducible show wpAny _ _ (call (Value.builtin _) [Value.ref _, Value.int _ _]) _ _ _); k_dflt (refine' m_pop0 ?F ?N ?U ?z ?_; (case F => k_asm); (case N => k_asm); (case U => k_upd); (case z => omega); k_whole); intro h' F' N'; (try k_sweep)))
theorem draw_spec (w : World) (D D1 : Addr) (many : Int) (tm tk0 : Tok) (mx : Int) (ys : List Value) (zs : List Int) (n0 n1 : Nat) (tl : List (Addr × Obj)) (hm : 0 < many) (hM : many ≤ 1000) (hi : IntsAre ys zs) (h0 : ∀ z ∈ zs, 0 ≤ z) (hmx : 0 ≤ mx) (hzs : zs.length ≤ 1000) (hne : @Ne Nat D D1) (hoff : OwnOff tl [D, D1]) :
    Does w 5 556 [.ref D, .int many tk0] [] ((D, listOf #[.ref D1, .int mx tm] n0) :: (D1, listOf ys.toArray n1) :: tl)
      (fun r nw => ∃ k t, r = .int k t ∧ 0 ≤ k ∧ k < many ∧ ∃ ys' zs' mx' tm' n0' n1', IntsAre ys' zs' ∧ (∀ z ∈ zs', 0 ≤ z) ∧ 0 ≤ mx' ∧ zs'.length ≤ 1000 ∧ ∀ p ∈ (D, listOf #[.ref D1, .int mx' tm'] n0') :: (D1, listOf ys'.toArray n1') :: tl, p ∈ nw) NoExc := by
  unfold Does
  k_fill
  intro dp un gd env outer A₀ base h₀ L m mg mb mean s R B F X N T G hf hk hd hu hret hexc
  k_dflt k_enter
  (rename Below _ _ _ _ => hB1); (rename Fr h₀ L _ m => hG1); (rename Frag.In _ _ => hX1)
  k_steps
  (rename Fr _ _ _ _ => F1); (rename News _ _ _ _ => N1)
  rename Heap => h9
  revert F1 N1
  generalize s.toks + List.length _ = tk
  revert tk
  revert h9
  clear N
  induction zs generalizing ys n1 with
  | nil =>
    intro h9 tk F1 N1
    cases hi
    refine hold_turn ?hE ?_
    case hE => first | passes_own | with_unfolding_all passes_own
    k_steps
    exact hret _ _ _ _ (by assumption) (by assumption) ⟨_, _, rfl, Int.fmod_nonneg_of_pos _ hm, Int.fmod_lt_of_pos _ hm, [], [], _, _, _, _, .nil, (fun _ h => nomatch h), Int.fmod_nonneg_of_pos _ (show (0 : Int) < 2147483647 by decide), by simp, by tb_start⟩
  | cons z r ih =>
    intro h9 tk F1 N1
    cases hi with | cons _ tz hi =>
    by_cases hz : z = 0
    · subst hz
      have hlen := IntsAre.length hi
      simp only [List.length_cons] at hzs
      refine hold_turn ?hE ?_
      case hE => first | passes_own | with_unfolding_all passes_own
      k_steps
      rename_i F8 N8
      exact ih _ _ hi (fun x hx => h0 x (.tail _ hx)) (by omega) _ _ (by assumption) (News.sub N8 (by tb_start))
    · refine hold_turn ?hE ?_
      case hE => first | passes_own | with_unfolding_all passes_own
      k_steps
      exact hret _ _ _ _ (by assumption) (by assumption) ⟨_, _, rfl, Int.fmod_nonneg_of_pos _ hm, Int.fmod_lt_of_pos _ hm, _, z.fdiv many :: r, _, _, _, _, .cons _ _ hi, (fun x hx => by
        rcases List.mem_cons.mp hx with rfl | hx
        · exact Int.fdiv_nonneg (h0 z (.head _)) (by omega)
        · exact h0 x (.tail _ hx)), hmx, by simpa using hzs, by tb_start⟩
end
end
section
section
variable {prog : Program} {w : World} {A : Around} {E : Value → Shared → Prop} {s : Shared} {h₀ : Heap} {L : Addr} {m : Str → Option Value} {env : Env}
theorem rest_invT {ct elt : PySem.Expr} {x : Str} {scope : Scope} {cl : List (Str × Addr)} {S : List (Addr × Obj) → Prop} {P : Nat → Value → Prop} {Fin : List Value → List (Addr × Obj) → Prop} (J : Nat → List Value → List (Addr × Obj) → Prop) (N : Nat)
    (fin : ∀ ys nw, J N ys nw → Fin ys nw)
    (step : ∀ i ys nw v I oI C oC D m₂ h tk (E' : Value → Shared → Prop), i < N → J i ys nw → P i v → LCg.NsObj oC m₂ → m₂ x = some v → Fr h₀ L h m → News h₀ L h ((I, oI) :: (C, oC) :: (D, LCg.lst ys) :: nw) → LCg.Off3 I C D nw → ((@Ne Nat I C) ∧ (@Ne Nat I D) ∧ (@Ne Nat C D)) →
      wpAny (model prog w) A (isTrue ct (compEnvC scope cl C env) (eval ct (compEnvC scope cl C env))) (fun ok s' => if ok = true then
        wpAny (model prog w) A (eval elt (compEnvC scope cl C env)) (LCg.CompEnd h₀ L m { s with heap := h, toks := tk } I oI C oC D (LCg.lst ys) S (fun y nw' => J (i + 1) (ys ++ [y]) nw')) E' s'
        else LCg.CompEnd h₀ L m { s with heap := h, toks := tk } I oI C oC D (LCg.lst ys) S (fun _ nw' => J (i + 1) ys nw') Value.none s') E' { s with heap := h, toks := tk }) :
    ∀ n i ys nw, i + n = N → J i ys nw → LCt.CompRestT prog w A h₀ L m env ct elt x scope cl s S P Fin n i ys nw := by
  intro n
  induction n with
  | zero => intro i ys nw e j; exact LCt.CompRestT.zero (fin ys nw (by have : i = N := by omega
                                                                       rw [← this]; exact j))
  | succ n ih =>
    intro i ys nw e j
    refine LCt.CompRestT.succ fun v I oI C oC D m₂ h tk E' hP hC hx F N' off ne => ?_
    refine wpAny_mono (step i ys nw v I oI C oC D m₂ h tk E' (by omega) j hP hC hx F N' off ne) (fun ok s' he => ?_) fun _ _ q => q
    split at he
    · rename_i hok
      rw [if_pos hok]
      refine wpAny_mono he (fun y s' he => ?_) fun _ _ q => q
      obtain ⟨h', tk', nw', a1, a2, a3, a4, a5, a6⟩ := he
      exact ⟨h', tk', nw', a1, a2, a3, a4, a5, ih (i + 1) _ _ (by omega) a6⟩
    · rename_i hok
      rw [if_neg hok]
      obtain ⟨h', tk', nw', a1, a2, a3, a4, a5, a6⟩ := he
      exact ⟨h', tk', nw', a1, a2, a3, a4, a5, ih (i + 1) _ _ (by omega) a6⟩
end
theorem foldl_nonneg (zs : List Int) : ∀ a : Int, 0 ≤ a → 0 ≤ zs.foldl (fun a' n' => (a' * 31 + n' + 3).fmod 2147483647) a := by
  induction zs with
  | nil => intro a h; exact h
  | cons z zs ih => intro a _; exact ih _ (Int.fmod_nonneg_of_pos _ (by decide))
end
section
section
local macro_rules | `(tactic| walk_at "eval ListComp") => `(tactic| (k_dflt (refine Hold.out ?_)))
theorem deck_spec (w : World) (a : Addr) (o : Obj) (ws : List Value) (ns : List Int) (n : Nat) (hid : List (Addr × Obj)) (hc : o.cls = .type "list") (hd0 : o.data = .seq ws.toArray n) (hi : IntsAre ws ns) (hz : ns.length ≤ 100000) :
    DoesH w 5 549 [.ref a] ((a, o) :: hid) []
      (fun r nw => ∃ D D1 ys zs mx t, r = .ref D ∧ IntsAre ys zs ∧ (∀ z ∈ zs, 0 ≤ z) ∧ 0 ≤ mx ∧ zs.length ≤ 1000 ∧ (∀ p ∈ (D, listOf #[.ref D1, .int mx t] 0) :: (D1, LCg.lst ys) :: [], p ∈ nw) ∧ @Ne Nat D D1 ∧ (∀ p ∈ (a, o) :: hid, @Ne Nat p.1 D) ∧ (∀ p ∈ (a, o) :: hid, @Ne Nat p.1 D1)) False := by
  unfold DoesH
  k_fill
  intro dp un gd env outer A₀ base h₀ L m mg mb mean s R B F X N T G hf hk hd hu hret hexc
  k_dflt (refine' code_defH ?kH ?k1 ?k2 ?k3 ?k4 ?k5 ?kA ?kF ?kK ?k6 ?k7 ?k8 ?k9 ?kB ?_ ?c2 ?c3 ?c4 ?c5; (case kH => assumption); (case kA => exact rfl); (case kF => first | exact rfl | assumption); (case kK => first | exact rfl | assumption); (case k1 => k_asm); (case k2 => k_asm); (case k3 => k_asm); (case k4 => k_asm); (case k5 => k_asm); (case k6 => k_is); (case k7 => k_is); (case k8 => k_room); (case k9 => first | ktr_rel | exact binds_K (by k_in) rfl (by k_is) rfl rfl rfl | fail "k_enter: no rule for these arguments"); (case c5 => decide); (case kB => exact locs rfl); (case c2 => exact rfl); (case c3 => exact rfl); (case c4 => exact rfl); k_whole; intro g' L' h' FG' F' N' B' X' T' G'; (try dsimp only [List.reverse, List.reverseAux] at F'); (try dsimp only); (try k_fold))
  (rename BaseIs _ _ => hG2)
  have hL := show Heap.IsList _ a ws.toArray from ⟨o, hG2 (a, o) (.head _), hc, n, hd0⟩
  k_steps
  refine Hold.mk ?_
  k_dflt (refine LCg.ListComp_U (F₀ := by k_asm) (by rfl) (by decide) (by rfl) (by decide) (by rfl) ?_)
  k_steps
  refine Hold.mk ?_
  k_dflt (refine LCt.ListComp_T (F₀ := by k_asm) (by rfl) (by decide) (by rfl) (by decide) (by rfl) ?_)
  k_steps
  (rename News _ _ _ _ => N1); (rename Fr _ _ _ _ => F1); (rename IntsAre _ (List.map _ _) => hI2)
  have hlen := IntsAre.length hI2
  have hlen2 : (List.map (fun k' : Int => (if k' < 0 then -k' else k').fmod (10 ^ Int.toNat 60)) (List.take 24 ns)).length ≤ 24 := by simp; omega
  have hpos : ∀ z ∈ List.map (fun k' : Int => (if k' < 0 then -k' else k').fmod (10 ^ Int.toNat 60)) (List.take 24 ns), 0 ≤ z := by
    intro z hz
    obtain ⟨k, _, rfl⟩ := List.mem_map.mp hz
    exact Int.fmod_nonneg_of_pos _ (Int.pow_pos (by decide))
  refine LCt.CompSrcT.ledger rfl F1 N1 (.tail _ (.head _)) (by rw [sizeLine_eq, List.size_toArray]; omega) fun g => ?_
  refine rest_invT (fun i ys nw => nw = _ ∧ ∃ zs : List Int, IntsAre ys zs ∧ (∀ z ∈ zs, 0 ≤ z) ∧ zs.length ≤ i) _ ?_ ?_ _ 0 [] _ (Nat.zero_add _) ⟨rfl, [], .nil, by simp, by simp⟩
  · rintro ys nw ⟨rfl, zs, hys, hz0, hzl⟩
    rw [List.size_toArray] at hzl
    unfold LCg.FinE
    intro D2 h2 tk2 F2 N2 o2
    clear F1 N1
    k_steps
    exact fun hKp => hret _ _ _ _ (by assumption) (by assumption) hKp ⟨_, _, ys, zs, _, _, rfl, hys, hz0, foldl_nonneg _ 7 (by decide), by omega, by tb_start, by omega, fresh_of hG2 (by assumption) (.head _), fresh_of hG2 (by assumption) (.tail _ (.head _))⟩
  · rintro i ys nw v I oI C oC D m₂ h tk' E' hlt ⟨rfl, zs, hys, hz0, hzl⟩ hP hC hx F' N' off ne
    obtain ⟨c, tc, rfl, hc⟩ := ints_at hI2 (by simpa using hP)
    have hc0 := hpos c (List.mem_of_getElem? hc)
    k_steps
    · refine LCg.CompEnd.intro (by assumption) (by assumption) _ (fun p hp => hp) off (.inr ⟨_, .tail _ (.head _), rfl, _, rfl⟩) ⟨rfl, _, ksk_snoc hys, ?_, by simp; omega⟩
      intro z hz
      rcases List.mem_append.mp hz with hz | hz
      · exact hz0 z hz
      · rw [List.mem_singleton.mp hz]; exact hc0
    · exact LCg.CompEnd.intro (by assumption) (by assumption) _ (fun p hp => hp) off (.inr ⟨_, .tail _ (.head _), rfl, _, rfl⟩) ⟨rfl, _, hys, hz0, by omega⟩
end
end
end
end
section
section
theorem list_of_1 (w : World) (l : Addr) (x : Value) (n : Nat) (hid : List (Addr × Obj)) (hx : handedIn x = true) :
    DoesH w 8 250 [.ref l] hid [(l, listOf #[x] n)]
      (fun r nw => ∃ c dx t1 t2, r = .ref c ∧ (∀ p ∈ (c, instObj 118 dx) :: (dx, consD w t1 t2 x (.ref 97)) :: [], p ∈ nw) ∧ (∀ p ∈ hid, @Ne Nat p.1 c) ∧ (∀ p ∈ hid, @Ne Nat p.1 dx)) False := by
  unfold DoesH
  k_fill
  intro dp un gd env outer A₀ base h₀ L m mg mb mean s R B F X N T G hf hk hd hu hret hexc
  k_dflt (refine' code_defH ?kH ?k1 ?k2 ?k3 ?k4 ?k5 ?kA ?kF ?kK ?k6 ?k7 ?k8 ?k9 ?kB ?_ ?c2 ?c3 ?c4 ?c5; (case kH => assumption); (case kA => exact rfl); (case kF => first | exact rfl | assumption); (case kK => first | exact rfl | assumption); (case k1 => k_asm); (case k2 => k_asm); (case k3 => k_asm); (case k4 => k_asm); (case k5 => k_asm); (case k6 => k_is); (case k7 => k_is); (case k8 => k_room); (case k9 => first | ktr_rel | exact binds_K (by k_in) rfl (by k_is) rfl rfl rfl | fail "k_enter: no rule for these arguments"); (case c5 => decide); (case kB => exact locs rfl); (case c2 => exact rfl); (case c3 => exact rfl); (case c4 => exact rfl); k_whole; intro g' L' h' FG' F' N' B' X' T' G'; (try dsimp only [List.reverse, List.reverseAux] at F'); (try dsimp only); (try k_fold))
  (rename BaseIs _ _ => hG2)
  k_steps
  exact fun hKp => hret _ _ _ _ (by assumption) (by assumption) hKp ⟨_, _, _, _, rfl, by tb_start, fresh_of hG2 (by assumption) (by k_mem), fresh_of hG2 (by assumption) (by k_mem)⟩
theorem list_of_2 (w : World) (l : Addr) (x y : Value) (n : Nat) (hid : List (Addr × Obj)) (hx : handedIn x = true) (hy : handedIn y = true) :
    DoesH w 8 250 [.ref l] hid [(l, listOf #[x, y] n)]
      (fun r nw => ∃ c dx t1 t2 e de t3 t4, r = .ref c ∧ (∀ p ∈ (c, instObj 118 dx) :: (dx, consD w t1 t2 x (.ref e)) :: (e, instObj 118 de) :: (de, consD w t3 t4 y (.ref 97)) :: [], p ∈ nw) ∧ (∀ p ∈ hid, @Ne Nat p.1 c) ∧ @Ne Nat e c) False := by
  unfold DoesH
  k_fill
  intro dp un gd env outer A₀ base h₀ L m mg mb mean s R B F X N T G hf hk hd hu hret hexc
  k_dflt (refine' code_defH ?kH ?k1 ?k2 ?k3 ?k4 ?k5 ?kA ?kF ?kK ?k6 ?k7 ?k8 ?k9 ?kB ?_ ?c2 ?c3 ?c4 ?c5; (case kH => assumption); (case kA => exact rfl); (case kF => first | exact rfl | assumption); (case kK => first | exact rfl | assumption); (case k1 => k_asm); (case k2 => k_asm); (case k3 => k_asm); (case k4 => k_asm); (case k5 => k_asm); (case k6 => k_is); (case k7 => k_is); (case k8 => k_room); (case k9 => first | ktr_rel | exact binds_K (by k_in) rfl (by k_is) rfl rfl rfl | fail "k_enter: no rule for these arguments"); (case c5 => decide); (case kB => exact locs rfl); (case c2 => exact rfl); (case c3 => exact rfl); (case c4 => exact rfl); k_whole; intro g' L' h' FG' F' N' B' X' T' G'; (try dsimp only [List.reverse, List.reverseAux] at F'); (try dsimp only); (try k_fold))
  (rename BaseIs _ _ => hG2)
  k_steps
  exact fun hKp => hret _ _ _ _ (by assumption) (by assumption) hKp ⟨_, _, _, _, _, _, _, _, rfl, by tb_start, fresh_of hG2 (by assumption) (by k_mem), by omega⟩
end
end
section
theorem news_join {h₀ h : Heap} {L : Addr} {l l' : List (Addr × Obj)} (N : News h₀ L h l) (N' : News h₀ L h l') : News h₀ L h (l ++ l') := fun p hp => (List.mem_append.mp hp).elim (N p) (N' p)
theorem news_back {h₀ h h' : Heap} {L : Addr} {l : List (Addr × Obj)} (N : News h₀ L h l) (k : ∀ p ∈ l, h'.get? p.1 = some p.2) : News h₀ L h' l := fun p hp => ⟨k p hp, (N p hp).2⟩
theorem hid_of {h₀ h : Heap} {L a : Addr} {o : Obj} {m : Str → Option Value} {l : List (Addr × Obj)} (F : Fr h₀ L h m) (N : News h₀ L h l) (ho : h₀.get? a = some o) : HidIs h [] ((a, o) :: l) := fun p hp => ⟨by
  rcases List.mem_cons.mp hp with rfl | hp
  · exact F.keep _ _ ho
  · exact (N p hp).1, by simp⟩
theorem swap3 {α : Type} {x a b : α} {rest : List α} : ∀ p ∈ a :: b :: x :: rest, p ∈ x :: a :: b :: rest := by
  intro p hp
  simp only [List.mem_cons] at hp ⊢
  rcases hp with h | h | h | h
  · exact .inr (.inl h)
  · exact .inr (.inr (.inl h))
  · exact .inl h
  · exact .inr (.inr (.inr h))
/-- the deck in the ledger -/
def Deck (D D1 : Addr) (dl : List (Addr × Obj)) : Prop :=
  ∃ ys zs mx tm n0 n1, IntsAre ys zs ∧ (∀ z ∈ zs, (0 : Int) ≤ z) ∧ 0 ≤ mx ∧ zs.length ≤ 1000 ∧ dl = [(D, listOf #[.ref D1, .int mx tm] n0), (D1, listOf ys.toArray n1)]
theorem use_draw {w : World} {D D1 : Addr} {many : Int} {tk0 : Tok} {dl rest nws : List (Addr × Obj)} (hdl : Deck D D1 dl) (hm : 0 < many) (hM : many ≤ 1000) (hne : @Ne Nat D D1) (hoff : OwnOff rest [D, D1])
    {dp un : Nat} {gd : Option (List Code)} {env : Env} {outer : List Env} {A₀ : Around} {base h₀ : Heap} {L : Addr} {m mg mb : Str → Option Value} {mean : ExcName → Option Value} {s : Shared} {Q E : Value → Shared → Prop}
    (N : News h₀ L s.heap nws) (hs : ∀ p ∈ dl ++ rest, p ∈ nws)
    (B : Below A₀ base outer h₀) (F : Fr h₀ L s.heap m) (X : (grab.heap_1 w.params).In h₀) (T : Top view (looseW view loose) mean mg mb h₀) (hf : env.frame = some L) (hk : env.scope.kind = .function) (hd : dp + 5 ≤ 900) (hu : un + 20 * 5 ≤ 7000)
    (ret : ∀ k t h' tk' dl', 0 ≤ k → k < many → Deck D D1 dl' → Fr h₀ L h' m → News h₀ L h' (dl' ++ rest) → Q (.int k t) { s with heap := h', toks := tk' }) :
    wpAny (model PySem.Challenge.rw_pq0287_01.row.prog w) (AT dp un gd env outer) (call (.ref 556) [.ref D, .int many tk0]) Q E s := by
  obtain ⟨ys, zs, mx, tm, n0, n1, hys, hz0, hmx, hzl, rfl⟩ := hdl
  have N6 : News h₀ L s.heap ((D, listOf #[.ref D1, .int mx tm] n0) :: (D1, listOf ys.toArray n1) :: rest) := News.sub N hs
  refine (draw_spec w D D1 many tm tk0 mx ys zs n0 n1 rest hm hM hys hz0 hmx hzl hne hoff).use B F X N6 T nilBase hf hk hd hu ?_ ?_
  · intro rv h2 tk2 nw2 F4 N4 hr2
    obtain ⟨k, tk', rfl, hk0, hk9, ys2, zs2, mx2, tm2, n0', n1', hys2, hz02, hmx2, hzl2, hs2⟩ := hr2
    exact ret k tk' h2 tk2 _ hk0 hk9 ⟨ys2, zs2, mx2, tm2, n0', n1', hys2, hz02, hmx2, hzl2, rfl⟩ F4 (News.sub N4 hs2)
  · intro e9 h9 tk9 nw9 F9 N9 q
    exact q.elim
noncomputable abbrev lawP : { p : DefRec × List (Str × PySem.Expr) // defOf view (Str.ofString "law") = some p } := ⟨_, rfl⟩
noncomputable abbrev lawE (fa L : Addr) (cdv : Value) : Env := envOfC lawP.1.1.name lawP.1.1.scope L fa cdv
/-- what holds of the law's frame in every part of its walk -/
structure LawSt (w : World) (dp un : Nat) (A₀ : Around) (base h₀ : Heap) (mg mb : Str → Option Value) (mean : ExcName → Option Value) : Prop where
  B : Below A₀ base [] h₀
  X : (grab.heap_1 w.params).In h₀
  XB : (grab.heap_1 w.params).In base
  T : Top view (looseW view loose) mean mg mb h₀
  TB : Top view (looseW view loose) mean mg mb base
  hd : dp ≤ 400
  hu : un ≤ 4000
noncomputable abbrev mapB (W : Addr) (dv : Int) (td : Tok) (u : Str → Option Value) : Str → Option Value :=
  fun y => if y = Str.ofString "_law_deep" then some (.int dv td) else if y = Str.ofString "_law_ways" then some (.ref W) else u y
theorem deep_le (n : Nat) : (0 : Int) ≤ [0, 1, 2, 5, 198, 199, 200, 201, 204].getD n 0 ∧ [0, 1, 2, 5, 198, 199, 200, 201, 204].getD n (0 : Int) ≤ 250 := by
  rcases n with _ | _ | _ | _ | _ | _ | _ | _ | _ | n <;> simp
theorem nil_in (P : Params) : ∃ o, (grab.heap_1 P).lookup 97 = some o := ⟨_, by rfl⟩
theorem ne97 {w : World} {h₀ h : Heap} {L c : Addr} {o : Obj} {nw : List (Addr × Obj)} (X : (grab.heap_1 w.params).In h₀) (N : News h₀ L h nw) (hm : (c, o) ∈ nw) : @Ne Nat c 97 := fun e => by
  obtain ⟨o', ho⟩ := nil_in w.params
  have h1 := X _ _ ho
  have h2 := (N _ hm).2.2
  have e' : c = (97 : Addr) := e
  simp only [e', h1] at h2
  cases h2
theorem hid_but {h₀ h : Heap} {L l : Addr} {o : Obj} {rest nws : List (Addr × Obj)} (N : News h₀ L h nws) (hs : ∀ p ∈ rest, p ∈ nws) (hl : ∀ p ∈ rest, @Ne Nat p.1 l) : HidIs h [(l, o)] rest := fun p hp => ⟨(N p (hs p hp)).1, fun q => hl p hp (List.mem_singleton.mp q)⟩
section
variable {w : World} {x y : Value} {l : Addr} {n : Nat} {rest nws : List (Addr × Obj)} {dp un : Nat} {gd : Option (List Code)} {env : Env} {outer : List Env} {A₀ : Around} {base h₀ : Heap} {L : Addr} {m mg mb : Str → Option Value} {mean : ExcName → Option Value} {s : Shared} {Q E : Value → Shared → Prop}
theorem use_list1 (hx : handedIn x = true) (N : News h₀ L s.heap nws) (hm : (l, listOf #[x] n) ∈ nws) (hs : ∀ p ∈ rest, p ∈ nws) (hl : ∀ p ∈ rest, @Ne Nat p.1 l)
    (B : Below A₀ base outer h₀) (F : Fr h₀ L s.heap m) (X : (grab.heap_1 w.params).In h₀) (T : Top view (looseW view loose) mean mg mb h₀) (hf : env.frame = some L) (hk : env.scope.kind = .function) (hd : dp + 8 ≤ 900) (hu : un + 20 * 8 ≤ 7000)
    (ret : ∀ c dx t1 t2 h' tk', Fr h₀ L h' m → News h₀ L h' ((c, instObj 118 dx) :: (dx, consD w t1 t2 x (.ref 97)) :: rest) → (∀ p ∈ rest, @Ne Nat p.1 c) → (∀ p ∈ rest, @Ne Nat p.1 dx) → @Ne Nat c 97 → Q (.ref c) { s with heap := h', toks := tk' }) :
    wpAny (model PySem.Challenge.rw_pq0287_01.row.prog w) (AT dp un gd env outer) (call (.ref 250) [.ref l]) Q E s := by
  have N1 : News h₀ L s.heap [(l, listOf #[x] n)] := fun p hp => by rw [List.mem_singleton.mp hp]; exact N _ hm
  have NR : News h₀ L s.heap rest := News.sub N hs
  refine (list_of_1 w l x n rest hx).use B F X N1 T (hid_but N hs hl) hf hk hd hu ?_ (fun q => q.elim)
  rintro r h' tk' nw F' N' K ⟨c, dx, t1, t2, rfl, hsub, hfr, hfd⟩
  have N2 := news_join (News.sub N' hsub) (news_back NR K)
  exact ret c dx t1 t2 h' tk' F' N2 hfr hfd (ne97 X N2 (.head _))
theorem use_list2 (hx : handedIn x = true) (hy : handedIn y = true) (N : News h₀ L s.heap nws) (hm : (l, listOf #[x, y] n) ∈ nws) (hs : ∀ p ∈ rest, p ∈ nws) (hl : ∀ p ∈ rest, @Ne Nat p.1 l)
    (B : Below A₀ base outer h₀) (F : Fr h₀ L s.heap m) (X : (grab.heap_1 w.params).In h₀) (T : Top view (looseW view loose) mean mg mb h₀) (hf : env.frame = some L) (hk : env.scope.kind = .function) (hd : dp + 8 ≤ 900) (hu : un + 20 * 8 ≤ 7000)
    (ret : ∀ c dx e de t1 t2 t3 t4 h' tk', Fr h₀ L h' m → News h₀ L h' ((c, instObj 118 dx) :: (dx, consD w t1 t2 x (.ref e)) :: (e, instObj 118 de) :: (de, consD w t3 t4 y (.ref 97)) :: rest) → (∀ p ∈ rest, @Ne Nat p.1 c) → @Ne Nat c 97 → @Ne Nat e 97 → @Ne Nat e c → Q (.ref c) { s with heap := h', toks := tk' }) :
    wpAny (model PySem.Challenge.rw_pq0287_01.row.prog w) (AT dp un gd env outer) (call (.ref 250) [.ref l]) Q E s := by
  have N1 : News h₀ L s.heap [(l, listOf #[x, y] n)] := fun p hp => by rw [List.mem_singleton.mp hp]; exact N _ hm
  have NR : News h₀ L s.heap rest := News.sub N hs
  refine (list_of_2 w l x y n rest hx hy).use B F X N1 T (hid_but N hs hl) hf hk hd hu ?_ (fun q => q.elim)
  rintro r h' tk' nw F' N' K ⟨c, dx, t1, t2, e, de, t3, t4, rfl, hsub, hfr, hec⟩
  have N2 := news_join (News.sub N' hsub) (news_back NR K)
  exact ret c dx e de t1 t2 t3 t4 h' tk' F' N2 hfr (ne97 X N2 (.head _)) (ne97 X N2 (.tail _ (.tail _ (.head _)))) hec
end
/-- a loop over range(n): what holds between its turns may name the iterator -/
theorem range_loopI {prog : Program} {w : World} {A : Around} {E : Value → Shared → Prop} {s : Shared} {env : Env} {h₀ : Heap} {x : Str} {body : List Stmt} {Q : Flow → Shared → Prop} {r : Addr} {n : Nat} {b : Int} {t₀ u₀ v₀ : Tok} {m₀ : Str → Option Value} {news : List (Addr × Obj)} (J : Addr → Nat → (Str → Option Value) → List (Addr × Obj) → Prop)
    (hh : A.handled = none) (hr : IsRange s.heap r 0 b 1 t₀ u₀ v₀) (hb : b = (n : Int)) (hn : n ≤ 1000000) (F : Fr h₀ env.locals s.heap m₀) (N : News h₀ env.locals s.heap news) (j : ∀ I, (∀ p ∈ news, p.1 < I) → J I 0 m₀ news)
    (fin : ∀ I m nw h tk, J I n m nw → Fr h₀ env.locals h m → News h₀ env.locals h nw → Q .next { s with heap := h, toks := tk })
    (step : ∀ i m nw t h tk I o, i < n → J I i m nw → o.cls = .type "range_iterator" → Fr h₀ env.locals h (fun y => if y = x then some (.int (i : Int) t) else m y) → News h₀ env.locals h ((I, o) :: nw) →
      wpAny (model prog w) A (execs body env) (UnrPost h₀ env.locals { s with heap := h, toks := tk } I o (J I (i + 1)) Q) E { s with heap := h, toks := tk }) :
    wpAny (model prog w) A (pyIter (.ref r)) (fun it s₂ => LoopAtV prog w A h₀ env x body Q E it s₂) E s := by
  subst hb
  have e62 : (2 : Int) ^ 62 = 4611686018427387904 := by decide
  refine iter_rangeUnr hh hr (small_one (by omega) (by omega) (by omega) (by omega)) (n := n) (by rw [rangeSize_one]; split <;> omega) F N fun I l1 => ?_
  exact rangeRest_inv (J I) (fin I) (fun i m nw t h tk hi hj F' N' => step i m nw t h tk I _ hi hj rfl F' N') n 0 m₀ news (by omega) (j I l1)
/-- the end of a turn, by the iterator's class -/
theorem unr_end {h₀ : Heap} {L I : Addr} {o : Obj} {rest : (Str → Option Value) → List (Addr × Obj) → Prop} {s₁ : Shared} {h' : Heap} {tk : Nat} {m' : Str → Option Value} {all : List (Addr × Obj)} {Q : Flow → Shared → Prop} (hc : o.cls = .type "range_iterator") (F : Fr h₀ L h' m') (N : News h₀ L h' all) (news' : List (Addr × Obj))
    (sub : ∀ p ∈ (I, o) :: news', p ∈ all) (off : ∀ p ∈ news', p.1 ≠ I ∨ p.2.cls ≠ .type "range_iterator") (r : rest m' news') : UnrPost h₀ L s₁ I o rest Q .next { s₁ with heap := h', toks := tk } :=
  UnrEnd.intro F N news' sub (fun p hp e => (off p hp).elim (fun q => q e) (fun q => by
    have h1 := (N _ (sub p (.tail _ hp))).1
    have h2 := (N _ (sub _ (.head _))).1
    rw [e, h2] at h1
    cases h1
    exact q hc)) r
theorem Tower.mono {w : World} {lb lb' : List (Addr × Obj)} (hs : ∀ p ∈ lb, p ∈ lb') {as : List Addr} {ls : List (Bool × Bool)} {v : Value} (h : Tower w lb as ls v) : Tower w lb' as ls v := by
  have hc : ∀ {x a d}, ConsIn w lb x a d → ConsIn w lb' x a d := fun ⟨dx, t1, t2, h1, h2⟩ => ⟨dx, t1, t2, hs _ h1, hs _ h2⟩
  have hv : ∀ {x vs}, VecIn w lb x vs → VecIn w lb' x vs := fun ⟨dx, t1, thl, n, h1, h2, h3⟩ => ⟨dx, t1, thl, n, hs _ h1, hs _ h2, hs _ h3⟩
  induction h with
  | int => exact .int
  | list1 _ h1 h2 h3 ih => exact .list1 ih h1 h2 (hc h3)
  | list2 _ h1 h2 h3 h4 h5 h6 ih => exact .list2 ih h1 h2 h3 h4 (hc h5) (hc h6)
  | vec1 _ h1 h2 h3 ih => exact .vec1 ih h1 h2 (hv h3)
  | vec2 _ h1 h2 h3 ih => exact .vec2 ih h1 h2 (hv h3)
theorem Tower.given {w : World} {lb : List (Addr × Obj)} {as : List Addr} {ls : List (Bool × Bool)} {v : Value} (h : Tower w lb as ls v) : handedIn v = true := by cases h <;> rfl
/-- every layer of a tower stands in the ledger -/
theorem Tower.in_lb {w : World} {lb : List (Addr × Obj)} {as : List Addr} {ls : List (Bool × Bool)} {v : Value} (h : Tower w lb as ls v) : ∀ a ∈ as, ∃ o, (a, o) ∈ lb := by
  have hc : ∀ {x a d}, ConsIn w lb x a d → ∃ o, (x, o) ∈ lb := fun ⟨dx, t1, t2, h1, h2⟩ => ⟨_, h1⟩
  have hv : ∀ {x vs}, VecIn w lb x vs → ∃ o, (x, o) ∈ lb := fun ⟨dx, t1, thl, n, h1, h2, h3⟩ => ⟨_, h1⟩
  induction h with
  | int => intro a ha; cases ha
  | list1 _ h1 h2 h3 ih => intro a ha; exact (List.mem_cons.mp ha).elim (fun e => e ▸ hc h3) (ih a)
  | list2 _ h1 h2 h3 h4 h5 h6 ih => intro a ha; exact (List.mem_cons.mp ha).elim (fun e => e ▸ hc h5) (ih a)
  | vec1 _ h1 h2 h3 ih => intro a ha; exact (List.mem_cons.mp ha).elim (fun e => e ▸ hv h3) (ih a)
  | vec2 _ h1 h2 h3 ih => intro a ha; exact (List.mem_cons.mp ha).elim (fun e => e ▸ hv h3) (ih a)
theorem Tower.fresh {w : World} {lb : List (Addr × Obj)} {as : List Addr} {ls : List (Bool × Bool)} {v : Value} (h : Tower w lb as ls v) {c : Addr} (hc : ∀ p ∈ lb, @Ne Nat p.1 c) : c ∉ as := fun q => by
  obtain ⟨o, ho⟩ := h.in_lb c q
  exact hc _ ho rfl
/-- what the law itself writes beside a tall datum -/
def frontS : List (Bool × Bool) → Str
  | [] => Str.ofString ""
  | (true, _) :: ls => Str.ofString "(" ++ frontS ls
  | (false, _) :: ls => Str.ofString "[" ++ frontS ls
def behindS : List (Bool × Bool) → Str
  | [] => Str.ofString ""
  | (true, false) :: ls => behindS ls ++ Str.ofString "" ++ Str.ofString ")"
  | (true, true) :: ls => behindS ls ++ Str.ofString " 8" ++ Str.ofString ")"
  | (false, false) :: ls => behindS ls ++ Str.ofString "" ++ Str.ofString "]"
  | (false, true) :: ls => behindS ls ++ Str.ofString " 8" ++ Str.ofString "]"
theorem frontS_len (ls : List (Bool × Bool)) : (frontS ls).length ≤ ls.length := by
  induction ls with
  | nil => decide
  | cons p ls ih =>
    obtain ⟨b, e⟩ := p
    cases b <;> simp only [frontS, Str.length_append, List.length_cons]
    · have : (Str.ofString "[").length = 1 := by decide
      omega
    · have : (Str.ofString "(").length = 1 := by decide
      omega
theorem behindS_len (ls : List (Bool × Bool)) : (behindS ls).length ≤ 3 * ls.length := by
  have e0 : (Str.ofString "").length = 0 := by decide
  have e1 : (Str.ofString ")").length = 1 := by decide
  have e2 : (Str.ofString "]").length = 1 := by decide
  have e3 : (Str.ofString " 8").length = 2 := by decide
  induction ls with
  | nil => decide
  | cons p ls ih =>
    obtain ⟨b, e⟩ := p
    cases b <;> cases e <;> simp only [behindS, Str.length_append, List.length_cons] <;> omega
noncomputable abbrev mapC (W : Addr) (dv : Int) (td : Tok) (ls : List (Bool × Bool)) (v : Value) (tf tb : Tok) (u : Str → Option Value) : Str → Option Value :=
  fun y => if y = Str.ofString "_law_behind" then some (.str (behindS ls) tb) else if y = Str.ofString "_law_front" then some (.str (frontS ls) tf) else if y = Str.ofString "_law_datum" then some v else if y = Str.ofString "_law_deep" then some (.int dv td) else if y = Str.ofString "_law_ways" then some (.ref W) else u y
end
section
/-- between two layers of the tall datum -/
def LoopB (w : World) (fx : List (Addr × Obj)) (W : Addr) (dv : Int) (td : Tok) (I : Addr) (i : Nat) (m : Str → Option Value) (nw : List (Addr × Obj)) : Prop :=
  ∃ as ls v tf tb u' tl, nw = fx ++ tl ∧ Tower w nw as ls v ∧ ls.length = i ∧ m = mapC W dv td ls v tf tb u' ∧ (∀ p ∈ fx, @LT.lt Nat _ p.1 I) ∧ (∀ p ∈ tl, p.2.cls ≠ .type "range_iterator")
theorem map_norm {B F Da Mo Wy Tu De Ws : Str} {vb vf vd vm vw vt vb0 vf0 vd0 a b : Option Value} {u : Str → Option Value} (h1 : De ≠ Mo) (h2 : De ≠ Wy) (h3 : De ≠ Tu) (h4 : Ws ≠ Mo) (h5 : Ws ≠ Wy) (h6 : Ws ≠ Tu) :
    (fun y => if y = B then vb else if y = F then vf else if y = Da then vd else if y = Mo then vm else if y = Wy then vw else if y = Tu then vt else if y = B then vb0 else if y = F then vf0 else if y = Da then vd0 else if y = De then a else if y = Ws then b else u y) =
      fun y => if y = B then vb else if y = F then vf else if y = Da then vd else if y = De then a else if y = Ws then b else if y = Mo then vm else if y = Wy then vw else if y = Tu then vt else u y := by
  funext y
  by_cases hB : y = B
  · simp only [if_pos hB]
  by_cases hF : y = F
  · simp only [if_neg hB, if_pos hF]
  by_cases hD : y = Da
  · simp only [if_neg hB, if_neg hF, if_pos hD]
  simp only [if_neg hB, if_neg hF, if_neg hD]
  by_cases hDe : y = De
  · subst hDe
    simp only [if_neg h1, if_neg h2, if_neg h3, if_pos]
  by_cases hWs : y = Ws
  · subst hWs
    simp only [if_neg h4, if_neg h5, if_neg h6, if_neg hDe, if_pos]
  simp only [if_neg hDe, if_neg hWs]
noncomputable abbrev mapT (W : Addr) (dv : Int) (td : Tok) (vb vf vd vm vw vt vb0 vf0 vd0 : Option Value) (u : Str → Option Value) : Str → Option Value :=
  fun y => if y = Str.ofString "_law_behind" then vb else if y = Str.ofString "_law_front" then vf else if y = Str.ofString "_law_datum" then vd else if y = Str.ofString "_law_more" then vm else if y = Str.ofString "_law_way" then vw else if y = Str.ofString "_law_turn" then vt else if y = Str.ofString "_law_behind" then vb0 else if y = Str.ofString "_law_front" then vf0 else if y = Str.ofString "_law_datum" then vd0 else if y = Str.ofString "_law_deep" then some (.int dv td) else if y = Str.ofString "_law_ways" then some (.ref W) else u y
section
variable {w : World} {fx tl all : List (Addr × Obj)} {W I L : Addr} {o : Obj} {dv : Int} {td tf' tb' : Tok} {i : Nat} {h₀ h' : Heap} {as : List Addr} {ls : List (Bool × Bool)} {v : Value} {vm vw vt vb0 vf0 vd0 : Option Value} {u' : Str → Option Value} {s₁ : Shared} {tk : Nat} {Q : Flow → Shared → Prop}
theorem turn_core {as' : List Addr} {ls' : List (Bool × Bool)} {v' : Value} (ho : o.cls = .type "range_iterator") (hfx : ∀ p ∈ fx, @LT.lt Nat _ p.1 I) (htl : ∀ p ∈ tl, p.2.cls ≠ .type "range_iterator")
    (F : Fr h₀ L h' (mapT W dv td (some (.str (behindS ls') tb')) (some (.str (frontS ls') tf')) (some v') vm vw vt vb0 vf0 vd0 u')) (N : News h₀ L h' all) (newtl : List (Addr × Obj)) (sub : ∀ p ∈ (I, o) :: (fx ++ (newtl ++ tl)), p ∈ all)
    (hcls : ∀ p ∈ newtl, p.2.cls ≠ .type "range_iterator") (T' : Tower w (fx ++ (newtl ++ tl)) as' ls' v') (hl : ls'.length = i + 1) :
    UnrPost h₀ L s₁ I o (LoopB w fx W dv td I (i + 1)) Q .next { s₁ with heap := h', toks := tk } := by
  refine unr_end ho F N (fx ++ (newtl ++ tl)) sub ?_ ⟨as', ls', v', tf', tb', _, newtl ++ tl, rfl, T', hl, map_norm (by decide) (by decide) (by decide) (by decide) (by decide) (by decide), hfx, ?_⟩
  · intro p hp
    rcases List.mem_append.mp hp with hp | hp
    · exact .inl (Nat.ne_of_lt (hfx p hp))
    · rcases List.mem_append.mp hp with hp | hp
      · exact .inr (hcls p hp)
      · exact .inr (htl p hp)
  · intro p hp
    rcases List.mem_append.mp hp with hp | hp
    · exact hcls p hp
    · exact htl p hp
theorem sub_new {a b c : List (Addr × Obj)} : ∀ p ∈ a ++ c, p ∈ a ++ (b ++ c) := fun p hp => by
  rcases List.mem_append.mp hp with hp | hp
  · exact List.mem_append_left _ hp
  · exact List.mem_append_right _ (List.mem_append_right _ hp)
theorem in_new {a b c : List (Addr × Obj)} {p : Addr × Obj} (hp : p ∈ b) : p ∈ a ++ (b ++ c) := List.mem_append_right _ (List.mem_append_left _ hp)
theorem allLt_mem {d : Addr} : ∀ {l : List (Addr × Obj)}, AllLt d l → ∀ p ∈ l, @LT.lt Nat _ p.1 d
  | [], _, _, h => nomatch h
  | _ :: _, x, p, h => by
    rcases List.mem_cons.mp h with rfl | h
    · exact x.1
    · exact allLt_mem x.2 p h
theorem fresh_of_lt {x dx : Addr} (h1 : @LT.lt Nat _ dx x) (h2 : ∀ p ∈ fx, @LT.lt Nat _ p.1 dx) (h3 : AllLt dx tl) : ∀ p ∈ fx ++ tl, @Ne Nat p.1 x := fun p hp => by
  rcases List.mem_append.mp hp with hp | hp
  · have h9 : @LT.lt Nat _ p.1 dx := h2 p hp
    exact fun e => by have e' : @Eq Nat p.1 x := e; omega
  · have h9 : @LT.lt Nat _ p.1 dx := allLt_mem h3 p hp
    exact fun e => by have e' : @Eq Nat p.1 x := e; omega
theorem turn_vec1 {x dx thl lz lo lp : Addr} {oz oo op : Obj} {t1 : Tok} {n : Nat} (X : (grab.heap_1 w.params).In h₀) (hTw : Tower w (fx ++ tl) as ls v) (hln : ls.length = i) (ho : o.cls = .type "range_iterator") (hfx : ∀ p ∈ fx, @LT.lt Nat _ p.1 I) (htl : ∀ p ∈ tl, p.2.cls ≠ .type "range_iterator")
    (F : Fr h₀ L h' (mapT W dv td (some (.str (behindS ls ++ Str.ofString "" ++ Str.ofString "]") tb')) (some (.str (Str.ofString "[" ++ frontS ls) tf')) (some (.ref x)) vm vw vt vb0 vf0 vd0 u'))
    (N : News h₀ L h' ((lz, oz) :: (x, instObj 161 dx) :: (dx, vecD w t1 thl) :: (thl, listOf #[v] n) :: (lo, oo) :: (lp, op) :: (I, o) :: (fx ++ tl))) (h1 : @LT.lt Nat _ dx x) (h2 : ∀ p ∈ fx, @LT.lt Nat _ p.1 dx) (h3 : AllLt dx tl) :
    UnrPost h₀ L s₁ I o (LoopB w fx W dv td I (i + 1)) Q .next { s₁ with heap := h', toks := tk } := by
  refine turn_core (ls' := (false, false) :: ls) ho hfx htl F N [(x, instObj 161 dx), (dx, vecD w t1 thl), (thl, listOf #[v] n)] ?_ ?_ (.vec1 (hTw.mono sub_new) (hTw.fresh (fresh_of_lt h1 h2 h3)) (ne97 X N (.tail _ (.head _))) ⟨dx, t1, thl, n, in_new (.head _), in_new (.tail _ (.head _)), in_new (.tail _ (.tail _ (.head _)))⟩) (by rw [List.length_cons, hln])
  · intro p hp
    simp only [List.mem_cons, List.mem_append, List.not_mem_nil, or_false] at hp ⊢
    rcases hp with h | h | (h | h | h) | h <;> simp [h]
  · intro p hp
    simp only [List.mem_cons, List.not_mem_nil, or_false] at hp
    rcases hp with rfl | rfl | rfl <;> simp [instObj, PySem.W.listOf, dictOf]
theorem turn_vec2 {x dx thl lz lo lp : Addr} {oz oo op : Obj} {t1 t8 : Tok} {n : Nat} (X : (grab.heap_1 w.params).In h₀) (hTw : Tower w (fx ++ tl) as ls v) (hln : ls.length = i) (ho : o.cls = .type "range_iterator") (hfx : ∀ p ∈ fx, @LT.lt Nat _ p.1 I) (htl : ∀ p ∈ tl, p.2.cls ≠ .type "range_iterator")
    (F : Fr h₀ L h' (mapT W dv td (some (.str (behindS ls ++ Str.ofString " 8" ++ Str.ofString "]") tb')) (some (.str (Str.ofString "[" ++ frontS ls) tf')) (some (.ref x)) vm vw vt vb0 vf0 vd0 u'))
    (N : News h₀ L h' ((lz, oz) :: (x, instObj 161 dx) :: (dx, vecD w t1 thl) :: (thl, listOf #[v, .int 8 t8] n) :: (lo, oo) :: (lp, op) :: (I, o) :: (fx ++ tl))) (h1 : @LT.lt Nat _ dx x) (h2 : ∀ p ∈ fx, @LT.lt Nat _ p.1 dx) (h3 : AllLt dx tl) :
    UnrPost h₀ L s₁ I o (LoopB w fx W dv td I (i + 1)) Q .next { s₁ with heap := h', toks := tk } := by
  refine turn_core (ls' := (false, true) :: ls) ho hfx htl F N [(x, instObj 161 dx), (dx, vecD w t1 thl), (thl, listOf #[v, .int 8 t8] n)] ?_ ?_ (.vec2 (hTw.mono sub_new) (hTw.fresh (fresh_of_lt h1 h2 h3)) (ne97 X N (.tail _ (.head _))) ⟨dx, t1, thl, n, in_new (.head _), in_new (.tail _ (.head _)), in_new (.tail _ (.tail _ (.head _)))⟩) (by rw [List.length_cons, hln])
  · intro p hp
    simp only [List.mem_cons, List.mem_append, List.not_mem_nil, or_false] at hp ⊢
    rcases hp with h | h | (h | h | h) | h <;> simp [h]
  · intro p hp
    simp only [List.mem_cons, List.not_mem_nil, or_false] at hp
    rcases hp with rfl | rfl | rfl <;> simp [instObj, PySem.W.listOf, dictOf]
theorem turn_list1 {x dx lz lo : Addr} {oz oo : Obj} {t1 t2 : Tok} (hTw : Tower w (fx ++ tl) as ls v) (hln : ls.length = i) (ho : o.cls = .type "range_iterator") (hfx : ∀ p ∈ fx, @LT.lt Nat _ p.1 I) (htl : ∀ p ∈ tl, p.2.cls ≠ .type "range_iterator")
    (F : Fr h₀ L h' (mapT W dv td (some (.str (behindS ls ++ Str.ofString "" ++ Str.ofString ")") tb')) (some (.str (Str.ofString "(" ++ frontS ls) tf')) (some (.ref x)) vm vw vt vb0 vf0 vd0 u'))
    (N : News h₀ L h' ((lz, oz) :: (x, instObj 118 dx) :: (dx, consD w t1 t2 v (.ref 97)) :: (lo, oo) :: (I, o) :: (fx ++ tl))) (h1 : ∀ p ∈ (lo, oo) :: (I, o) :: (fx ++ tl), @Ne Nat p.1 x) (h9 : @Ne Nat x 97) :
    UnrPost h₀ L s₁ I o (LoopB w fx W dv td I (i + 1)) Q .next { s₁ with heap := h', toks := tk } := by
  refine turn_core (ls' := (true, false) :: ls) ho hfx htl F N [(x, instObj 118 dx), (dx, consD w t1 t2 v (.ref 97))] ?_ ?_ (.list1 (hTw.mono sub_new) (hTw.fresh fun p hp => h1 p (.tail _ (.tail _ hp))) h9 ⟨dx, t1, t2, in_new (.head _), in_new (.tail _ (.head _))⟩) (by rw [List.length_cons, hln])
  · intro p hp
    simp only [List.mem_cons, List.mem_append, List.not_mem_nil, or_false] at hp ⊢
    rcases hp with h | h | (h | h) | h <;> simp [h]
  · intro p hp
    simp only [List.mem_cons, List.not_mem_nil, or_false] at hp
    rcases hp with rfl | rfl <;> simp [instObj, PySem.W.listOf, dictOf]
theorem turn_list2 {x dx e de lz lo : Addr} {oz oo : Obj} {t1 t2 t3 t4 t8 : Tok} (hTw : Tower w (fx ++ tl) as ls v) (hln : ls.length = i) (ho : o.cls = .type "range_iterator") (hfx : ∀ p ∈ fx, @LT.lt Nat _ p.1 I) (htl : ∀ p ∈ tl, p.2.cls ≠ .type "range_iterator")
    (F : Fr h₀ L h' (mapT W dv td (some (.str (behindS ls ++ Str.ofString " 8" ++ Str.ofString ")") tb')) (some (.str (Str.ofString "(" ++ frontS ls) tf')) (some (.ref x)) vm vw vt vb0 vf0 vd0 u'))
    (N : News h₀ L h' ((lz, oz) :: (x, instObj 118 dx) :: (dx, consD w t1 t2 v (.ref e)) :: (e, instObj 118 de) :: (de, consD w t3 t4 (.int 8 t8) (.ref 97)) :: (lo, oo) :: (I, o) :: (fx ++ tl))) (h1 : ∀ p ∈ (lo, oo) :: (I, o) :: (fx ++ tl), @Ne Nat p.1 x) (h9 : @Ne Nat x 97) (h8 : @Ne Nat e 97) (h7 : @Ne Nat e x) :
    UnrPost h₀ L s₁ I o (LoopB w fx W dv td I (i + 1)) Q .next { s₁ with heap := h', toks := tk } := by
  refine turn_core (ls' := (true, true) :: ls) ho hfx htl F N [(x, instObj 118 dx), (dx, consD w t1 t2 v (.ref e)), (e, instObj 118 de), (de, consD w t3 t4 (.int 8 t8) (.ref 97))] ?_ ?_ (.list2 (hTw.mono sub_new) (hTw.fresh fun p hp => h1 p (.tail _ (.tail _ hp))) h9 h8 h7 ⟨dx, t1, t2, in_new (.head _), in_new (.tail _ (.head _))⟩ ⟨de, t3, t4, in_new (.tail _ (.tail _ (.head _))), in_new (.tail _ (.tail _ (.tail _ (.head _))))⟩) (by rw [List.length_cons, hln])
  · intro p hp
    simp only [List.mem_cons, List.mem_append, List.not_mem_nil, or_false] at hp ⊢
    rcases hp with h | h | (h | h | h | h) | h <;> simp [h]
  · intro p hp
    simp only [List.mem_cons, List.not_mem_nil, or_false] at hp
    rcases hp with rfl | rfl | rfl | rfl <;> simp [instObj, PySem.W.listOf, dictOf]
end
section
variable {w : World} {x y : Value} {l q : Addr} {oq : Obj} {n : Nat} {rest : List (Addr × Obj)} {dp un : Nat} {gd : Option (List Code)} {env : Env} {outer : List Env} {A₀ : Around} {base h₀ : Heap} {L : Addr} {m mg mb : Str → Option Value} {mean : ExcName → Option Value} {s : Shared} {Q E : Value → Shared → Prop}
theorem use_list1B (hx : handedIn x = true) (N : News h₀ L s.heap ((l, listOf #[x] n) :: (q, oq) :: rest)) (hl : ∀ p ∈ (q, oq) :: rest, @LT.lt Nat _ p.1 l)
    (B : Below A₀ base outer h₀) (F : Fr h₀ L s.heap m) (X : (grab.heap_1 w.params).In h₀) (T : Top view (looseW view loose) mean mg mb h₀) (hf : env.frame = some L) (hk : env.scope.kind = .function) (hd : dp + 8 ≤ 900) (hu : un + 20 * 8 ≤ 7000)
    (ret : ∀ c dx t1 t2 h' tk', Fr h₀ L h' m → News h₀ L h' ((c, instObj 118 dx) :: (dx, consD w t1 t2 x (.ref 97)) :: rest) → (∀ p ∈ rest, @Ne Nat p.1 c) → (∀ p ∈ rest, @Ne Nat p.1 dx) → @Ne Nat c 97 → Q (.ref c) { s with heap := h', toks := tk' }) :
    wpAny (model PySem.Challenge.rw_pq0287_01.row.prog w) (AT dp un gd env outer) (call (.ref 250) [.ref l]) Q E s :=
  use_list1 hx N (.head _) (fun p hp => .tail _ (.tail _ hp)) (fun p hp => Nat.ne_of_lt (hl p (.tail _ hp))) B F X T hf hk hd hu ret
theorem use_list2B (hx : handedIn x = true) (hy : handedIn y = true) (N : News h₀ L s.heap ((l, listOf #[x, y] n) :: (q, oq) :: rest)) (hl : ∀ p ∈ (q, oq) :: rest, @LT.lt Nat _ p.1 l)
    (B : Below A₀ base outer h₀) (F : Fr h₀ L s.heap m) (X : (grab.heap_1 w.params).In h₀) (T : Top view (looseW view loose) mean mg mb h₀) (hf : env.frame = some L) (hk : env.scope.kind = .function) (hd : dp + 8 ≤ 900) (hu : un + 20 * 8 ≤ 7000)
    (ret : ∀ c dx e de t1 t2 t3 t4 h' tk', Fr h₀ L h' m → News h₀ L h' ((c, instObj 118 dx) :: (dx, consD w t1 t2 x (.ref e)) :: (e, instObj 118 de) :: (de, consD w t3 t4 y (.ref 97)) :: rest) → (∀ p ∈ rest, @Ne Nat p.1 c) → @Ne Nat c 97 → @Ne Nat e 97 → @Ne Nat e c → Q (.ref c) { s with heap := h', toks := tk' }) :
    wpAny (model PySem.Challenge.rw_pq0287_01.row.prog w) (AT dp un gd env outer) (call (.ref 250) [.ref l]) Q E s :=
  use_list2 hx hy N (.head _) (fun p hp => .tail _ (.tail _ hp)) (fun p hp => Nat.ne_of_lt (hl p (.tail _ hp))) B F X T hf hk hd hu ret
end
end
section
theorem glue_signs (cs : List Int) : ∀ a : Array Nat, (cs.map sign).foldl (fun acc p => acc ++ (Str.ofString "").cps ++ p.cps) a = a ++ (cs.map Int.toNat).toArray := by
  have e : (Str.ofString "").cps = #[] := by decide
  induction cs with
  | nil => intro a; simp
  | cons c cs ih =>
    intro a
    rw [List.map_cons, List.foldl_cons, ih, e]
    apply Array.ext'
    simp [sign]
theorem told_cps (cs : List Int) : (told cs).cps = (cs.map Int.toNat).toArray := by
  cases cs with
  | nil => decide
  | cons c cs =>
    show ((cs.map sign).foldl (fun acc p => acc ++ (Str.ofString "").cps ++ p.cps) (sign c).cps) = _
    rw [glue_signs]
    apply Array.ext'
    simp [sign]
theorem told_append (a b : List Int) : told (a ++ b) = told a ++ told b := by
  apply PySem.Str.ext'
  rw [PySem.Str.cps_append, told_cps, told_cps, told_cps]
  apply Array.ext'
  simp
theorem str_assoc (a b c : Str) : a ++ b ++ c = a ++ (b ++ c) := by
  apply PySem.Str.ext'
  simp only [PySem.Str.cps_append, Array.append_assoc]
theorem str_nil (a : Str) : a ++ Str.ofString "" = a := by
  have e : (Str.ofString "").cps = #[] := by decide
  apply PySem.Str.ext'
  simp only [PySem.Str.cps_append, e, Array.append_empty]
theorem told_cons (c : Int) (a : List Int) : told (c :: a) = told [c] ++ told a := told_append [c] a
theorem told_show (ls : List (Bool × Bool)) : told (showT ls) = frontS ls ++ Str.ofString "7" ++ behindS ls := by
  have k1 : told [40] = Str.ofString "(" := by decide
  have k2 : told [41] = Str.ofString ")" := by decide
  have k3 : told [91] = Str.ofString "[" := by decide
  have k4 : told [93] = Str.ofString "]" := by decide
  have k5 : told [32, 56] = Str.ofString " 8" := by decide
  induction ls with
  | nil => decide
  | cons p ls ih =>
    obtain ⟨b, e⟩ := p
    cases b <;> cases e <;> simp only [showT, frontS, behindS]
    · rw [told_cons, told_append, ih, k3, k4, str_nil]
      simp only [str_assoc]
    · rw [told_cons, told_append, ih, k3, show (32 :: ([56] ++ [93]) : List Int) = [32, 56] ++ [93] from rfl, told_append, k5, k4]
      simp only [str_assoc]
    · rw [told_cons, told_append, ih, k1, k2, str_nil]
      simp only [str_assoc]
    · rw [told_cons, told_append, ih, k1, show (32 :: ([56] ++ [41]) : List Int) = [32, 56] ++ [41] from rfl, told_append, k5, k2]
      simp only [str_assoc]
theorem showT_small (ls : List (Bool × Bool)) : (showT ls).length ≤ 1 + 4 * ls.length ∧ ∀ c ∈ showT ls, (0 : Int) ≤ c ∧ c < 128 := by
  induction ls with
  | nil => exact ⟨by decide, by decide⟩
  | cons p ls ih =>
    obtain ⟨b, e⟩ := p
    obtain ⟨h1, h2⟩ := ih
    cases b <;> cases e <;> simp only [showT] <;> refine ⟨by simp; omega, fun c hc => ?_⟩ <;> simp only [List.mem_cons, List.mem_append, List.not_mem_nil, or_false] at hc
    · rcases hc with rfl | hc | rfl
      · decide
      · exact h2 c hc
      · decide
    · rcases hc with rfl | hc | rfl | rfl | rfl
      · decide
      · exact h2 c hc
      · decide
      · decide
      · decide
    · rcases hc with rfl | hc | rfl
      · decide
      · exact h2 c hc
      · decide
    · rcases hc with rfl | hc | rfl | rfl | rfl
      · decide
      · exact h2 c hc
      · decide
      · decide
      · decide
theorem DoesT.use {w : World} {D : Nat} {f : Addr} {vs : List Value} {hid : List (Addr × Obj)} {Ret : Value → List (Addr × Obj) → Prop} (H : DoesT w D f vs hid Ret)
    {dp un : Nat} {gd : Option (List Code)} {env : Env} {A₀ : Around} {base h₀ : Heap} {L : Addr} {m mg mb : Str → Option Value} {mean : ExcName → Option Value} {s : Shared} {Q E : Value → Shared → Prop} (S : LawSt w dp un A₀ base h₀ mg mb mean)
    (F : Fr h₀ L s.heap m) (N : News h₀ L s.heap hid) (hf : env.frame = some L) (hk : env.scope.kind = .function) (hD : D ≤ 100)
    (ret : ∀ r h' tk' nw, Fr h₀ L h' m → News h₀ L h' (nw ++ hid) → Ret r nw → Q r { s with heap := h', toks := tk' }) :
    wpAny (model PySem.Challenge.rw_pq0287_01.row.prog w) (AT dp un gd env []) (call (.ref f) vs) Q E s :=
  wpAny_call (H _ _ _ _ _ _ _ _ _ _ _ _ _ _ S.B F S.X S.XB S.T S.TB N hf hk (by have := S.hd; omega) (by have := S.hu; omega) (fun r h' tk' nw F' N' NH q => ret r h' tk' nw F' (news_join N' NH) q))
theorem heard_tower {w : World} {lb : List (Addr × Obj)} {as : List Addr} {ls : List (Bool × Bool)} {v : Value} (h : Tower w lb as ls v) (z : ls.length ≤ 250) :
    DoesT w 80 568 [v] lb (fun r nw => (ls.length ≤ 200 ∧ ∃ t, r = .str (frontS ls ++ Str.ofString "7" ++ behindS ls) t) ∨ (200 < ls.length ∧ ∃ x t n, r = .ref x ∧ (x, listOf #[.str (Str.ofString "error") t] n) ∈ nw)) := by
  have hr : ∀ cs, (if ls.length ≤ 200 then some (showT ls) else none) = some cs → cs.length ≤ 100000 ∧ ∀ c ∈ cs, (0 : Int) ≤ c ∧ c < 128 := by
    intro cs hcs
    split at hcs
    · cases hcs
      have := showT_small ls
      exact ⟨by omega, this.2⟩
    · cases hcs
  have H := heard_spec w lb v _ h.given (fun a => tower_run (a := a) h (by omega)) hr
  intro dp un gd env A₀ base h₀ L m mg mb mean s R B F X XB T TB NH hf hk hd hu hret
  refine H dp un gd env A₀ base h₀ L m mg mb mean s R B F X XB T TB NH hf hk hd hu (fun r h' tk' nw F' N' NH' q => hret r h' tk' nw F' N' NH' ?_)
  rcases q with ⟨cs, t, hcs, rfl⟩ | ⟨hn, x, t, n, rfl, hx⟩
  · split at hcs
    · cases hcs
      exact .inl ⟨by assumption, t, by rw [told_show]⟩
    · cases hcs
  · split at hn
    · cases hn
    · exact .inr ⟨by omega, x, t, n, rfl, hx⟩
end
section
theorem Nest.mono {w : World} {lb lb' : List (Addr × Obj)} {g : Addr} (hs : ∀ p ∈ lb, p ∈ lb') {as : List Addr} {k : Nat} {v : Value} (h : Nest w lb g as k v) : Nest w lb' g as k v := by
  induction h with
  | ring => exact .ring
  | more _ h1 h2 h3 h4 ih =>
    obtain ⟨dx, t1, t2, m1, m2⟩ := h4
    exact .more ih h1 h2 h3 ⟨dx, t1, t2, hs _ m1, hs _ m2⟩
theorem Nest.in_lb {w : World} {lb : List (Addr × Obj)} {g : Addr} {as : List Addr} {k : Nat} {v : Value} (h : Nest w lb g as k v) : ∀ a ∈ as, ∃ o, (a, o) ∈ lb := by
  induction h with
  | ring => intro a ha; cases ha
  | more _ h1 h2 h3 h4 ih =>
    intro a ha
    obtain ⟨dx, t1, t2, m1, m2⟩ := h4
    exact (List.mem_cons.mp ha).elim (fun e => e ▸ ⟨_, m1⟩) (ih a)
theorem Nest.fresh {w : World} {lb : List (Addr × Obj)} {g : Addr} {as : List Addr} {k : Nat} {v : Value} (h : Nest w lb g as k v) {c : Addr} (hc : ∀ p ∈ lb, @Ne Nat p.1 c) : c ∉ as := fun q => by
  obtain ⟨o, ho⟩ := h.in_lb c q
  exact hc _ ho rfl
def dueS : Nat → Str
  | 0 => Str.ofString "(5 #0)"
  | 1 => Str.ofString "(5 (#0))"
  | 2 => Str.ofString "(5 ((#0)))"
  | _ => Str.ofString "(5 (((#0))))"
def repS : Nat → Str
  | 0 => Str.ofString "(5 #1)"
  | 1 => Str.ofString "(5 (#1))"
  | 2 => Str.ofString "(5 ((#1)))"
  | _ => Str.ofString "(5 (((#1))))"
theorem dueS_len (k : Nat) : (dueS k).length ≤ 20 := by
  rcases k with _ | _ | _ | k <;> simp only [dueS] <;> decide
theorem repS_len (k : Nat) : (repS k).length ≤ 20 := by
  rcases k with _ | _ | _ | k <;> simp only [repS] <;> decide
theorem heard_codes {w : World} {lb : List (Addr × Obj)} {v : Value} {cs : List Int} {x : Str} (hv : handedIn v = true) (hrun : ∀ a : PA, Run w a (prB w a lb) [.datum v] [] [] (some cs)) (hc : cs.length ≤ 100000 ∧ ∀ c ∈ cs, (0 : Int) ≤ c ∧ c < 128) (hx : told cs = x) :
    DoesT w 80 568 [v] lb (fun r _ => ∃ t, r = .str x t) := by
  have H := heard_spec w lb v _ hv hrun (fun cs' e => by cases e; exact hc)
  intro dp un gd env A₀ base h₀ L m mg mb mean s R B F X XB T TB NH hf hk hd hu hret
  refine H dp un gd env A₀ base h₀ L m mg mb mean s R B F X XB T TB NH hf hk hd hu (fun r h' tk' nw F' N' NH' q => hret r h' tk' nw F' N' NH' ?_)
  rcases q with ⟨cs', t, hcs, rfl⟩ | ⟨hn, _⟩
  · cases hcs
    exact ⟨t, by rw [hx]⟩
  · cases hn
theorem heard_ring {w : World} {lb : List (Addr × Obj)} {g c1 : Addr} {t : Tok} {v : Value} {k : Nat} {B : List Addr} (hg : ConsIn w lb g (.int 5 t) (.ref c1)) (hc : ConsIn w lb c1 v (.ref 97)) (h9 : @Ne Nat g 97) (h8 : @Ne Nat c1 97) (hcg : @Ne Nat c1 g) (hN : Nest w lb g B k v) (zk : k < 4) :
    DoesT w 80 568 [.ref g] lb (fun r _ => ∃ t, r = .str (dueS k) t) := by
  have R := fun a : PA => ring_run (a := a) hg hc h9 h8 hcg hN (by omega)
  refine heard_codes rfl R ?_ ?_
  · rcases k with _ | _ | _ | _ | k
    · decide
    · decide
    · decide
    · decide
    · omega
  · rcases k with _ | _ | _ | _ | k
    · decide
    · decide
    · decide
    · decide
    · omega
theorem heard_ring2 {w : World} {lb : List (Addr × Obj)} {g c1 o p : Addr} {t t2 : Tok} {v : Value} {k : Nat} {B : List Addr} (hg : ConsIn w lb g (.int 5 t) (.ref c1)) (hc : ConsIn w lb c1 v (.ref 97)) (h9 : @Ne Nat g 97) (h8 : @Ne Nat c1 97) (hcg : @Ne Nat c1 g) (hN : Nest w lb g B k v) (zk : k < 4)
    (ho : ConsIn w lb o (.ref g) (.ref p)) (hp : ConsIn w lb p (.int 1 t2) (.ref 97)) (o9 : @Ne Nat o 97) (p9 : @Ne Nat p 97) (hpo : @Ne Nat p o) (hBo : o ∉ B) (hog : @Ne Nat o g) :
    DoesT w 80 568 [.ref o] lb (fun r _ => ∃ t, r = .str (Str.ofString "(" ++ repS k ++ Str.ofString " 1)") t) := by
  have R := fun a : PA => ring2_run (a := a) hg hc h9 h8 hcg hN (by omega) ho hp o9 p9 hpo hBo hog
  refine heard_codes rfl R ?_ ?_
  · rcases k with _ | _ | _ | _ | k
    · decide
    · decide
    · decide
    · decide
    · omega
  · rcases k with _ | _ | _ | _ | k
    · decide
    · decide
    · decide
    · decide
    · omega
noncomputable abbrev mapD (inner : Value) (k : Int) (tk : Tok) (g : Addr) (u : Str → Option Value) : Str → Option Value :=
  fun y => if y = Str.ofString "_law_inner" then some inner else if y = Str.ofString "_law_many" then some (.int k tk) else if y = Str.ofString "_law_ring" then some (.ref g) else u y
/-- between two lists around the ring -/
def LoopD (w : World) (fx : List (Addr × Obj)) (g dg : Addr) (k : Int) (tk : Tok) (I : Addr) (i : Nat) (m : Str → Option Value) (nw : List (Addr × Obj)) : Prop :=
  ∃ as v u' tl, nw = fx ++ tl ∧ Nest w tl g as i v ∧ m = mapD v k tk g u' ∧ (∀ p ∈ fx, @LT.lt Nat _ p.1 I) ∧ (∀ p ∈ tl, p.2.cls ≠ .type "range_iterator") ∧ OwnOff tl [dg]
theorem mapD_start {A B C : Str} {va vb vc : Option Value} {u : Str → Option Value} (h : A ≠ B) : (fun y => if y = B then vb else if y = A then va else if y = C then vc else u y) = fun y => if y = A then va else if y = B then vb else if y = C then vc else u y := by
  funext y
  by_cases h1 : y = A
  · subst h1
    simp only [if_neg h, if_pos]
  · simp only [if_neg h1]
theorem mapD_norm {A B C T : Str} {va vb vc vt va0 : Option Value} {u : Str → Option Value} (h1 : B ≠ T) (h2 : C ≠ T) : (fun y => if y = A then va else if y = T then vt else if y = A then va0 else if y = B then vb else if y = C then vc else u y) = fun y => if y = A then va else if y = B then vb else if y = C then vc else if y = T then vt else u y := by
  funext y
  by_cases hA : y = A
  · simp only [if_pos hA]
  simp only [if_neg hA]
  by_cases hB : y = B
  · subst hB
    simp only [if_neg h1, if_pos]
  simp only [if_neg hB]
  by_cases hC : y = C
  · subst hC
    simp only [if_neg h2, if_pos]
  simp only [if_neg hC]
theorem turn_ring {w : World} {fx tl : List (Addr × Obj)} {I L g dg x dx : Addr} {o : Obj} {k : Int} {tk tk0 : Tok} {i : Nat} {h₀ h' : Heap} {as : List Addr} {v : Value} {vt va0 : Option Value} {u' : Str → Option Value} {s₁ : Shared} {Q : Flow → Shared → Prop} {t1 t2 : Tok}
    (hN : Nest w tl g as i v) (ho : o.cls = .type "range_iterator") (hfx : ∀ p ∈ fx, @LT.lt Nat _ p.1 I) (htl : ∀ p ∈ tl, p.2.cls ≠ .type "range_iterator") (hoff : OwnOff tl [dg]) (hg : ∃ og, (g, og) ∈ fx) (hdg : ∃ od, (dg, od) ∈ fx)
    (F : Fr h₀ L h' (fun y => if y = Str.ofString "_law_inner" then some (.ref x) else if y = Str.ofString "_law_turn" then vt else if y = Str.ofString "_law_inner" then va0 else if y = Str.ofString "_law_many" then some (.int k tk) else if y = Str.ofString "_law_ring" then some (.ref g) else u' y))
    (N : News h₀ L h' ((x, instObj 118 dx) :: (dx, consD w t1 t2 v (.ref 97)) :: (I, o) :: (fx ++ tl))) (h1 : ∀ p ∈ (I, o) :: (fx ++ tl), @Ne Nat p.1 x) (h2 : ∀ p ∈ (I, o) :: (fx ++ tl), @Ne Nat p.1 dx) (h9 : @Ne Nat x 97) :
    UnrPost h₀ L s₁ I o (LoopD w fx g dg k tk I (i + 1)) Q .next { s₁ with heap := h', toks := tk0 } := by
  obtain ⟨og, hg⟩ := hg
  obtain ⟨od, hdg⟩ := hdg
  refine unr_end ho F N (fx ++ ([(x, instObj 118 dx), (dx, consD w t1 t2 v (.ref 97))] ++ tl)) ?_ ?_ ⟨x :: as, .ref x, _, [(x, instObj 118 dx), (dx, consD w t1 t2 v (.ref 97))] ++ tl, rfl,
    .more (hN.mono fun p hp => List.mem_append_right _ hp) (hN.fresh fun p hp => h1 p (.tail _ (List.mem_append_right _ hp))) (h1 _ (.tail _ (List.mem_append_left _ hg))) h9 ⟨dx, t1, t2, .head _, .tail _ (.head _)⟩, mapD_norm (by decide) (by decide), hfx, ?_, ?_⟩
  · intro p hp
    simp only [List.mem_cons, List.mem_append, List.not_mem_nil, or_false] at hp ⊢
    rcases hp with h | h | (h | h) | h <;> simp [h]
  · intro p hp
    rcases List.mem_append.mp hp with hp | hp
    · exact .inl (Nat.ne_of_lt (hfx p hp))
    · rcases List.mem_cons.mp hp with rfl | hp
      · exact .inr (by simp [instObj])
      · rcases List.mem_cons.mp hp with rfl | hp
        · exact .inr (by simp [dictOf])
        · exact .inr (htl p hp)
  · intro p hp
    rcases List.mem_cons.mp hp with rfl | hp
    · simp [instObj]
    · rcases List.mem_cons.mp hp with rfl | hp
      · simp [dictOf]
      · exact htl p hp
  · intro p hp b hb
    rw [List.mem_singleton.mp hb]
    rcases List.mem_cons.mp hp with rfl | hp
    · exact fun e => h1 _ (.tail _ (List.mem_append_left _ hdg)) e.symm
    · rcases List.mem_cons.mp hp with rfl | hp
      · exact fun e => h2 _ (.tail _ (List.mem_append_left _ hdg)) e.symm
      · exact hoff p hp dg (.head _)
section
variable {w : World} {x y : Value} {l : Addr} {n : Nat} {rest : List (Addr × Obj)} {dp un : Nat} {gd : Option (List Code)} {env : Env} {outer : List Env} {A₀ : Around} {base h₀ : Heap} {L : Addr} {m mg mb : Str → Option Value} {mean : ExcName → Option Value} {s : Shared} {Q E : Value → Shared → Prop}
theorem use_list1C (hx : handedIn x = true) (N : News h₀ L s.heap ((l, listOf #[x] n) :: rest)) (hl : ∀ p ∈ rest, @LT.lt Nat _ p.1 l)
    (B : Below A₀ base outer h₀) (F : Fr h₀ L s.heap m) (X : (grab.heap_1 w.params).In h₀) (T : Top view (looseW view loose) mean mg mb h₀) (hf : env.frame = some L) (hk : env.scope.kind = .function) (hd : dp + 8 ≤ 900) (hu : un + 20 * 8 ≤ 7000)
    (ret : ∀ c dx t1 t2 h' tk', Fr h₀ L h' m → News h₀ L h' ((c, instObj 118 dx) :: (dx, consD w t1 t2 x (.ref 97)) :: rest) → (∀ p ∈ rest, @Ne Nat p.1 c) → (∀ p ∈ rest, @Ne Nat p.1 dx) → @Ne Nat c 97 → Q (.ref c) { s with heap := h', toks := tk' }) :
    wpAny (model PySem.Challenge.rw_pq0287_01.row.prog w) (AT dp un gd env outer) (call (.ref 250) [.ref l]) Q E s :=
  use_list1 hx N (.head _) (fun p hp => .tail _ hp) (fun p hp => Nat.ne_of_lt (hl p hp)) B F X T hf hk hd hu ret
theorem use_list2C (hx : handedIn x = true) (hy : handedIn y = true) (N : News h₀ L s.heap ((l, listOf #[x, y] n) :: rest)) (hl : ∀ p ∈ rest, @LT.lt Nat _ p.1 l)
    (B : Below A₀ base outer h₀) (F : Fr h₀ L s.heap m) (X : (grab.heap_1 w.params).In h₀) (T : Top view (looseW view loose) mean mg mb h₀) (hf : env.frame = some L) (hk : env.scope.kind = .function) (hd : dp + 8 ≤ 900) (hu : un + 20 * 8 ≤ 7000)
    (ret : ∀ c dx e de t1 t2 t3 t4 h' tk', Fr h₀ L h' m → News h₀ L h' ((c, instObj 118 dx) :: (dx, consD w t1 t2 x (.ref e)) :: (e, instObj 118 de) :: (de, consD w t3 t4 y (.ref 97)) :: rest) → (∀ p ∈ rest, @Ne Nat p.1 c) → @Ne Nat c 97 → @Ne Nat e 97 → @Ne Nat e c → Q (.ref c) { s with heap := h', toks := tk' }) :
    wpAny (model PySem.Challenge.rw_pq0287_01.row.prog w) (AT dp un gd env outer) (call (.ref 250) [.ref l]) Q E s :=
  use_list2 hx hy N (.head _) (fun p hp => .tail _ hp) (fun p hp => Nat.ne_of_lt (hl p hp)) B F X T hf hk hd hu ret
end
theorem ConsIn.mono {w : World} {lb lb' : List (Addr × Obj)} (hs : ∀ p ∈ lb, p ∈ lb') {x : Addr} {a d : Value} (h : ConsIn w lb x a d) : ConsIn w lb' x a d := by
  obtain ⟨dx, t1, t2, m1, m2⟩ := h
  exact ⟨dx, t1, t2, hs _ m1, hs _ m2⟩
theorem skip4 {h₀ h : Heap} {L : Addr} {a b c d : Addr × Obj} {rest : List (Addr × Obj)} (_ : News h₀ L h (a :: b :: c :: d :: rest)) : ∀ p ∈ rest, p ∈ a :: b :: c :: d :: rest := fun _ hp => .tail _ (.tail _ (.tail _ (.tail _ hp)))
theorem rep_due {k : Nat} (h : k < 4) : Txt.replace (dueS k) (Str.ofString "#0") (Str.ofString "#1") = repS k := by
  rcases k with _ | _ | _ | _ | k
  · decide +kernel
  · decide +kernel
  · decide +kernel
  · decide +kernel
  · omega
theorem due_eq {k : Nat} (h : k < 4) : Str.ofString "(5 " ++ Txt.mul (Str.ofString "(") (k : Int) ++ Str.ofString "#0" ++ Txt.mul (Str.ofString ")") (k : Int) ++ Str.ofString ")" = dueS k := by
  rcases k with _ | _ | _ | _ | k
  · decide +kernel
  · decide +kernel
  · decide +kernel
  · decide +kernel
  · omega
theorem mul_len1 {k : Nat} (h : k < 4) : (Txt.mul (Str.ofString "(") (k : Int)).length ≤ 3 ∧ (Txt.mul (Str.ofString ")") (k : Int)).length ≤ 3 := by
  rcases k with _ | _ | _ | _ | k
  · decide +kernel
  · decide +kernel
  · decide +kernel
  · decide +kernel
  · omega
theorem eq_same {prog : Program} {w : World} {A : Around} {E : Value → Shared → Prop} {s : Shared} {x : Str} {t u : Tok} {Q : Value → Shared → Prop} (h : Q (.bool true) s) : wpAny (model prog w) A (compareOp .Eq (.str x t) (.str x u)) Q E s := by
  refine eq_str ?_
  simpa using h
theorem use_rep {prog : Program} {w : World} {A : Around} {E : Value → Shared → Prop} {s : Shared} {x y z r : Str} {t u v : Tok} {Q : Value → Shared → Prop} (hr : Txt.replace x y z = r) (hu : u ≠ 0) (hv : v ≠ 0) (huv : u ≠ v) (hyz : (y == z) = false) (hx : x.length ≤ 1048576) (hz : z.length ≤ 14)
    (hq : ∀ t' k, Q (.str r t') { s with toks := k }) : wpAny (model prog w) A (call (.builtin "str.replace") [.str x t, .str y u, .str z v]) Q E s :=
  SC.replaceW hu hv huv hyz hx hz (by rw [hr]; exact hq)
end
section
local macro_rules | `(tactic| walk_at "exec For Name Call cons nil") => `(tactic| ((rename Fr _ _ _ _ => lF'); (with_unfolding_all refine' For_invVF lF' ?k1 ?k2 ?_ ?k4 ?k3; (case k1 => exact rfl); (case k2 => exact rfl); (case k3 => assumption); (case k4 => (intro _; rfl)); k_whole)))
local macro_rules | `(tactic| walk_at "pyIter ref") => `(tactic| ((with_reducible show wpAny _ _ (pyIter (Value.ref _)) (fun it s₂ => LoopAtV _ _ _ _ _ _ _ _ _ it s₂) _ _); k_dflt (refine Hold.out ?_)))
local macro_rules | `(tactic| walk_at "UnrPost") => `(tactic| (k_dflt (refine Hold.out ?_)))
local macro_rules | `(tactic| walk_at "binaryOp Add str str") => `(tactic| ((with_reducible show wpAny _ _ (binaryOp Operator.Add (Value.str _ _) (Value.str _ _)) _ _ _); k_dflt (refine KOpn.add (by (try simp only [PySem.Str.length_append]); omega) ?_); intro _ _ _))
local macro_rules | `(tactic| walk_at "call ref") => `(tactic| with_reducible refine held250 ?_)
local macro_rules | `(tactic| walk_at "call ref") => `(tactic| with_reducible refine held568 ?_)
local macro_rules | `(tactic| walk_at "call ref") => `(tactic| with_reducible refine held556 ?_)
section
local macro_rules | `(tactic| walk_at "newList") => `(tactic| (k_dflt (refine' newList_K ?k1 ?k2 ?_; (case k1 => k_asm); (case k2 => k_asm); k_whole); intro l' h' F' N' l1; (try k_sweep)))
section
section
local macro_rules | `(tactic| walk_at "execs cons") => `(tactic| ((with_reducible show wpAny _ _ (execs (Stmt.Assign [Expr.Name (Str.ofString "_law_due") _] _ _ :: _) _) _ _ _); k_dflt (refine Hold.out ?_)))
local macro_rules | `(tactic| walk_at "call builtin:str.replace") => `(tactic| (k_dflt (refine use_rep (rep_due (by assumption)) (by k_ne) (by k_ne) (by k_ne) (by decide) (by omega) (by omega) ?_); intro _ _))
local macro_rules | `(tactic| walk_at "binaryOp Mult str int") => `(tactic| ((with_reducible show wpAny _ _ (binaryOp Operator.Mult (Value.str _ _) (Value.int _ _)) _ _ _); k_dflt (refine SB.mul (mulOk_of 16 1048576 (by omega) (by omega) (by omega) (by decide) (by decide)) ?_); intro _ _))
local macro_rules | `(tactic| walk_at "compareOp Eq str str") => `(tactic| ((with_reducible refine eq_same ?_)))
theorem law_e (w : World) (dp un : Nat) (gd : Option (List Code)) (fa L : Addr) (cdv : Value) (A₀ : Around) (base h₀ : Heap) (mg mb u : Str → Option Value) (mean : ExcName → Option Value) (s : Shared) (Q : Flow → Shared → Prop) (E : Value → Shared → Prop)
    (g dg : Addr) (t1 t2 t5 tk : Tok) (n : Nat) (v : Value) (as : List Addr) (tl : List (Addr × Obj)) (H : LawSt w dp un A₀ base h₀ mg mb mean)
    (hNe : Nest w tl g as n v) (hn : n < 4) (hoff : OwnOff tl [dg]) (h9 : @Ne Nat g 97) (hgd : @Ne Nat g dg)
    (F : Fr h₀ L s.heap (mapD v n tk g u)) (N : News h₀ L s.heap ((g, instObj 118 dg) :: (dg, consD w t1 t2 (.int 5 t5) (.ref 97)) :: tl))
    (hE : PassesOwn (model PySem.Challenge.rw_pq0287_01.row.prog w) (AT dp un gd (lawE fa L cdv) []) (lawE fa L cdv) E) (hQ : ∀ h' tk m', Fr h₀ L h' m' → Q (.ret (.bool true)) { s with heap := h', toks := tk }) :
    wpAny (model PySem.Challenge.rw_pq0287_01.row.prog w) (AT dp un gd (lawE fa L cdv) []) (execs (lawP.1.1.body.drop 8) (lawE fa L cdv)) Q E s := by
  have hB := H.B; have hX := H.X; have hT := H.T; have hd := H.hd; have hu := H.hu
  have m1 := (mul_len1 hn).1
  have m2 := (mul_len1 hn).2
  have l1 : (Str.ofString "(5 ").length = 3 := by decide
  have l2 : (Str.ofString "#0").length = 2 := by decide
  have l3 : (Str.ofString ")").length = 1 := by decide
  have l4 : (Str.ofString "(").length = 1 := by decide
  have l5 : (Str.ofString " 1)").length = 3 := by decide
  have l6 : (Str.ofString "#1").length = 2 := by decide
  have l7 := dueS_len n
  have l8 := repS_len n
  delta mapD at F
  revert hX; k_fill; intro hX
  dsimp only [lawP, lawE] at hE
  dsimp only [lawP, List.drop, lawE]
  k_steps
  (rename Fr _ _ _ _ => F2); (rename News _ _ _ _ => N2); (rename ∀ p, p ∈ _ → _ < _ => hlt)
  refine Hold.mk ?_
  k_dflt (refine' use_list1C hNe.given N2 hlt hB F2 hX hT rfl rfl ?hd ?hu ?_)
  case hd => omega
  case hu => omega
  intro c dx e1 e2 h' tk' F3 N3 hfr hfd h8
  clear F2 N2 hlt
  have p1 : @Ne Nat g c := hfr _ (.head _)
  have p2 : @Ne Nat dg c := hfr _ (.tail _ (.head _))
  have p3 : @Ne Nat g dx := hfd _ (.head _)
  have p4 : @Ne Nat dg dx := hfd _ (.tail _ (.head _))
  k_steps
  (rename Fr _ _ _ _ => F5); (rename News _ _ _ _ => N5)
  have hg : ConsIn w ((c, instObj 118 dx) :: (dx, consD w e1 e2 v (.ref 97)) :: (g, instObj 118 dg) :: (dg, consD w t1 t2 (.int 5 t5) (.ref c)) :: tl) g (.int 5 t5) (.ref c) := ⟨dg, t1, t2, .tail _ (.tail _ (.head _)), .tail _ (.tail _ (.tail _ (.head _)))⟩
  have hc : ConsIn w ((c, instObj 118 dx) :: (dx, consD w e1 e2 v (.ref 97)) :: (g, instObj 118 dg) :: (dg, consD w t1 t2 (.int 5 t5) (.ref c)) :: tl) c v (.ref 97) := ⟨dx, e1, e2, .head _, .tail _ (.head _)⟩
  have hN' : Nest w ((c, instObj 118 dx) :: (dx, consD w e1 e2 v (.ref 97)) :: (g, instObj 118 dg) :: (dg, consD w t1 t2 (.int 5 t5) (.ref c)) :: tl) g as n v := hNe.mono fun p hp => .tail _ (.tail _ (.tail _ (.tail _ hp)))
  refine Hold.mk ?_
  with_reducible refine wpAny_execs_cons ?_
  dsimp only
  k_steps
  (rename Fr _ _ _ _ => F6); (rename News _ _ _ _ => N6)
  simp only [due_eq hn] at F6
  refine Hold.mk ?_
  k_dflt (refine' (heard_ring hg hc h9 h8 (fun e => p1 e.symm) hN' hn).use H F6 N6 rfl rfl (by decide) ?_)
  rintro r h1 tk1 nw1 F7 N7 ⟨td, rfl⟩
  have N8 := News.sub N7 (fun p hp => List.mem_append_right _ hp)
  clear N7 F6 N6
  k_steps
  (rename Fr _ _ _ _ => F9); (rename News _ _ _ _ => N9); (rename ∀ p, p ∈ _ → _ < _ => hlt)
  refine Hold.mk ?_
  k_dflt (refine' use_list2C rfl rfl N9 hlt hB F9 hX hT rfl rfl ?hd ?hu ?_)
  case hd => omega
  case hu => omega
  intro o d2 p d3 a1 a2 a3 a4 h2 tk2 F10 N10 hfo o9 p9 hpo
  have hs := skip4 N10
  clear F9 N9 hlt
  k_steps
  (rename Fr _ _ _ _ => F11); (rename News _ _ _ _ => N11)
  refine Hold.mk ?_
  k_dflt (refine' (heard_ring2 (hg.mono hs) (hc.mono hs) h9 h8 (fun e => p1 e.symm) (hN'.mono hs) hn ⟨d2, a1, a2, .head _, .tail _ (.head _)⟩ ⟨d3, a3, a4, .tail _ (.tail _ (.head _)), .tail _ (.tail _ (.tail _ (.head _)))⟩ o9 p9 hpo (hN'.fresh hfo) (fun e => hfo _ (.tail _ (.tail _ (.head _))) e.symm)).use H F11 N11 rfl rfl (by decide) ?_)
  rintro r h3 tk3 nw3 F12 N12 ⟨te, rfl⟩
  have N13 := News.sub N12 (fun p hp => List.mem_append_right _ hp)
  clear N12 F11 N11
  k_steps
  exact hQ _ _ _ F12
end
end
section
section
local macro_rules | `(tactic| walk_at "none such 48") => `(tactic| skip)
local macro_rules | `(tactic| walk_at "execs cons") => `(tactic| ((with_reducible show wpAny _ _ (execs (Stmt.Assign [Expr.Attribute (Expr.Name (Str.ofString "_law_ring") _) _ _] _ _ :: _) _) _ _ _); k_dflt (refine Hold.out ?_)))
theorem law_d2 (w : World) (dp un : Nat) (gd : Option (List Code)) (fa L : Addr) (cdv : Value) (A₀ : Around) (base h₀ : Heap) (mg mb u : Str → Option Value) (mean : ExcName → Option Value) (s : Shared) (Q : Flow → Shared → Prop) (E : Value → Shared → Prop)
    (D D1 g dg : Addr) (t1 t2 t5 : Tok) (dl : List (Addr × Obj)) (oc : Obj) (H : LawSt w dp un A₀ base h₀ mg mb mean)
    (hD : Deck D D1 dl) (hne : @Ne Nat D D1) (hoc : oc.data = .cell (some (.ref D)))
    (hLD : @Ne Nat (L + 1) D) (hLD1 : @Ne Nat (L + 1) D1) (h9 : @Ne Nat g 97) (hgd : @Ne Nat g dg) (q1 : @Ne Nat D g) (q2 : @Ne Nat D dg) (q3 : @Ne Nat D1 g) (q4 : @Ne Nat D1 dg)
    (F : Fr h₀ L s.heap (fun y => if y = Str.ofString "_law_ring" then some (.ref g) else u y)) (N : News h₀ L s.heap ((g, instObj 118 dg) :: (dg, consD w t1 t2 (.int 5 t5) (.ref 97)) :: (dl ++ [(L + 1, oc)])))
    (hE : PassesOwn (model PySem.Challenge.rw_pq0287_01.row.prog w) (AT dp un gd (lawE fa L cdv) []) (lawE fa L cdv) E) (hQ : ∀ h' tk m', Fr h₀ L h' m' → Q (.ret (.bool true)) { s with heap := h', toks := tk }) :
    wpAny (model PySem.Challenge.rw_pq0287_01.row.prog w) (AT dp un gd (lawE fa L cdv) []) (execs (lawP.1.1.body.drop 6) (lawE fa L cdv)) Q E s := by
  have hB := H.B; have hX := H.X; have hT := H.T; have hd := H.hd; have hu := H.hu
  have hD' := hD
  obtain ⟨ys, zs, mx, tm, n0, n1, -, -, -, -, rfl⟩ := hD'
  simp only [List.cons_append, List.nil_append] at N
  revert hX; k_fill; intro hX
  dsimp only [lawP, lawE] at hE
  dsimp only [lawP, List.drop, lawE]
  k_steps
  (rename Fr _ _ _ _ => F2); (rename News _ _ _ _ => N2)
  refine Hold.mk ?_
  k_dflt (refine' use_draw (rest := [(g, instObj 118 dg), (dg, consD w t1 t2 (.int 5 t5) (.ref 97)), (L + 1, oc)]) hD (by decide) (by decide) hne ?O N2 ?sub hB F2 hX hT rfl rfl ?hd ?hu ?_)
  case O =>
    intro p hp b hb
    simp only [List.mem_cons, List.not_mem_nil, or_false] at hp hb
    rcases hp with rfl | rfl | rfl <;> rcases hb with rfl | rfl
    · exact fun e => q1 e.symm
    · exact fun e => q3 e.symm
    · exact fun e => q2 e.symm
    · exact fun e => q4 e.symm
    · exact hLD
    · exact hLD1
  case sub =>
    intro p hp
    simp only [List.cons_append, List.nil_append, List.mem_cons, List.not_mem_nil, or_false] at hp ⊢
    rcases hp with h | h | h | h | h <;> simp [h]
  case hd => omega
  case hu => omega
  intro k tk1 h2 tk2 dl2 hk0 hk4 hdl2 F3 N3
  clear F2 N2
  obtain ⟨ys2, zs2, mx2, tm2, n02, n12, -, -, -, -, rfl⟩ := hdl2
  simp only [List.cons_append, List.nil_append] at N3
  obtain ⟨n, rfl⟩ : ∃ n : Nat, k = (n : Int) := ⟨k.toNat, by omega⟩
  k_steps
  (rename IsRange _ _ _ _ _ _ _ _ => hR); (rename Fr _ _ _ _ => F6); (rename News _ _ _ _ => N7)
  have N8 := News.sub (l' := [(g, instObj 118 dg), (dg, consD w t1 t2 (.int 5 t5) (.ref 97))]) N7 (fun p hp => by
    simp only [List.mem_cons, List.not_mem_nil, or_false] at hp ⊢
    rcases hp with h | h <;> simp [h])
  refine Hold.mk ?_
  k_dflt (refine' range_loopI (n := n) (LoopD w [(g, instObj 118 dg), (dg, consD w t1 t2 (.int 5 t5) (.ref 97))] g dg n tk1) rfl hR rfl (by omega) F6 N8 ?j ?fin ?step)
  case j => exact fun I hI => ⟨[], .ref g, u, [], rfl, .ring, rfl, hI, (fun _ h => nomatch h), (fun _ h => nomatch h)⟩
  case fin =>
    rintro I m nw h tk ⟨as, v, u', tl, rfl, hNe, rfl, hI, htl, hoff⟩ F9 N9
    clear hR F6 N7 N8
    k_steps
    refine Hold.mk ?_
    k_dflt (refine' law_e _ _ _ _ _ _ _ _ _ _ _ _ u' _ _ _ _ g dg _ _ _ tk1 n v as tl H hNe ?hn hoff h9 hgd F9 N9 hE ?hQ)
    case hn => omega
    case hQ => exact fun h' tk m' F' => hQ h' tk m' F'
  case step =>
    rintro i m nw t h tk I o hi ⟨as, v, u', tl, rfl, hNe, rfl, hI, htl, hoff⟩ ho F9 N9
    clear hR F6 N7 N8
    delta mapD at F9
    simp only [List.cons_append, List.nil_append] at N9
    k_steps
    (rename Fr _ _ _ _ => F10); (rename News _ _ _ _ => N10); (rename ∀ p, p ∈ _ → _ < _ => hlt)
    refine Hold.mk ?_
    k_dflt (refine' use_list1C hNe.given N10 hlt hB F10 hX hT rfl rfl ?hd ?hu ?_)
    case hd => omega
    case hu => omega
    intro c dx e1 e2 h' tk' F11 N11 hfr hfd h8
    clear F10 N10 hlt
    k_steps
    (rename Fr _ _ _ _ => F12); (rename News _ _ _ _ => N12)
    refine Hold.mk ?_
    k_dflt (exact turn_ring hNe ho hI htl hoff ⟨_, .head _⟩ ⟨_, .tail _ (.head _)⟩ F12 N12 hfr hfd h8)
end
section
local macro_rules | `(tactic| walk_at "execs cons") => `(tactic| ((with_reducible show wpAny _ _ (execs (Stmt.Assign [Expr.Tuple _ _ _] _ _ :: _) _) _ _ _); k_dflt (refine Hold.out ?_)))
theorem law_d (w : World) (dp un : Nat) (gd : Option (List Code)) (fa L : Addr) (cdv : Value) (A₀ : Around) (base h₀ : Heap) (mg mb u : Str → Option Value) (mean : ExcName → Option Value) (s : Shared) (Q : Flow → Shared → Prop) (E : Value → Shared → Prop)
    (D D1 : Addr) (dl : List (Addr × Obj)) (oc : Obj) (H : LawSt w dp un A₀ base h₀ mg mb mean)
    (hD : Deck D D1 dl) (hne : @Ne Nat D D1) (hoc : oc.data = .cell (some (.ref D)))
    (hLD : @Ne Nat (L + 1) D) (hLD1 : @Ne Nat (L + 1) D1)
    (F : Fr h₀ L s.heap u) (N : News h₀ L s.heap (dl ++ [(L + 1, oc)]))
    (hE : PassesOwn (model PySem.Challenge.rw_pq0287_01.row.prog w) (AT dp un gd (lawE fa L cdv) []) (lawE fa L cdv) E) (hQ : ∀ h' tk m', Fr h₀ L h' m' → Q (.ret (.bool true)) { s with heap := h', toks := tk }) :
    wpAny (model PySem.Challenge.rw_pq0287_01.row.prog w) (AT dp un gd (lawE fa L cdv) []) (execs (lawP.1.1.body.drop 5) (lawE fa L cdv)) Q E s := by
  have hB := H.B; have hX := H.X; have hT := H.T; have hd := H.hd; have hu := H.hu
  have hD' := hD
  obtain ⟨ys, zs, mx, tm, n0, n1, -, -, -, -, rfl⟩ := hD'
  simp only [List.cons_append, List.nil_append] at N
  revert hX; k_fill; intro hX
  dsimp only [lawP, lawE] at hE
  dsimp only [lawP, List.drop, lawE]
  k_steps
  (rename Fr _ _ _ _ => F2); (rename News _ _ _ _ => N2)
  refine Hold.mk ?_
  k_dflt (refine' law_d2 _ _ _ _ _ _ _ _ _ _ _ _ _ _ _ _ _ D D1 _ _ _ _ _ _ oc H hD hne hoc hLD hLD1 ?h9 ?hgd ?q1 ?q2 ?q3 ?q4 F2 N2 hE ?hQ)
  case h9 => exact ne97 hX N2 (.head _)
  case hgd => k_ne
  case q1 => k_ne
  case q2 => k_ne
  case q3 => k_ne
  case q4 => k_ne
  case hQ => exact fun h' tk m' F' => hQ h' tk m' F'
end
end
end
section
theorem ne_same {prog : Program} {w : World} {A : Around} {E : Value → Shared → Prop} {s : Shared} {x : Str} {t u : Tok} {Q : Value → Shared → Prop} (h : Q (.bool false) s) : wpAny (model prog w) A (compareOp .NotEq (.str x t) (.str x u)) Q E s := by
  refine ne_str ?_
  simpa using h
section
local macro_rules | `(tactic| walk_at "none such 40") => `(tactic| skip)
local macro_rules | `(tactic| walk_at "none such 41") => `(tactic| skip)
local macro_rules | `(tactic| walk_at "execs cons") => `(tactic| ((with_reducible show wpAny _ _ (execs (Stmt.Assign [Expr.Name _ _] _ _ :: _) _) _ _ _); k_dflt (refine Hold.out ?_)))
local macro_rules | `(tactic| walk_at "compareOp NotEq str str") => `(tactic| ((with_reducible refine ne_same ?_)))
theorem law_c (w : World) (dp un : Nat) (gd : Option (List Code)) (fa L : Addr) (cdv : Value) (A₀ : Around) (base h₀ : Heap) (mg mb u : Str → Option Value) (mean : ExcName → Option Value) (s : Shared) (Q : Flow → Shared → Prop) (E : Value → Shared → Prop)
    (D D1 W : Addr) (dl nw : List (Addr × Obj)) (as : List Addr) (ls : List (Bool × Bool)) (v : Value) (dv : Int) (td tf tb : Tok) (oc : Obj) (H : LawSt w dp un A₀ base h₀ mg mb mean)
    (hD : Deck D D1 dl) (hne : @Ne Nat D D1) (hdv : dv = (ls.length : Int)) (h1 : dv ≤ 250) (hoc : oc.data = .cell (some (.ref D)))
    (hLD : @Ne Nat (L + 1) D) (hLD1 : @Ne Nat (L + 1) D1) (hTw : Tower w nw as ls v) (hs : ∀ p ∈ dl ++ [(L + 1, oc)], p ∈ nw)
    (F : Fr h₀ L s.heap (mapC W dv td ls v tf tb u)) (N : News h₀ L s.heap nw)
    (hE : PassesOwn (model PySem.Challenge.rw_pq0287_01.row.prog w) (AT dp un gd (lawE fa L cdv) []) (lawE fa L cdv) E) (hQ : ∀ h' tk m', Fr h₀ L h' m' → Q (.ret (.bool true)) { s with heap := h', toks := tk }) :
    wpAny (model PySem.Challenge.rw_pq0287_01.row.prog w) (AT dp un gd (lawE fa L cdv) []) (execs (lawP.1.1.body.drop 4) (lawE fa L cdv)) Q E s := by
  have hB := H.B; have hX := H.X; have hT := H.T; have hd := H.hd; have hu := H.hu
  subst hdv
  have e7 : (Str.ofString "7").length = 1 := by decide
  have hfl := frontS_len ls
  have hbl := behindS_len ls
  delta mapC at F
  revert hX; k_fill; intro hX
  dsimp only [lawP, List.drop, lawE]
  k_steps
  refine Hold.mk ?_
  k_dflt (refine' (heard_tower hTw ?z).use H F N rfl rfl (by decide) ?_)
  case z => omega
  rintro r h' tk' nw' F' N' (⟨hz, t, rfl⟩ | ⟨hz, x, t, n, rfl, hx⟩)
  · clear F N
    k_steps
    (rename Fr _ _ _ _ => F9); (rename News _ _ _ _ => N9)
    refine Hold.mk ?_
    k_dflt (refine' law_d _ _ _ _ _ _ _ _ _ _ _ _ _ _ _ _ _ D D1 _ oc H hD hne hoc hLD hLD1 F9 (News.sub N9 ?sub) hE ?hQ)
    case sub => exact fun p hp => List.mem_append_right _ (hs p hp)
    case hQ => exact fun h' tk m' F' => hQ h' tk m' F'
  · clear F N
    have N2 : News h₀ L h' ((x, listOf #[.str (Str.ofString "error") t] n) :: nw) := fun p hp => by
      rcases List.mem_cons.mp hp with rfl | hp
      · exact N' _ (List.mem_append_left _ hx)
      · exact N' _ (List.mem_append_right _ hp)
    clear N'
    k_steps
    (rename Fr _ _ _ _ => F9); (rename News _ _ _ _ => N9)
    refine Hold.mk ?_
    k_dflt (refine' law_d _ _ _ _ _ _ _ _ _ _ _ _ _ _ _ _ _ D D1 _ oc H hD hne hoc hLD hLD1 F9 (News.sub N9 ?sub) hE ?hQ)
    case sub => exact fun p hp => .tail _ (.tail _ (hs p hp))
    case hQ => exact fun h' tk m' F' => hQ h' tk m' F'
end
end
section
section
local macro_rules | `(tactic| walk_at "none such 37") => `(tactic| skip)
local macro_rules | `(tactic| walk_at "execs cons") => `(tactic| ((with_reducible show wpAny _ _ (execs (Stmt.If _ _ _ _ :: _) _) _ _ _); k_dflt (refine Hold.out ?_)))
local macro_rules | `(tactic| walk_at "binaryOp Add ref ref") => `(tactic| ((with_reducible show wpAny _ _ (binaryOp _ (Value.ref _) (Value.ref _)) _ _ _); k_dflt (refine' kmk_add_lit ?F ?N ?a ?b ?e ?_ ?z; (case F => k_asm); (case N => k_asm); (case a => kmk_list); (case b => kmk_list); (case e => kl_lit); (case z => kl_room)); intro D' h' F' N' l1; (try k_sweep)))
theorem law_b (w : World) (dp un : Nat) (gd : Option (List Code)) (fa L : Addr) (cdv : Value) (A₀ : Around) (base h₀ : Heap) (mg mb u : Str → Option Value) (mean : ExcName → Option Value) (s : Shared) (Q : Flow → Shared → Prop) (E : Value → Shared → Prop)
    (D D1 W : Addr) (dl : List (Addr × Obj)) (us : List Value) (ks : List Int) (dv : Int) (td : Tok) (oc : Obj) (H : LawSt w dp un A₀ base h₀ mg mb mean)
    (hD : Deck D D1 dl) (hne : @Ne Nat D D1) (hus : IntsAre us ks) (hkl : ks.length = 5) (hk4 : ∀ k ∈ ks, (0 : Int) ≤ k ∧ k < 4) (h0 : 0 ≤ dv) (h1 : dv ≤ 250) (hoc : oc.data = .cell (some (.ref D)))
    (hLD : @Ne Nat (L + 1) D) (hLD1 : @Ne Nat (L + 1) D1) (hWD : @Ne Nat W D) (hWD1 : @Ne Nat W D1)
    (F : Fr h₀ L s.heap (mapB W dv td u)) (N : News h₀ L s.heap (dl ++ [(W, LCg.lst us), (L + 1, oc)]))
    (hE : PassesOwn (model PySem.Challenge.rw_pq0287_01.row.prog w) (AT dp un gd (lawE fa L cdv) []) (lawE fa L cdv) E) (hQ : ∀ h' tk m', Fr h₀ L h' m' → Q (.ret (.bool true)) { s with heap := h', toks := tk }) :
    wpAny (model PySem.Challenge.rw_pq0287_01.row.prog w) (AT dp un gd (lawE fa L cdv) []) (execs (lawP.1.1.body.drop 2) (lawE fa L cdv)) Q E s := by
  have hD' := hD
  obtain ⟨ys, zs, mx, tm, n0, n1, -, -, -, -, rfl⟩ := hD'
  simp only [List.cons_append, List.nil_append] at N
  have hB := H.B; have hX := H.X; have hT := H.T; have hd := H.hd; have hu := H.hu
  obtain ⟨n, rfl⟩ : ∃ n : Nat, dv = (n : Int) := ⟨dv.toNat, by omega⟩
  delta mapB at F
  dsimp only [lawP, lawE] at hE
  dsimp only [lawP, List.drop, lawE]
  have e1 : (Str.ofString "").length = 0 := by decide
  have e2 : (Str.ofString ")").length = 1 := by decide
  have e3 : (Str.ofString "]").length = 1 := by decide
  have e4 : (Str.ofString " 8").length = 2 := by decide
  have e5 : (Str.ofString "(").length = 1 := by decide
  have e6 : (Str.ofString "[").length = 1 := by decide
  revert hX; k_fill; intro hX
  k_steps
  (rename IsRange _ _ _ _ _ _ _ _ => hR); (rename Fr _ _ _ _ => F6); (rename News _ _ _ _ => N7)
  have N8 := News.sub (l' := [(D, listOf #[.ref D1, .int mx tm] n0), (D1, listOf ys.toArray n1), (W, LCg.lst us), (L + 1, oc)]) N7 (fun p hp => .tail _ hp)
  refine Hold.mk ?_
  k_dflt (refine' range_loopI (n := n) (LoopB w [(D, listOf #[.ref D1, .int mx tm] n0), (D1, listOf ys.toArray n1), (W, LCg.lst us), (L + 1, oc)] W n td) rfl hR rfl (by omega) F6 N8 ?j ?fin ?step)
  case j => exact fun I hI => ⟨[], [], _, _, _, u, [], rfl, .int, rfl, rfl, hI, fun _ h => nomatch h⟩
  case fin =>
    rintro I m nw h tk ⟨as, ls, v, tf, tb, u', tl, rfl, hTw, hln, rfl, hI, htl⟩ F9 N9
    clear hR F6 N7 N8
    k_steps
    refine Hold.mk ?_
    k_dflt (refine' law_c _ _ _ _ _ _ _ _ _ _ _ _ u' _ _ _ _ D D1 W _ _ as ls v _ td tf tb oc H hD hne ?hdv h1 hoc hLD hLD1 hTw ?sub F9 N9 hE ?hQ)
    case hdv => omega
    case sub =>
      intro p hp
      simp only [List.cons_append, List.nil_append, List.mem_cons, List.not_mem_nil, or_false] at hp ⊢
      rcases hp with h | h | h <;> simp [h]
    case hQ => exact fun h' tk m' F' => hQ h' tk m' F'
  case step =>
    rintro i m nw t h tk I o hi ⟨as, ls, v, tf, tb, u', tl, rfl, hTw, hln, rfl, hI, htl⟩ ho F9 N9
    clear hR F6 N7 N8
    delta mapC at F9
    simp only [List.cons_append, List.nil_append] at N9
    have hfl := frontS_len ls
    have hbl := behindS_len ls
    have i1 : @LT.lt Nat _ D I := hI _ (.head _)
    have i2 : @LT.lt Nat _ D1 I := hI _ (.tail _ (.head _))
    have i3 : @LT.lt Nat _ W I := hI _ (.tail _ (.tail _ (.head _)))
    have i4 : @LT.lt Nat _ (L + 1) I := hI _ (.tail _ (.tail _ (.tail _ (.head _))))
    k_steps
    · (rename Fr _ _ _ _ => F10); (rename News _ _ _ _ => N10); (rename ∀ p, p ∈ _ → _ < _ => hlt)
      k_dflt (refine' use_list2B hTw.given rfl N10 hlt hB F10 hX hT rfl rfl ?hd ?hu ?_)
      case hd => omega
      case hu => omega
      intro c dx e de t1 t2 t3 t4 h' tk' F11 N11 hfr h9 h8 h7
      clear F10 N10 hlt
      k_steps
      (rename Fr _ _ _ _ => F12); (rename News _ _ _ _ => N12)
      refine Hold.mk ?_
      k_dflt (exact turn_list2 hTw hln ho hI htl F12 N12 hfr h9 h8 h7)
    · (rename Fr _ _ _ _ => F10); (rename News _ _ _ _ => N10)
      refine Hold.mk ?_
      k_dflt (refine' turn_vec2 hX hTw hln ho hI htl F10 N10 ?h1 ?h2 ?h3)
      case h1 => first | assumption | omega
      case h2 =>
        intro p hp
        simp only [List.mem_cons, List.not_mem_nil, or_false] at hp
        rcases hp with rfl | rfl | rfl | rfl <;> dsimp only <;> omega
      case h3 =>
        repeat (cases ‹_ ∧ _›)
        assumption
    · (rename Fr _ _ _ _ => F10); (rename News _ _ _ _ => N10); (rename ∀ p, p ∈ _ → _ < _ => hlt)
      k_dflt (refine' use_list1B hTw.given N10 hlt hB F10 hX hT rfl rfl ?hd ?hu ?_)
      case hd => omega
      case hu => omega
      intro c dx t1 t2 h' tk' F11 N11 hfr hfd h9
      clear F10 N10 hlt
      k_steps
      (rename Fr _ _ _ _ => F12); (rename News _ _ _ _ => N12)
      refine Hold.mk ?_
      k_dflt (exact turn_list1 hTw hln ho hI htl F12 N12 hfr h9)
    · (rename Fr _ _ _ _ => F10); (rename News _ _ _ _ => N10)
      refine Hold.mk ?_
      k_dflt (refine' turn_vec1 hX hTw hln ho hI htl F10 N10 ?h1 ?h2 ?h3)
      case h1 => first | assumption | omega
      case h2 =>
        intro p hp
        simp only [List.mem_cons, List.not_mem_nil, or_false] at hp
        rcases hp with rfl | rfl | rfl | rfl <;> dsimp only <;> omega
      case h3 =>
        repeat (cases ‹_ ∧ _›)
        assumption
end
end
section
section
local macro_rules | `(tactic| walk_at "CompSrc") => `(tactic| (k_dflt (refine Hold.out ?_)))
local macro_rules | `(tactic| walk_at "execs cons") => `(tactic| ((with_reducible show wpAny _ _ (execs (Stmt.Assign [Expr.Tuple _ _ _] _ _ :: _) _) _ _ _); k_dflt (refine Hold.out ?_)))
local macro_rules | `(tactic| walk_at "eval ListComp") => `(tactic| (k_dflt (refine Hold.out ?_)))
local macro_rules | `(tactic| walk_at "call ref") => `(tactic| with_reducible refine held549 ?_)
def walk.tw4515414164929362787 : Unit := ()
def walk.tw7017700849549433352 : Unit := ()
set_option Elab.async true
theorem walk : Walk := by
  intro d kwd hd
  have hd' := Option.some.inj (hd.symm.trans (rfl : defOf view (Str.ofString "law") = some (_, _)))
  obtain ⟨rfl, rfl⟩ := (Prod.mk.injEq _ _ _ _).mp hd'
  clear hd hd'
  w_strict (
    k_go0
    all_goals try k_fold
    k_steps
    (rename Frag.In _ _ => hX)
    (rename Top _ _ _ _ _ _ => hT)
    (rename Heap.IsList _ _ _ => hL)
    (rename IntsAre _ _ => hI)
    (rename (¬ (_ : Int) < _) => hlen)
    (rename Below _ _ _ _ => hB)
    (rename Fr _ _ _ _ => F0)
    (rename News _ _ _ _ => N0)
    obtain ⟨oS, hoS, hcS, nS, hdS⟩ := hL
    refine Hold.mk ?_
    k_dflt (refine' DoesH.use (deck_spec _ _ oS _ _ nS _ hcS hdS hI (by omega)) ?B ?F ?X News.nil ?T (hid_of F0 N0 hoS) ?hf ?hk ?hd ?hu ?_ ?_)
    case B => k_asm
    case F => k_asm
    case X => k_asm
    case T => k_asm
    case hf => rfl
    case hk => rfl
    case hd => decide
    case hu => decide
    rotate_left
    · intro q; exact q.elim
    · intro rv h1 tk1 nw1 F1 N1 K1 hr1
      obtain ⟨D, D1, ys, zs, mx, tm, rfl, hys, hz0, hmx, hzl, hs1, hne, hfD, hfD1⟩ := hr1
      have hc1 := hfD _ (.tail _ (.head _)); have hc2 := hfD1 _ (.tail _ (.head _)); dsimp only at hc1 hc2
      have N2 := news_join (News.sub N1 hs1) (news_back N0 (fun p hp => K1 p (.tail _ hp)))
      clear N1 N0 F0
      simp only [List.cons_append, List.nil_append] at N2
      k_steps
      refine Hold.mk ?_
      with_reducible refine wpAny_execs_cons ?_
      k_steps
      (rename Obj => oc); (rename Shared => s1)
      (rename Fr _ _ _ _ => F2); (rename News _ _ _ _ => N3)
      have dk0 : Deck D D1 [(D, listOf #[.ref D1, .int mx tm] 0), (D1, LCg.lst ys)] := ⟨ys, zs, mx, tm, _, _, hys, hz0, hmx, hzl, rfl⟩
      refine Hold.mk ?_
      k_dflt (refine' use_draw dk0 (by decide) (by decide) hne ?O N3 (fun p hp => swap3 p hp) ?B F2 ?X ?T ?hf ?hk ?hd ?hu ?_)
      case O =>
        intro p hp b hb
        simp only [List.mem_cons, List.not_mem_nil, or_false] at hp hb
        rcases hp with rfl | rfl <;> rcases hb with rfl | rfl <;> (dsimp only; intro e9; replace e9 : @Eq Nat _ _ := e9; omega)
      case B => k_asm
      case X => k_asm
      case T => k_asm
      case hf => rfl
      case hk => rfl
      case hd => decide
      case hu => decide
      intro k t2 h2 tk2 dl2 hk0 hk9 hdl2 F4 N4
      clear N3 F2 dk0
      have hdl2' := hdl2
      obtain ⟨ys2, zs2, mx2, tm2, n0', n1', -, -, -, -, rfl⟩ := hdl2'
      simp only [List.cons_append, List.nil_append] at N4
      k_steps
      have N5 : News _ _ h2 [(D, listOf #[.ref D1, .int mx2 tm2] n0'), (D1, listOf ys2.toArray n1'), (s1.heap.objs.size + 1, oc)] := News.sub N4 (fun p hp => by
        simp only [List.mem_cons, List.not_mem_nil, or_false] at hp ⊢
        rcases hp with h | h | h <;> simp [h])
      clear N4
      refine Hold.mk ?_
      k_dflt (refine LCg.ListComp_U (F₀ := by k_asm) (by rfl) (by decide) (by rfl) (by decide) (by rfl) ?_)
      k_steps
      (rename IsRange _ _ _ _ _ _ _ _ => hR); (rename Fr _ _ _ _ => F6); (rename News _ _ _ _ => N7)
      refine Hold.mk ?_
      k_dflt (refine LCg.CompSrc.range (n := 5) rfl F6 N7 hR (by decide) (by rfl) (by decide) fun g => ?_)
      clear hR
      refine rest_inv (fun i us nw => ∃ dl ks, Deck D D1 dl ∧ IntsAre us ks ∧ ks.length = i ∧ (∀ k ∈ ks, (0 : Int) ≤ k ∧ k < 4) ∧ nw = dl ++ [(s1.heap.objs.size + 1, oc)]) 5 ?_ ?_ 5 0 [] _ rfl ⟨_, [], hdl2, .nil, rfl, (fun _ h => nomatch h), rfl⟩
      · rintro us nw ⟨dl, ks, hdl, hks, hkl, hk4, rfl⟩
        unfold LCg.FinE
        intro W h3 tk3 F8 N8 o8
        clear F6 N7
        have hdl' := hdl
        obtain ⟨ys3, zs3, mx3, tm3, n03, n13, -, -, -, -, rfl⟩ := hdl'
        simp only [List.cons_append, List.nil_append] at N8 o8
        k_steps
        (rename Fr _ _ _ _ => F9); (rename News _ _ _ _ => N9)
        refine Hold.mk ?_
        k_dflt (refine' law_b _ _ _ _ _ _ _ _ _ _ _ _ _ _ _ _ _ D D1 W _ us ks _ _ _ ⟨?B, ?X, ?X2, ?T, ?T2, ?hd, ?hu⟩ hdl hne hks hkl hk4 ?h0 ?h1 ?hoc hc1 hc2 ?hWD ?hWD1 F9 (News.sub N9 ?sub) ?hE ?hQ)
        case B => k_asm
        case X => k_asm
        case X2 => k_asm
        case T => k_asm
        case T2 => k_asm
        case hd => decide
        case hu => decide
        case h0 => exact (deep_le _).1
        case h1 => exact (deep_le _).2
        case hoc => assumption
        case hWD => exact fun e => o8.1 e.symm
        case hWD1 => exact fun e => o8.2.1 e.symm
        case sub =>
          intro p hp
          simp only [List.cons_append, List.nil_append, List.mem_cons, List.not_mem_nil, or_false] at hp ⊢
          rcases hp with h | h | h | h <;> simp [h]
        case hE => first | passes_own | with_unfolding_all passes_own
        case hQ =>
          intro h' tk m' F11
          clear F9 N9
          k_steps
      · rintro i us nw v I oI C oC D' m₂ h tk' E' hlt ⟨dl, ks, hdl, hks, hkl, hk4, rfl⟩ hP hC hx F' N' off ne
        have hdl' := hdl
        obtain ⟨ys3, zs3, mx3, tm3, n03, n13, -, -, -, -, rfl⟩ := hdl'
        simp only [List.cons_append, List.nil_append] at N'
        clear F6 N7
        k_steps
        (rename Fr _ _ _ _ => F9); (rename News _ _ _ _ => N9)
        refine Hold.mk ?_
        k_dflt (refine' use_draw (rest := [(I, oI), (C, oC), (D', LCg.lst us), (s1.heap.objs.size + 1, oc)]) hdl (by decide) (by decide) hne ?O N9 ?sub ?B F9 ?X ?T ?hf ?hk ?hd ?hu ?_)
        case B => k_asm
        case X => k_asm
        case T => k_asm
        case hf => rfl
        case hk => rfl
        case hd => decide
        case hu => decide
        case sub =>
          intro p hp
          simp only [List.cons_append, List.nil_append, List.mem_cons, List.not_mem_nil, or_false] at hp ⊢
          rcases hp with h | h | h | h | h | h <;> simp [h]
        case O =>
          intro p hp b hb
          simp only [List.mem_cons, List.not_mem_nil, or_false] at hp hb
          have o1 := off.1
          have o2 := off.2.1
          rcases hp with rfl | rfl | rfl | rfl <;> rcases hb with rfl | rfl
          · exact fun e => o1.1 e.symm
          · exact fun e => o2.1 e.symm
          · exact fun e => o1.2.1 e.symm
          · exact fun e => o2.2.1 e.symm
          · exact fun e => o1.2.2 e.symm
          · exact fun e => o2.2.2 e.symm
          · exact hc1
          · exact hc2
        · intro k2 t3 h3 tk3 dl3 hk20 hk24 hdl3 F10 N10
          have hdl3' := hdl3
          obtain ⟨ys4, zs4, mx4, tm4, n04, n14, -, -, -, -, rfl⟩ := hdl3'
          k_steps
          refine LCg.CompEnd.intro F10 N10 ([(D, listOf #[.ref D1, .int mx4 tm4] n04), (D1, listOf ys4.toArray n14)] ++ [(s1.heap.objs.size + 1, oc)]) ?_ off trivial ⟨_, ks ++ [k2], hdl3, ksk_snoc hks, by simp [hkl], ?_, rfl⟩
          · intro p hp
            simp only [List.cons_append, List.nil_append, List.mem_cons, List.not_mem_nil, or_false] at hp ⊢
            rcases hp with h | h | h | h | h | h <;> simp [h]
          · intro k hk
            rcases List.mem_append.mp hk with hk | hk
            · exact hk4 k hk
            · rw [List.mem_singleton.mp hk]; exact ⟨hk20, hk24⟩)
end
end
end
end
end Mine
end
set_option Elab.async false
namespace Mine.head
def tw14425540821336420448 : Unit := ()
def tw12310735299239354703 : Unit := ()
def tw12460202669355646752 : Unit := ()
def tw3715584954343283195 : Unit := ()
def tw2554682012703037696 : Unit := ()
def tw16871623187472473471 : Unit := ()
def tw14788773977795034992 : Unit := ()
def tw6772502638888315869 : Unit := ()
def tw15794997505209512671 : Unit := ()
def tw11296743742662292762 : Unit := ()
def tw2393098407364606883 : Unit := ()
def tw18007968972792079559 : Unit := ()
def tw4473611206160876864 : Unit := ()
def tw2864405669816312776 : Unit := ()
def tw9133290819911140118 : Unit := ()
def tw15520248196984853422 : Unit := ()
def tw11747935591851868200 : Unit := ()
def tw12998212659555988865 : Unit := ()
def tw9186546921256032858 : Unit := ()
def tw5501060405047882677 : Unit := ()
def tw18227723713731065979 : Unit := ()
def tw14628233357713752721 : Unit := ()
def tw9984397402777080727 : Unit := ()
def tw3696042808614700290 : Unit := ()
def tw7450023128482652576 : Unit := ()
def tw17163498327005133941 : Unit := ()
def tw18384547517478447814 : Unit := ()
def tw12352672977532951062 : Unit := ()
def tw1134157569726261602 : Unit := ()
def tw12870424476946447624 : Unit := ()
def tw7013799640231393816 : Unit := ()
def tw6962616298243392575 : Unit := ()
def tw4834694072379752904 : Unit := ()
def tw6088685845774392931 : Unit := ()
def tw45052839361067614 : Unit := ()
def tw4965378191221513410 : Unit := ()
def tw14720509044617813951 : Unit := ()
def tw10265929125382437317 : Unit := ()
def tw1519320592345488741 : Unit := ()
def tw1919001801439425371 : Unit := ()
def tw6240353410654795137 : Unit := ()
def tw8895791426145780158 : Unit := ()
def tw8187629637223713605 : Unit := ()
def tw15436542981012472205 : Unit := ()
def tw13510609219080548989 : Unit := ()
def tw16817119741492734445 : Unit := ()
def tw18416563613846182222 : Unit := ()
def tw18073253993163958545 : Unit := ()
def tw17453365369857097546 : Unit := ()
def tw9114333099845857663 : Unit := ()
def tw2172669909848549399 : Unit := ()
def tw8182079617134344778 : Unit := ()
def tw17988201657351507238 : Unit := ()
def tw6889739017440866108 : Unit := ()
def tw4693820183103290663 : Unit := ()
def tw16903022960794457021 : Unit := ()
def tw14145653219816572579 : Unit := ()
def tw3746228215898030841 : Unit := ()
def tw709382114072422158 : Unit := ()
def tw15035418422258542911 : Unit := ()
def tw16072502192527678464 : Unit := ()
def tw12601080634535202701 : Unit := ()
def tw1714602735852981970 : Unit := ()
def tw5508695066786827253 : Unit := ()
def tw2096541523181747872 : Unit := ()
def tw1212124681294104184 : Unit := ()
def tw9388430590476628193 : Unit := ()
def tw5515381820778694223 : Unit := ()
def tw7661765248129044261 : Unit := ()
def tw6521490308693473283 : Unit := ()
def tw8169693465737517768 : Unit := ()
def tw649443455394278489 : Unit := ()
def tw14809280573855064638 : Unit := ()
def tw15798066900824788120 : Unit := ()
def tw8944843718432748164 : Unit := ()
def tw7758381527925395934 : Unit := ()
def tw604627371996746742 : Unit := ()
def tw5104563664521345299 : Unit := ()
def tw10015159338476511836 : Unit := ()
def tw3944913497352057107 : Unit := ()
def tw12207028300977255130 : Unit := ()
def tw17486074103640542121 : Unit := ()
def tw12201952087667049370 : Unit := ()
def tw9065935926736091543 : Unit := ()
def tw17017319662998615 : Unit := ()
def tw15539854500240908086 : Unit := ()
def tw3062044705579621278 : Unit := ()
def tw9987851973559822609 : Unit := ()
def tw8412703570448423476 : Unit := ()
def tw15604011560834605598 : Unit := ()
def tw15735840784391694233 : Unit := ()
def tw742351954350328859 : Unit := ()
def tw6247268493268985975 : Unit := ()
def tw12773685731770592110 : Unit := ()
def tw14028522991509751376 : Unit := ()
def tw13637325136056909300 : Unit := ()
def tw7658410731251134818 : Unit := ()
def tw14699756766385990792 : Unit := ()
def tw17227084328999160987 : Unit := ()
def tw17332727794074296334 : Unit := ()
def tw13294958713779813728 : Unit := ()
def tw532055438628499158 : Unit := ()
def tw6211381574409162282 : Unit := ()
def tw6588589085864783938 : Unit := ()
def tw14009643544190721742 : Unit := ()
def tw7526775705450560304 : Unit := ()
def tw9196398404247428943 : Unit := ()
def tw1832916270232011604 : Unit := ()
def tw15204471325056678010 : Unit := ()
def tw15894371620910866019 : Unit := ()
def tw14676189674455941282 : Unit := ()
def tw15796087645652482245 : Unit := ()
def tw9162278640276766204 : Unit := ()
def tw12695399030622205104 : Unit := ()
def tw5723944856813171866 : Unit := ()
def tw15091486752826498866 : Unit := ()
def tw15785421084128741142 : Unit := ()
def tw12328230846540189838 : Unit := ()
def tw17608190574486352970 : Unit := ()
def tw12362083183470981646 : Unit := ()
def tw4964814941381164201 : Unit := ()
def tw3264716943610762504 : Unit := ()
def tw7417405269818204032 : Unit := ()
def tw739537129135343663 : Unit := ()
def tw17552560543380974038 : Unit := ()
def tw1588998889523462085 : Unit := ()
def tw13295082483830516422 : Unit := ()
def tw9062998866958442273 : Unit := ()
def tw5111174896325423537 : Unit := ()
def tw14999265807660949796 : Unit := ()
def tw12478146576626367362 : Unit := ()
def tw17539234302018041193 : Unit := ()
def tw6079359036626576793 : Unit := ()
def tw8382746154173761051 : Unit := ()
def tw18260194641540637818 : Unit := ()
def tw5019597260055213698 : Unit := ()
def tw17173245716831642929 : Unit := ()
def tw4433315090154635215 : Unit := ()
def tw13906610036690215845 : Unit := ()
def tw9625377726130185387 : Unit := ()
def tw2611935402230173564 : Unit := ()
def tw2581250870941146908 : Unit := ()
def tw12074249297620881909 : Unit := ()
def tw174166394780034911 : Unit := ()
def tw3089916443595474862 : Unit := ()
def tw3615648651819825313 : Unit := ()
def tw5438144065070405397 : Unit := ()
def tw15037083628117588352 : Unit := ()
def tw7994106446794305319 : Unit := ()
def tw1909714482019496454 : Unit := ()
def tw8627200689577751383 : Unit := ()
def tw4691952243595246448 : Unit := ()
def tw4415685298772064003 : Unit := ()
def tw17113217626458354986 : Unit := ()
def tw13412022041919118725 : Unit := ()
def tw5870146547769353613 : Unit := ()
def tw807142644699662319 : Unit := ()
def tw7019705661483823052 : Unit := ()
def tw17789423225533864492 : Unit := ()
def tw5096742575497195690 : Unit := ()
def tw2879759524354350568 : Unit := ()
def tw9202431907968578930 : Unit := ()
def tw6402496994288996404 : Unit := ()
def tw780477332936465449 : Unit := ()
def tw16922147877168347812 : Unit := ()
def tw12344544660321961925 : Unit := ()
def tw2203363585012173787 : Unit := ()
def tw5599997604879368025 : Unit := ()
def tw2876011056497122456 : Unit := ()
def tw5401097623525119610 : Unit := ()
def tw6327039764776113722 : Unit := ()
def tw5353729903917744248 : Unit := ()
def tw6640010369347007910 : Unit := ()
def tw8535708456716222715 : Unit := ()
def tw1495726902847802894 : Unit := ()
def tw15638870477510070732 : Unit := ()
def tw2518057956044344595 : Unit := ()
def tw10510622979536455646 : Unit := ()
def tw15690418888454525347 : Unit := ()
def tw7704315382344345624 : Unit := ()
def tw693309671712327132 : Unit := ()
def tw16997897962222511 : Unit := ()
def tw16894197260953374720 : Unit := ()
def tw4483413254912295219 : Unit := ()
def tw5986637957666399235 : Unit := ()
def tw11194998557105285118 : Unit := ()
def tw2825341998796452840 : Unit := ()
def tw15039987702171664376 : Unit := ()
def tw10988817232074504935 : Unit := ()
def tw12475708393154427166 : Unit := ()
def tw5092371620264689978 : Unit := ()
def tw15112835437128306455 : Unit := ()
def tw11484358847640170188 : Unit := ()
def tw14512941343882779238 : Unit := ()
def tw14061139507663348314 : Unit := ()
def tw6053349399257934933 : Unit := ()
def tw13743032657059413451 : Unit := ()
def tw11582096051123008839 : Unit := ()
def tw13353151263460963528 : Unit := ()
def tw5927865893512547691 : Unit := ()
def tw10079960370226730655 : Unit := ()
def tw7512725033676591148 : Unit := ()
def tw2400818531096893172 : Unit := ()
def tw9082462177598256812 : Unit := ()
def tw11862927689305589065 : Unit := ()
def tw10356212845559719233 : Unit := ()
def tw13988103294471073821 : Unit := ()
def tw18240164343135922154 : Unit := ()
def tw1276956409769668328 : Unit := ()
def tw3688799982635324794 : Unit := ()
def tw6973584914630602586 : Unit := ()
def tw17464823870196871000 : Unit := ()
def tw14744981736328886265 : Unit := ()
def tw12043669396524033845 : Unit := ()
def tw10748227973586771634 : Unit := ()
def tw1689142752476645926 : Unit := ()
def tw4273228799998304602 : Unit := ()
def tw14882813523228863612 : Unit := ()
def tw6880043348581005364 : Unit := ()
def tw9325057278558614444 : Unit := ()
def tw17851911948540123838 : Unit := ()
def tw14149427978524627653 : Unit := ()
def tw17212568112599259466 : Unit := ()
def tw6237802210402583469 : Unit := ()
def tw1937370526825066196 : Unit := ()
def tw12024539317367501503 : Unit := ()
def tw6587087628758450585 : Unit := ()
def tw2994366008111725845 : Unit := ()
def tw1858285994304674589 : Unit := ()
def tw10579682063295529230 : Unit := ()
def tw17725469503822016867 : Unit := ()
def tw66618190712790079 : Unit := ()
def tw10005452208157733855 : Unit := ()
def tw14943480678444902952 : Unit := ()
def tw2350586252961548244 : Unit := ()
def tw16278871845796110771 : Unit := ()
def tw17197444120159719569 : Unit := ()
def tw13246386896891170512 : Unit := ()
def tw5788964047882338313 : Unit := ()
def tw6426539377367359892 : Unit := ()
def tw5638995163158488052 : Unit := ()
def tw12775505166333009402 : Unit := ()
def tw16474958459275807246 : Unit := ()
def tw17826015225549371706 : Unit := ()
def tw13605870324054321959 : Unit := ()
def tw1748456618969930982 : Unit := ()
def tw12359489953124434286 : Unit := ()
def tw5506250874072839755 : Unit := ()
def tw4381510469713062047 : Unit := ()
def tw14877080517539528568 : Unit := ()
def tw15840312062823119879 : Unit := ()
def tw17821319399108415887 : Unit := ()
def tw2260579728952749127 : Unit := ()
def tw12704426703380559182 : Unit := ()
def tw851385035628625539 : Unit := ()
def tw8408249889716310983 : Unit := ()
def tw5187041380464763778 : Unit := ()
def tw8402328212356670530 : Unit := ()
def tw17836260108008149386 : Unit := ()
def tw13508044439285423174 : Unit := ()
def tw10533634037010066435 : Unit := ()
def tw1463646239528298992 : Unit := ()
def tw16984083398119652359 : Unit := ()
def tw12032222614953749359 : Unit := ()
def tw16172288393029767808 : Unit := ()
def tw2237326684586592538 : Unit := ()
def tw17508272824862286709 : Unit := ()
def tw9145527808636388435 : Unit := ()
def tw14234965402570480558 : Unit := ()
def tw7906546307943345882 : Unit := ()
def tw4975070653579243887 : Unit := ()
def tw1626232751844553403 : Unit := ()
def tw4947566427324800218 : Unit := ()
def tw6846597200999610202 : Unit := ()
def tw8874674299285249911 : Unit := ()
def tw3304075619188804072 : Unit := ()
def tw5973763720392745831 : Unit := ()
def tw2326617092838664518 : Unit := ()
def tw14364637388885140079 : Unit := ()
def tw17577399041416155939 : Unit := ()
def tw1985537357303476512 : Unit := ()
def tw315434073420411817 : Unit := ()
def tw779419810087314491 : Unit := ()
def tw14909605222495392915 : Unit := ()
def tw17243387458012846398 : Unit := ()
def tw628883079210367009 : Unit := ()
def tw12205659690895024086 : Unit := ()
def tw9056860215390897720 : Unit := ()
def tw10987702880554017565 : Unit := ()
def tw8216834362191484069 : Unit := ()
def tw3821945547825155762 : Unit := ()
def tw5479459121986351116 : Unit := ()
def tw5797013207949663412 : Unit := ()
def tw7523532297153676066 : Unit := ()
def tw10059252607514160932 : Unit := ()
def tw10205530081349824492 : Unit := ()
def tw15895748673760503845 : Unit := ()
def tw5319049981483164881 : Unit := ()
def tw9716329373054682134 : Unit := ()
def tw10519217271611395807 : Unit := ()
def tw18080951475816111786 : Unit := ()
def tw10261356005730403935 : Unit := ()
def tw18051680202136193954 : Unit := ()
def tw2753283235347674219 : Unit := ()
def tw15782939476341012554 : Unit := ()
def tw467416434755642258 : Unit := ()
def tw4023466491090337370 : Unit := ()
def tw13078646160514809887 : Unit := ()
def tw1489404036187247834 : Unit := ()
def tw9820158181544301314 : Unit := ()
def tw12987040726578829979 : Unit := ()
def tw11005904730967762025 : Unit := ()
def tw6507506987150044280 : Unit := ()
def tw6265338273532641288 : Unit := ()
def tw7688317290187622652 : Unit := ()
def tw10900948863051656163 : Unit := ()
def tw15326552575505426906 : Unit := ()
def tw14385403278947933607 : Unit := ()
def tw13227620805987009915 : Unit := ()
def tw4063747431996464497 : Unit := ()
def tw17348764703882912863 : Unit := ()
def tw6100774026682323163 : Unit := ()
def tw12287978374625458572 : Unit := ()
def tw3368030927266983236 : Unit := ()
def tw4311042196063409733 : Unit := ()
def tw14667470093908496907 : Unit := ()
def tw17265401458761052179 : Unit := ()
def tw4307260679431091991 : Unit := ()
def tw2356809184008672923 : Unit := ()
def tw13537664574400122534 : Unit := ()
def tw16065720564569863766 : Unit := ()
def tw17142359554024780413 : Unit := ()
def tw3690969761935527329 : Unit := ()
def tw5141578139466067413 : Unit := ()
def tw10875119458065257276 : Unit := ()
def tw3083302935323014018 : Unit := ()
def tw12903917746401883607 : Unit := ()
def tw16576625349610184965 : Unit := ()
def tw3749026756887285471 : Unit := ()
def tw16640130746408290383 : Unit := ()
def tw10898857373019930491 : Unit := ()
def tw2506711637615833298 : Unit := ()
def tw140066278072042493 : Unit := ()
def tw14982685227137828758 : Unit := ()
def tw1687793838685487538 : Unit := ()
def tw11925700103697007601 : Unit := ()
def tw3088210815446039105 : Unit := ()
def tw7096138990903361605 : Unit := ()
def tw16874305072444578374 : Unit := ()
def tw11923155195566972133 : Unit := ()
def tw14969872817325187116 : Unit := ()
def tw5274623360512300857 : Unit := ()
def tw3581614266968435656 : Unit := ()
def tw8773370040425892893 : Unit := ()
def tw6298033893332097587 : Unit := ()
def tw3991279037241028524 : Unit := ()
def tw12741294794224977040 : Unit := ()
def tw11485113708198979986 : Unit := ()
def tw533756555076263647 : Unit := ()
def tw12740806245664736207 : Unit := ()
def tw9407594320385231609 : Unit := ()
def tw466721876749952763 : Unit := ()
def tw14432977821161478157 : Unit := ()
def tw4976181008148175253 : Unit := ()
def tw7789450098604059249 : Unit := ()
def tw4764554697811233 : Unit := ()
def tw11544532188706048022 : Unit := ()
def tw10366927770000222440 : Unit := ()
def tw18433677622606106133 : Unit := ()
def tw5038994553942263901 : Unit := ()
def tw6846866878297920324 : Unit := ()
def tw4017301010375394790 : Unit := ()
def tw12330954535739239725 : Unit := ()
def tw12865059321931465230 : Unit := ()
def tw7928285938522686346 : Unit := ()
def tw10242447542790323104 : Unit := ()
def tw9280153536138602973 : Unit := ()
def tw7833285031277912329 : Unit := ()
def tw13653928888864918839 : Unit := ()
def tw6121141971511671821 : Unit := ()
def tw17698105195316432488 : Unit := ()
def tw5737951250597237232 : Unit := ()
def tw4746297304354101679 : Unit := ()
def tw1082313596108445148 : Unit := ()
def tw8715499118904818895 : Unit := ()
def tw10018764681926925449 : Unit := ()
def tw6836605351468522007 : Unit := ()
def tw8148234508467215145 : Unit := ()
def tw11770459041652445329 : Unit := ()
def tw7313386461004707312 : Unit := ()
def tw4053978428183960486 : Unit := ()
def tw9214367901419015226 : Unit := ()
def tw4277651752456152607 : Unit := ()
def tw2694075680205673411 : Unit := ()
def tw14195316510222423288 : Unit := ()
def tw8035625575855466936 : Unit := ()
def tw1939405473400901271 : Unit := ()
def tw13198292447841614426 : Unit := ()
def tw3869590956505411354 : Unit := ()
def tw5944575059761466720 : Unit := ()
def tw10504981510240967646 : Unit := ()
def tw13896987355042952010 : Unit := ()
def tw1620002657737552111 : Unit := ()
def tw17905491414393134947 : Unit := ()
def tw14699528089545365996 : Unit := ()
def tw6161856959107265637 : Unit := ()
def tw8758324158161630591 : Unit := ()
def tw5110904390464784769 : Unit := ()
def tw10786079294511566085 : Unit := ()
def tw4194213424209374937 : Unit := ()
def tw13689084217373910675 : Unit := ()
def tw5346772772824661884 : Unit := ()
def tw4972248218790579157 : Unit := ()
def tw4709128311485490483 : Unit := ()
def tw8299393411229908732 : Unit := ()
def tw9074772780463953568 : Unit := ()
def tw1522823579158628613 : Unit := ()
def tw16441004959143088680 : Unit := ()
def tw12858780395421280599 : Unit := ()
def tw14393718171448925343 : Unit := ()
def tw7404141018258913797 : Unit := ()
def tw5617373736292572815 : Unit := ()
def tw2355103038987944067 : Unit := ()
def tw11308087075614649832 : Unit := ()
def tw14969385696402013904 : Unit := ()
def tw15468718075485040107 : Unit := ()
def tw16800043278716471037 : Unit := ()
def tw7732209734871044160 : Unit := ()
def tw10840385229135970747 : Unit := ()
def tw17188972718952451159 : Unit := ()
def tw15841401105113185080 : Unit := ()
def tw6207834228037699737 : Unit := ()
def tw9515422150858430662 : Unit := ()
def tw4945251732147069371 : Unit := ()
def tw1992862871153497056 : Unit := ()
def tw2801629346432672393 : Unit := ()
def tw2441957057352720082 : Unit := ()
def tw10668533816033670360 : Unit := ()
def tw4515414164929362787 : Unit := ()
def tw3547030090768783262 : Unit := ()
def tw2224060146885621047 : Unit := ()
def tw3665506230870052707 : Unit := ()
def tw1319983325249436295 : Unit := ()
def tw1389810093214676884 : Unit := ()
def tw6891450509433485068 : Unit := ()
def tw15253846138512369154 : Unit := ()
def tw8534208459206503383 : Unit := ()
def tw16128420640991077102 : Unit := ()
def tw17002534310236347988 : Unit := ()
def tw2591067827882107080 : Unit := ()
def tw11290360913936777911 : Unit := ()
def tw17525636777796739105 : Unit := ()
def tw4839655697589452165 : Unit := ()
def tw13955511503576765797 : Unit := ()
def tw6684978435548883818 : Unit := ()
def tw17275705279478898512 : Unit := ()
def tw9325123708862168440 : Unit := ()
def tw7599496313472250701 : Unit := ()
def tw8101760021730824546 : Unit := ()
def tw15090936954760563590 : Unit := ()
def tw15406652130919608920 : Unit := ()
def tw15064752311394979489 : Unit := ()
def tw13295774097974887486 : Unit := ()
def tw6202090305015876224 : Unit := ()
def tw2491421050496283774 : Unit := ()
def tw12763952150808568291 : Unit := ()
def tw11821203517306503961 : Unit := ()
def tw10258521583956687137 : Unit := ()
def tw9702098958229961203 : Unit := ()
def tw10043528178539907541 : Unit := ()
def tw5764021196749891206 : Unit := ()
def tw4009957668330374740 : Unit := ()
def tw16782820856776367440 : Unit := ()
def tw15656768269340197940 : Unit := ()
def tw13379354915994877463 : Unit := ()
def tw16572314662081343053 : Unit := ()
def tw3368474557548986910 : Unit := ()
def tw4857777746444614323 : Unit := ()
def tw3980653432952411973 : Unit := ()
def tw11338825007792423415 : Unit := ()
def tw15895551434495452948 : Unit := ()
def tw8185714761375850791 : Unit := ()
def tw17014734716931888790 : Unit := ()
def tw930087139818521243 : Unit := ()
def tw2437478716016495240 : Unit := ()
def tw12851702773856589430 : Unit := ()
def tw17304494776674078335 : Unit := ()
def tw1062042127530464391 : Unit := ()
def tw5906749814970224870 : Unit := ()
def tw5467695095851852608 : Unit := ()
def tw10431609616501453582 : Unit := ()
def tw17093656651364094606 : Unit := ()
def tw15149402430504572791 : Unit := ()
def tw7287109101882759415 : Unit := ()
def tw16847831306532103052 : Unit := ()
def tw14492117785962260688 : Unit := ()
def tw14843749296085226474 : Unit := ()
def tw14205479233844494046 : Unit := ()
def tw8451290768687142514 : Unit := ()
def tw6871339299614917876 : Unit := ()
def tw2340069552987342377 : Unit := ()
def tw14956133685725647455 : Unit := ()
def tw7680146299302783591 : Unit := ()
def tw17958272820484234708 : Unit := ()
def tw8997269238129315039 : Unit := ()
def tw8476099583838051002 : Unit := ()
def tw7277520189549225825 : Unit := ()
def tw13986843968525588388 : Unit := ()
def tw10010264046613662565 : Unit := ()
def tw8912104118211102971 : Unit := ()
def tw13801937863458859944 : Unit := ()
def tw12949380547846470161 : Unit := ()
def tw17362218986543327160 : Unit := ()
def tw15410735652082386980 : Unit := ()
def tw17411354535832351560 : Unit := ()
def tw1315816938146588887 : Unit := ()
def tw6737735255597943219 : Unit := ()
def tw2154566216772986472 : Unit := ()
def tw11434997419882176723 : Unit := ()
def tw16031315777459398524 : Unit := ()
def tw44622916816846810 : Unit := ()
def tw5593727005144783397 : Unit := ()
def tw15014948713429823057 : Unit := ()
def tw9101448428047585222 : Unit := ()
def tw2529948359932261575 : Unit := ()
def tw1211024037004892549 : Unit := ()
def tw9743709737119245314 : Unit := ()
def tw7119846925741900413 : Unit := ()
def tw9978949632667528635 : Unit := ()
def tw17015032458148788900 : Unit := ()
def tw2525317073905713282 : Unit := ()
def tw1503407388533364548 : Unit := ()
def tw13199516396595161752 : Unit := ()
def tw3556061257289618393 : Unit := ()
def tw16106133796442146334 : Unit := ()
def tw14646466228836335164 : Unit := ()
def tw820421773197932041 : Unit := ()
def tw13478637309914159250 : Unit := ()
def tw9495540839478616804 : Unit := ()
def tw13585267454733459922 : Unit := ()
def tw9103479521544129834 : Unit := ()
def tw14139617269561922093 : Unit := ()
def tw15967466079928408925 : Unit := ()
def tw5487235932777146282 : Unit := ()
def tw3496171461512900480 : Unit := ()
def tw9658139154387788515 : Unit := ()
def tw14642881637259292411 : Unit := ()
def tw15510365090734361527 : Unit := ()
def tw14417885227837004991 : Unit := ()
end Mine.head
set_option Elab.async true
set_option maxRecDepth 100000 in
set_option maxHeartbeats 8000000 in
theorem Mine.head : PySem.Challenge.rw_pq0287_01.Holds := by
  w_on
  o_law
  o_head (kHook Mine.grab.heap_1 Mine.addrs Mine.addrs_eq)
  (case hw => w_witness2)
  exact Mine.walk _ _ rfl
set_option Elab.async false
theorem PySem.Challenge.cw_pq0287_01_holds : PySem.Challenge.rw_pq0287_01.Holds :=
  Mine.head
