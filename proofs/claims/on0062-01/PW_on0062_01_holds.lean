import PyProof.Rows.All
import Wide.All
import OpenK.AllK
import Wide.FinOn
import PySem.Challenge.RW_on0062_01
open PySem PySem.W PyProof.Rows
set_option Elab.async false
set_option maxRecDepth 100000
set_option maxHeartbeats 0
set_option linter.unusedSimpArgs false
set_option linter.unusedVariables false
namespace Mine
section
open PySem PySem.W PyProof.Rows
abbrev LedT := List (Addr × Obj)
def Claim (prog : Program) (w : World) (K : Frag) (p : Program) (loose : List Str) (mean : ExcName → Option Value) (mg mb : Str → Option Value) (f : Addr) (k : Nat) (led : LedT) (vs : List Value) (Ret : Value → LedT → Prop) : Prop :=
  ∀ (dp un : Nat) (gd : Option (List Code)) (cn : Str) (cs : Scope) (a : Addr) (ccd : Value) (cl : List (Str × Addr)) (outer : List Env) (A₀ : Around) (base h₀ : Heap) (L : Addr) (m : Str → Option Value) (s : Shared) (Q E : Value → Shared → Prop),
    Below A₀ base outer h₀ → Fr h₀ L s.heap m → K.In h₀ → News h₀ L s.heap led → Top p loose mean mg mb h₀ → cs.kind = .function →
    dp + k < recursionLimit → un + 8 * k < cLine →
    (∀ r led' h' tk', Fr h₀ L h' m → News h₀ L h' led' → Ret r led' → Q r { s with heap := h', toks := tk' }) →
    wpAny (model prog w) (ktrTop dp un gd cn cs L a ccd cl outer) (call (.ref f) vs) Q E s

/-! the deck -/
def CellOk (x : Int) : Prop := 0 ≤ x ∧ x < 10 ^ 60
def DeckOk (ns : List Int) : Prop := 1 ≤ ns.length ∧ ns.length ≤ 30 ∧ ∀ x ∈ ns, CellOk x
theorem DeckOk.mk {ns : List Int} (h1 : 1 ≤ ns.length) (h2 : ns.length ≤ 30) (h3 : ∀ x ∈ ns, CellOk x) : DeckOk ns := ⟨h1, h2, h3⟩

theorem head_ok {D : List Int} (h : DeckOk D) : CellOk (D.getD (Int.toNat 0) 0) := by
  obtain ⟨h1, _, h3⟩ := h
  cases D with
  | nil => exact absurd h1 (by decide)
  | cons x r => exact h3 x (.head _)
theorem set_ok {D : List Int} (h : DeckOk D) {v : Int} (hv : CellOk v) : DeckOk (D.set (Int.toNat 0) v) := by
  obtain ⟨h1, h2, h3⟩ := h
  refine ⟨by rw [List.length_set]; exact h1, by rw [List.length_set]; exact h2, fun x hx => ?_⟩
  rcases List.mem_or_eq_of_mem_set hx with hx | rfl
  · exact h3 x hx
  · exact hv
theorem tail_ok {D : List Int} (h : DeckOk D) (h1 : (1 : Int) < (D.length : Int)) : DeckOk D.tail := by
  obtain ⟨_, h2, h3⟩ := h
  refine ⟨by rw [List.length_tail]; omega, by rw [List.length_tail]; omega, fun x hx => h3 x (List.mem_of_mem_tail hx)⟩
theorem fmod_rng (x : Int) {m : Int} (h : 1 ≤ m) : 0 ≤ x.fmod m ∧ x.fmod m < m :=
  ⟨Int.fmod_nonneg_of_pos x (by omega), Int.fmod_lt_of_pos x (by omega)⟩
theorem fdiv_ok {x m : Int} (h : CellOk x) (hm : 1 ≤ m) : CellOk (x.fdiv m) := by
  obtain ⟨h0, h1⟩ := h
  rw [CellOk, Int.fdiv_eq_ediv_of_nonneg _ (by omega)]
  exact ⟨Int.ediv_nonneg h0 (by omega), Int.lt_of_le_of_lt (Int.ediv_le_self m h0) h1⟩
theorem lcg_ok (x : Int) : CellOk (x.fmod 2147483647) := by
  have := fmod_rng x (m := 2147483647) (by decide)
  exact ⟨this.1, Int.lt_trans this.2 (by decide)⟩

theorem ints_tail {us : List Value} {l : List Int} (hi : IntsAre us l) (h : 0 < us.length) : ∃ t, us = Value.int (l.headD 0) t :: us.tail ∧ IntsAre us.tail l.tail := by
  cases hi with
  | nil => exact absurd h (Nat.lt_irrefl 0)
  | cons k t r => exact ⟨t, rfl, r⟩
theorem pop0 {prog : Program} {w : World} {A : Around} {E : Value → Shared → Prop} {s : Shared} {h₀ : Heap} {L D : Addr} {m : Str → Option Value} {news news' : List (Addr × Obj)} {n : Nat}
    {us : List Value} {l : List Int} {u : Tok} {Q : Value → Shared → Prop} (F : Fr h₀ L s.heap m) (N : News h₀ L s.heap news) (U : Upd D (listOf us.toArray n) (listOf us.tail.toArray (n + 1)) news news') (hi : IntsAre us l) (hne : 0 < us.length)
    (hz : us.length ≤ sizeLine) (h : ∀ h' t, Fr h₀ L h' m → News h₀ L h' news' → IntsAre us.tail l.tail → Q (.int (l.headD 0) t) { s with heap := h' }) : wpAny (model prog w) A (call (.builtin "list.pop") [.ref D, .int 0 u]) Q E s := by
  obtain ⟨t, h1, h3⟩ := ints_tail hi hne
  refine kl_popAt (k := 0) (p := []) (y := .int (l.headD 0) t) (q := us.tail) F N rfl ?_ ?_ U (by simpa using hz) fun h' F' N' => h h' t F' N' h3
  · rw [h1]; simp [seqIndex?]
  · rw [h1]; rfl
end
section
open PySem PySem.W PyProof.Rows
/-! what the functions reckon -/
def figZ (c : Int) : List Int := [92, 48 + c.fdiv 64, 48 + (c.fdiv 8).fmod 8, 48 + c.fmod 8]
def octZ (c : Int) : Str := Str.ofString "\\" ++ Str.ofString (toString (c.fdiv 64)) ++ Str.ofString (toString ((c.fdiv 8).fmod 8)) ++ Str.ofString (toString (c.fmod 8))
def dueZ (c col wide : Int) (car : Bool) : Str :=
  if c = 9 then Txt.mul (Str.ofString " ") (wide - col.fmod wide)
  else if (128 ≤ c ∧ c < 160) ∨ (car = false ∧ (c < 32 ∨ c = 127)) then octZ c
  else if c < 32 then Str.ofString "^" ++ { cps := #[(c + 64).toNat] }
  else if c = 127 then Str.ofString "^?"
  else { cps := #[c.toNat] }
def rawZ (c : Int) : Bool := decide (128 ≤ c ∧ c < 160)
def ctlZ (c : Int) : Bool := decide ((0 ≤ c ∧ c < 32 ∧ c ≠ 10 ∧ c ≠ 9) ∨ c = 127)
def shownZ (c col wide : Int) (car : Bool) : List Int :=
  if c = 10 then [] else if c = 9 then List.replicate (wide - col.fmod wide).toNat 32
  else if rawZ c = true ∨ (ctlZ c = true ∧ car = false) then figZ c
  else if ctlZ c = true then [94, if c = 127 then 63 else c + 64]
  else [c]
section
variable {c col wide : Int} {car : Bool} {vs : List Value} {t u : Tok}
theorem sh10 (h : c = 10) : IntsAre [] (shownZ c col wide car) := by rw [shownZ, if_pos h]; exact .nil
theorem sh9 (h : c ≠ 10) (h9 : c = 9) (hi : IntsAre vs (List.replicate (wide - col.fmod wide).toNat [32]).flatten) : IntsAre vs (shownZ c col wide car) := by
  rw [shownZ, if_neg h, if_pos h9]
  rw [List.flatten_replicate_singleton] at hi
  exact hi
theorem shR (h : c ≠ 10) (h9 : c ≠ 9) (hr : rawZ c = true) (hi : IntsAre vs (figZ c)) : IntsAre vs (shownZ c col wide car) := by
  rw [shownZ, if_neg h, if_neg h9, if_pos (.inl hr)]; exact hi
theorem shC (h : c ≠ 10) (h9 : c ≠ 9) (hr : ctlZ c = true) (hc : car = false) (hi : IntsAre vs (figZ c)) : IntsAre vs (shownZ c col wide car) := by
  rw [shownZ, if_neg h, if_neg h9, if_pos (.inr ⟨hr, hc⟩)]; exact hi
theorem shD (h : c ≠ 10) (h9 : c ≠ 9) (hr : rawZ c = false) (hq : ctlZ c = true) (hc : car = true) (hd : c = 127) : IntsAre [.int 94 t, .int 63 u] (shownZ c col wide car) := by
  rw [shownZ, if_neg h, if_neg h9, if_neg (by simp [hr, hc]), if_pos hq, if_pos hd]; exact .cons _ _ (.cons _ _ .nil)
theorem shE (h : c ≠ 10) (h9 : c ≠ 9) (hr : rawZ c = false) (hq : ctlZ c = true) (hc : car = true) (hd : c ≠ 127) : IntsAre [.int 94 t, .int (c + 64) u] (shownZ c col wide car) := by
  rw [shownZ, if_neg h, if_neg h9, if_neg (by simp [hr, hc]), if_pos hq, if_neg hd]; exact .cons _ _ (.cons _ _ .nil)
theorem shP (h : c ≠ 10) (h9 : c ≠ 9) (hr : rawZ c = false) (hq : ctlZ c = false) : IntsAre [.int c t] (shownZ c col wide car) := by
  rw [shownZ, if_neg h, if_neg h9, if_neg (by simp [hr, hq]), if_neg (by simp [hq])]; exact .cons _ _ .nil
end
def watZ (c col wide : Int) : Int := if c = 9 then wide - col.fmod wide else if c < 32 ∨ c = 127 then 2 else if 127 < c ∧ c < 160 then 4 else 1
/-- a code that the law draws -/
def CodeOk (c : Int) : Prop := 0 ≤ c ∧ c ≤ 1000 ∧ c ≠ 10
def colsZ (wide : Int) (car : Bool) (cs : List Int) : Int := cs.foldl (fun col c => col + ((shownZ c col wide car).length : Int)) 0
def ccolZ (wide : Int) (col : Int) (cs : List Int) : Int := cs.foldl (fun col c => if c = 10 then 0 else col + watZ c col wide) col
theorem colsZ_snoc (wide : Int) (car : Bool) (cs : List Int) (c : Int) : colsZ wide car (cs ++ [c]) = colsZ wide car cs + ((shownZ c (colsZ wide car cs) wide car).length : Int) := by
  unfold colsZ; rw [List.foldl_append]; rfl
theorem ccolZ_snoc (wide col : Int) (cs : List Int) (c : Int) : ccolZ wide col (cs ++ [c]) = if c = 10 then 0 else ccolZ wide col cs + watZ c (ccolZ wide col cs) wide := by
  unfold ccolZ; rw [List.foldl_append]; rfl
theorem shown_len {c col wide : Int} {car : Bool} (h0 : 1 ≤ wide) (h1 : wide ≤ 9) : (shownZ c col wide car).length ≤ 9 := by
  have hf := fmod_rng col h0
  unfold shownZ figZ
  repeat' split
  all_goals (try simp)
  omega
abbrev InnerP (wide : Int) (car : Bool) (pre D C : List Int) (T : Str) : Prop := DeckOk D ∧ C.length = pre.length ∧ (∀ c ∈ C, CodeOk c) ∧ (T.length : Int) = colsZ wide car C ∧ T.length ≤ 9 * C.length
theorem inner_start {wide : Int} {car : Bool} {D : List Int} (h : DeckOk D) : InnerP wide car [] D [] (Str.ofString "") := ⟨h, rfl, fun _ h => (nomatch h), rfl, Nat.le_refl _⟩
theorem ret_str {x y : Str} {t : Tok} {P : Prop} (h : x = y) (p : P) : ∃ t', Value.str x t = .str y t' ∧ P := ⟨t, h ▸ rfl, p⟩
theorem ret_int {x y : Int} {t : Tok} {P : Prop} (h : x = y) (p : P) : ∃ t', Value.int x t = .int y t' ∧ P := ⟨t, h ▸ rfl, p⟩
theorem ret_bool {x y : Bool} {P : Prop} (h : x = y) (p : P) : Value.bool x = .bool y ∧ P := ⟨h ▸ rfl, p⟩
end
section
open PySem PySem.W PyProof.Rows
/-- like Claim, with a list of the caller's arguments -/
def ClaimL (prog : Program) (w : World) (K : Frag) (p : Program) (loose : List Str) (mean : ExcName → Option Value) (mg mb : Str → Option Value) (f : Addr) (k : Nat) (l : Addr) (us : List Value) (led : LedT) (vs : List Value) (Ret : Value → LedT → Prop) : Prop :=
  ∀ (dp un : Nat) (gd : Option (List Code)) (cn : Str) (cs : Scope) (a : Addr) (ccd : Value) (cl : List (Str × Addr)) (outer : List Env) (A₀ : Around) (base h₀ : Heap) (L : Addr) (m : Str → Option Value) (s : Shared) (Q E : Value → Shared → Prop),
    Below A₀ base outer h₀ → Fr h₀ L s.heap m → K.In h₀ → News h₀ L s.heap led → Top p loose mean mg mb h₀ → cs.kind = .function → base.IsList l us.toArray →
    dp + k < recursionLimit → un + 8 * k < cLine →
    (∀ r led' h' tk', Fr h₀ L h' m → News h₀ L h' led' → Ret r led' → Q r { s with heap := h', toks := tk' }) →
    wpAny (model prog w) (ktrTop dp un gd cn cs L a ccd cl outer) (call (.ref f) vs) Q E s
section
variable (prog : Program) (w : World) (K : Frag) (p : Program) (loose : List Str) (mean : ExcName → Option Value) (mg mb : Str → Option Value) (f : Addr)
def DeckOfT : Prop := ∀ (l : Addr) (vs : List Value) (ns : List Int), IntsAre vs ns → ns.length ≤ 63 → ClaimL prog w K p loose mean mg mb f 1 l vs [] [.ref l]
      (fun r led' => ∃ d vs' ns' c', r = .ref d ∧ led' = [(d, listOf vs'.toArray c')] ∧ IntsAre vs' ns' ∧ DeckOk ns')
def DrawT : Prop := ∀ (d : Addr) (vs : List Value) (ns : List Int) (c : Nat) (news : LedT) (many : Int) (tm : Tok), IntsAre vs ns → DeckOk ns → 1 ≤ many → many ≤ 1000 → OwnOff news [d] →
    Claim prog w K p loose mean mg mb f 1 ((d, listOf vs.toArray c) :: news) [.ref d, .int many tm]
      (fun r led' => ∃ v t vs' ns' c', r = .int v t ∧ led' = (d, listOf vs'.toArray c') :: news ∧ 0 ≤ v ∧ v < many ∧ IntsAre vs' ns' ∧ DeckOk ns')
def FigT : Prop := ∀ (code : Int) (tm : Tok) (news : LedT), Claim prog w K p loose mean mg mb f 1 news [.int code tm]
      (fun r led' => ∃ x vs' c', r = .ref x ∧ led' = (x, listOf vs'.toArray c') :: news ∧ (∀ p ∈ news, p.1 < x) ∧ IntsAre vs' (figZ code))
def RawT : Prop := ∀ (code : Int) (tm : Tok) (news : LedT), Claim prog w K p loose mean mg mb f 1 news [.int code tm] (fun r led' => r = .bool (rawZ code) ∧ led' = news)
def CtlT : Prop := ∀ (code : Int) (tm : Tok) (news : LedT), Claim prog w K p loose mean mg mb f 1 news [.int code tm] (fun r led' => r = .bool (ctlZ code) ∧ led' = news)
/-- the dict of an Options object, as its __init__ leaves it -/
abbrev optsD (P : Params) (wide : Int) (tw : Tok) (car : Bool) (k1 k2 k3 k4 k5 t5 : Tok) : Obj :=
  dictOf [⟨PyData.keyHash P (Str.ofString "tab_width"), .str (Str.ofString "tab_width") k1, .int wide tw⟩, ⟨PyData.keyHash P (Str.ofString "has_carets"), .str (Str.ofString "has_carets") k2, .bool car⟩,
    ⟨PyData.keyHash P (Str.ofString "truncates"), .str (Str.ofString "truncates") k3, .bool false⟩, ⟨PyData.keyHash P (Str.ofString "wraps_words"), .str (Str.ofString "wraps_words") k4, .bool false⟩,
    ⟨PyData.keyHash P (Str.ofString "hscroll"), .str (Str.ofString "hscroll") k5, .int 0 t5⟩] 5
def ShownT : Prop := ∀ (code : Int) (tm : Tok) (col : Int) (tc : Tok) (wide : Int) (tw : Tok) (car : Bool) (x dx : Addr) (k1 k2 k3 k4 k5 t5 : Tok) (news : LedT), 1 ≤ wide → wide ≤ 9 →
    Claim prog w K p loose mean mg mb f 2 ((x, instObj 32 dx) :: (dx, optsD w.params wide tw car k1 k2 k3 k4 k5 t5) :: news) [.int code tm, .int col tc, .ref x]
      (fun r led' => ∃ y vs' c', r = .ref y ∧ led' = (y, listOf vs'.toArray c') :: (x, instObj 32 dx) :: (dx, optsD w.params wide tw car k1 k2 k3 k4 k5 t5) :: news ∧ (∀ p ∈ (x, instObj 32 dx) :: (dx, optsD w.params wide tw car k1 k2 k3 k4 k5 t5) :: news, p.1 < y) ∧ IntsAre vs' (shownZ code col wide car))
def WidthT : Prop := ∀ (code : Int) (tm : Tok) (col : Int) (tc : Tok) (wide : Int) (tw : Tok) (car : Bool) (x dx : Addr) (k1 k2 k3 k4 k5 t5 : Tok) (news : LedT), 1 ≤ wide → wide ≤ 9 →
    Claim prog w K p loose mean mg mb f 3 ((x, instObj 32 dx) :: (dx, optsD w.params wide tw car k1 k2 k3 k4 k5 t5) :: news) [.int code tm, .int col tc, .ref x]
      (fun r led' => ∃ t, r = .int ((shownZ code col wide car).length : Int) t ∧ led' = (x, instObj 32 dx) :: (dx, optsD w.params wide tw car k1 k2 k3 k4 k5 t5) :: news)
def ColsT : Prop := ∀ (ca : Addr) (cvs : List Value) (ics : List Int) (cc : Nat) (wide : Int) (tw : Tok) (car : Bool) (x dx : Addr) (k1 k2 k3 k4 k5 t5 : Tok) (news : LedT), 1 ≤ wide → wide ≤ 9 → IntsAre cvs ics → ics.length ≤ 30 →
    Claim prog w K p loose mean mg mb f 4 ((ca, listOf cvs.toArray cc) :: (x, instObj 32 dx) :: (dx, optsD w.params wide tw car k1 k2 k3 k4 k5 t5) :: news) [.ref ca, .ref x]
      (fun r led' => ∃ t, r = .int (colsZ wide car ics) t ∧ led' = (ca, listOf cvs.toArray cc) :: (x, instObj 32 dx) :: (dx, optsD w.params wide tw car k1 k2 k3 k4 k5 t5) :: news)
def WatT : Prop := ∀ (code : Int) (tm : Tok) (col : Int) (tc : Tok) (wide : Int) (tw : Tok) (news : LedT), 1 ≤ wide → wide ≤ 9 →
    Claim prog w K p loose mean mg mb f 1 news [.int code tm, .int col tc, .int wide tw] (fun r led' => ∃ t, r = .int (watZ code col wide) t ∧ led' = news)
def CcolT : Prop := ∀ (ca : Addr) (cvs : List Value) (ics : List Int) (cc : Nat) (col : Int) (tc : Tok) (wide : Int) (tw : Tok) (news : LedT), 1 ≤ wide → wide ≤ 9 → IntsAre cvs ics → ics.length ≤ 30 →
    Claim prog w K p loose mean mg mb f 2 ((ca, listOf cvs.toArray cc) :: news) [.ref ca, .int col tc, .int wide tw]
      (fun r led' => ∃ t, r = .int (ccolZ wide col ics) t ∧ led' = (ca, listOf cvs.toArray cc) :: news)
def OneT : Prop := ∀ (d : Addr) (vs : List Value) (ns : List Int) (c : Nat) (it : Addr) (its : List Value) (menu : List Int) (ci : Nat) (news : LedT), IntsAre vs ns → DeckOk ns → IntsAre its menu → 1 ≤ menu.length → menu.length ≤ 100 → ((it : Nat) ≠ d) → OwnOff news [d] →
    Claim prog w K p loose mean mg mb f 2 ((it, listOf its.toArray ci) :: (d, listOf vs.toArray c) :: news) [.ref d, .ref it]
      (fun r led' => ∃ v t vs' ns' c', r = .int v t ∧ led' = (it, listOf its.toArray ci) :: (d, listOf vs'.toArray c') :: news ∧ v ∈ menu ∧ IntsAre vs' ns' ∧ DeckOk ns')
def DueT : Prop := ∀ (code : Int) (tm : Tok) (col : Int) (tc : Tok) (wide : Int) (tw : Tok) (car : Bool) (news : LedT), 0 ≤ code → code ≤ 1000 → 1 ≤ wide → wide ≤ 9 →
    Claim prog w K p loose mean mg mb f 1 news [.int code tm, .int col tc, .int wide tw, .bool car]
      (fun r led' => ∃ t, r = .str (dueZ code col wide car) t ∧ led' = news)
end
theorem news_in1 {h₀ h : Heap} {L : Addr} {p : Addr × Obj} {r : LedT} (N : News h₀ L h r) (m : p ∈ r) : News h₀ L h (p :: r) := fun a ha => N a (by rcases List.mem_cons.mp ha with rfl | ha; exact m; exact ha)
theorem news_in2 {h₀ h : Heap} {L : Addr} {p q : Addr × Obj} {r : LedT} (N : News h₀ L h r) (m1 : p ∈ r) (m2 : q ∈ r) : News h₀ L h (p :: q :: r) := news_in1 (news_in1 N m2) (.tail _ m1)
section
variable {prog : Program} {w : World} {K : Frag} {p : Program} {loose : List Str} {mean : ExcName → Option Value} {mg mb : Str → Option Value} {f : Addr}
  {dp un : Nat} {gd : Option (List Code)} {cn : Str} {cs : Scope} {a : Addr} {ccd : Value} {cl : List (Str × Addr)} {outer : List Env} {A₀ : Around} {base h₀ : Heap} {L : Addr} {m : Str → Option Value} {s : Shared} {Q E : Value → Shared → Prop} {led : LedT}
theorem deck_of_use {l : Addr} {vs : List Value} {ns : List Int} (C : DeckOfT prog w K p loose mean mg mb f) (B : Below A₀ base outer h₀) (F : Fr h₀ L s.heap m) (X : K.In h₀) (N : News h₀ L s.heap []) (T : Top p loose mean mg mb h₀) (hk : cs.kind = .function)
    (hl : base.IsList l vs.toArray) (hi : IntsAre vs ns) (hn : ns.length ≤ 63) (hd : dp + 1 < recursionLimit) (hu : un + 8 * 1 < cLine)
    (ret : ∀ d vs' ns' c' h' tk', Fr h₀ L h' m → News h₀ L h' [(d, listOf vs'.toArray c')] → IntsAre vs' ns' → DeckOk ns' → Q (.ref d) { s with heap := h', toks := tk' }) :
    wpAny (model prog w) (ktrTop dp un gd cn cs L a ccd cl outer) (call (.ref f) [.ref l]) Q E s :=
  C l vs ns hi hn _ _ _ _ _ _ _ _ _ _ _ _ _ _ _ _ _ B F X N T hk hl hd hu fun _ _ _ _ F' N' ⟨_, _, _, _, e, e2, hi', hk'⟩ => by subst e; subst e2; exact ret _ _ _ _ _ _ F' N' hi' hk'
theorem draw_use {d : Addr} {vs : List Value} {ns : List Int} {c : Nat} {many : Int} {tm : Tok} {g : Obj → LedT} (C : DrawT prog w K p loose mean mg mb f) (B : Below A₀ base outer h₀) (F : Fr h₀ L s.heap m) (X : K.In h₀) (N : News h₀ L s.heap led) (T : Top p loose mean mg mb h₀) (hk : cs.kind = .function)
    (U : UpdF d (listOf vs.toArray c) led g) (hi : IntsAre vs ns) (hD : DeckOk ns) (h1 : 1 ≤ many) (h2 : many ≤ 1000) (hd : dp + 1 < recursionLimit) (hu : un + 8 * 1 < cLine)
    (ret : ∀ v t vs' ns' c' h' tk', Fr h₀ L h' m → News h₀ L h' (g (listOf vs'.toArray c')) → 0 ≤ v → v < many → IntsAre vs' ns' → DeckOk ns' → Q (.int v t) { s with heap := h', toks := tk' }) :
    wpAny (model prog w) (ktrTop dp un gd cn cs L a ccd cl outer) (call (.ref f) [.ref d, .int many tm]) Q E s := by
  obtain ⟨pre, post, rfl, hg, ha, hb⟩ := U.split
  refine C d vs ns c (pre ++ post) many tm hi hD h1 h2 ?_ _ _ _ _ _ _ _ _ _ _ _ _ _ _ _ _ _ B F X (fun q hq => N q ?_) T hk hd hu ?_
  · intro q hq b hb'
    rw [List.mem_singleton.mp hb']
    exact (List.mem_append.mp hq).elim (ha q) (hb q)
  · rcases List.mem_cons.mp hq with rfl | hq
    · exact List.mem_append.mpr (.inr (.head _))
    · exact List.mem_append.mpr ((List.mem_append.mp hq).imp id fun h => .tail _ h)
  · rintro _ _ h' tk' F' N' ⟨v, t, vs', ns', c', rfl, rfl, b1, b2, hi', hD'⟩
    refine ret v t vs' ns' c' h' tk' F' (fun q hq => N' q ?_) b1 b2 hi' hD'
    rw [hg] at hq
    rcases List.mem_append.mp hq with hq | hq
    · exact .tail _ (List.mem_append.mpr (.inl hq))
    · rcases List.mem_cons.mp hq with rfl | hq
      · exact .head _
      · exact .tail _ (List.mem_append.mpr (.inr hq))
theorem one_use {d : Addr} {vs : List Value} {ns : List Int} {c : Nat} {it : Addr} {its : List Value} {menu : List Int} {ci : Nat} {g : Obj → LedT} (C : OneT prog w K p loose mean mg mb f) (B : Below A₀ base outer h₀) (F : Fr h₀ L s.heap m) (X : K.In h₀) (N : News h₀ L s.heap led) (T : Top p loose mean mg mb h₀) (hk : cs.kind = .function)
    (U : UpdF d (listOf vs.toArray c) led g) (m0 : (it, listOf its.toArray ci) ∈ led) (hne : (it : Nat) ≠ d) (hi : IntsAre vs ns) (hD : DeckOk ns) (hm : IntsAre its menu) (h1 : 1 ≤ menu.length) (h2 : menu.length ≤ 100) (hd : dp + 2 < recursionLimit) (hu : un + 8 * 2 < cLine)
    (ret : ∀ v t vs' ns' c' h' tk', Fr h₀ L h' m → News h₀ L h' (g (listOf vs'.toArray c')) → v ∈ menu → IntsAre vs' ns' → DeckOk ns' → Q (.int v t) { s with heap := h', toks := tk' }) :
    wpAny (model prog w) (ktrTop dp un gd cn cs L a ccd cl outer) (call (.ref f) [.ref d, .ref it]) Q E s := by
  obtain ⟨pre, post, rfl, hg, ha, hb⟩ := U.split
  refine C d vs ns c it its menu ci (pre ++ post) hi hD hm h1 h2 hne ?_ _ _ _ _ _ _ _ _ _ _ _ _ _ _ _ _ _ B F X (fun q hq => N q ?_) T hk hd hu ?_
  · intro q hq b hb'
    rw [List.mem_singleton.mp hb']
    exact (List.mem_append.mp hq).elim (ha q) (hb q)
  · rcases List.mem_cons.mp hq with rfl | hq
    · exact m0
    rcases List.mem_cons.mp hq with rfl | hq
    · exact List.mem_append.mpr (.inr (.head _))
    · exact List.mem_append.mpr ((List.mem_append.mp hq).imp id fun h => .tail _ h)
  · rintro _ _ h' tk' F' N' ⟨v, t, vs', ns', c', rfl, rfl, b1, hi', hD'⟩
    refine ret v t vs' ns' c' h' tk' F' (fun q hq => N' q (.tail _ ?_)) b1 hi' hD'
    rw [hg] at hq
    rcases List.mem_append.mp hq with hq | hq
    · exact .tail _ (List.mem_append.mpr (.inl hq))
    · rcases List.mem_cons.mp hq with rfl | hq
      · exact .head _
      · exact .tail _ (List.mem_append.mpr (.inr hq))
theorem fig_use {code : Int} {tm : Tok} (C : FigT prog w K p loose mean mg mb f) (B : Below A₀ base outer h₀) (F : Fr h₀ L s.heap m) (X : K.In h₀) (N : News h₀ L s.heap led) (T : Top p loose mean mg mb h₀) (hk : cs.kind = .function)
    (hd : dp + 1 < recursionLimit) (hu : un + 8 * 1 < cLine)
    (ret : ∀ x vs' c' h' tk', Fr h₀ L h' m → News h₀ L h' ((x, listOf (List.toArray vs') c') :: led) → (∀ p ∈ led, p.1 < x) → IntsAre vs' (figZ code) → Q (.ref x) { s with heap := h', toks := tk' }) :
    wpAny (model prog w) (ktrTop dp un gd cn cs L a ccd cl outer) (call (.ref f) [.int code tm]) Q E s :=
  C code tm led _ _ _ _ _ _ _ _ _ _ _ _ _ _ _ _ _ B F X N T hk hd hu fun _ _ _ _ F' N' ⟨_, _, _, e, e2, hl, hi'⟩ => by subst e; subst e2; exact ret _ _ _ _ _ F' N' hl hi'
theorem shown_use {code : Int} {tm : Tok} {col : Int} {tc : Tok} {wide : Int} {tw : Tok} {car : Bool} {x dx : Addr} {k1 k2 k3 k4 k5 t5 : Tok} (C : ShownT prog w K p loose mean mg mb f) (B : Below A₀ base outer h₀) (F : Fr h₀ L s.heap m) (X : K.In h₀) (N : News h₀ L s.heap led) (T : Top p loose mean mg mb h₀) (hk : cs.kind = .function)
    (m1 : (x, instObj 32 dx) ∈ led) (m2 : (dx, optsD w.params wide tw car k1 k2 k3 k4 k5 t5) ∈ led) (hw0 : 1 ≤ wide) (hw1 : wide ≤ 9) (hd : dp + 2 < recursionLimit) (hu : un + 8 * 2 < cLine)
    (ret : ∀ y vs' c' h' tk', Fr h₀ L h' m → News h₀ L h' ((y, listOf (List.toArray vs') c') :: led) → (∀ p ∈ led, p.1 < y) → IntsAre vs' (shownZ code col wide car) → Q (.ref y) { s with heap := h', toks := tk' }) :
    wpAny (model prog w) (ktrTop dp un gd cn cs L a ccd cl outer) (call (.ref f) [.int code tm, .int col tc, .ref x]) Q E s :=
  C code tm col tc wide tw car x dx k1 k2 k3 k4 k5 t5 led hw0 hw1 _ _ _ _ _ _ _ _ _ _ _ _ _ _ _ _ _ B F X (news_in2 N m1 m2) T hk hd hu fun _ _ _ _ F' N' ⟨_, _, _, e, e2, hl, hi'⟩ => by
    subst e; subst e2
    exact ret _ _ _ _ _ F' (fun q hq => N' q (by
      rcases List.mem_cons.mp hq with rfl | hq
      · exact .head _
      · exact .tail _ (.tail _ (.tail _ hq)))) (fun q hq => hl q (.tail _ (.tail _ hq))) hi'
theorem width_use {code : Int} {tm : Tok} {col : Int} {tc : Tok} {wide : Int} {tw : Tok} {car : Bool} {x dx : Addr} {k1 k2 k3 k4 k5 t5 : Tok} (C : WidthT prog w K p loose mean mg mb f) (B : Below A₀ base outer h₀) (F : Fr h₀ L s.heap m) (X : K.In h₀) (N : News h₀ L s.heap led) (T : Top p loose mean mg mb h₀) (hk : cs.kind = .function)
    (m1 : (x, instObj 32 dx) ∈ led) (m2 : (dx, optsD w.params wide tw car k1 k2 k3 k4 k5 t5) ∈ led) (hw0 : 1 ≤ wide) (hw1 : wide ≤ 9) (hd : dp + 3 < recursionLimit) (hu : un + 8 * 3 < cLine)
    (ret : ∀ t h' tk', Fr h₀ L h' m → News h₀ L h' led → Q (.int ((shownZ code col wide car).length : Int) t) { s with heap := h', toks := tk' }) :
    wpAny (model prog w) (ktrTop dp un gd cn cs L a ccd cl outer) (call (.ref f) [.int code tm, .int col tc, .ref x]) Q E s :=
  C code tm col tc wide tw car x dx k1 k2 k3 k4 k5 t5 led hw0 hw1 _ _ _ _ _ _ _ _ _ _ _ _ _ _ _ _ _ B F X (news_in2 N m1 m2) T hk hd hu fun _ _ _ _ F' N' ⟨_, e, e2⟩ => by
    subst e; subst e2
    exact ret _ _ _ F' (fun q hq => N' q (.tail _ (.tail _ hq)))
theorem cols_use {ca : Addr} {cvs : List Value} {ics : List Int} {cc : Nat} {wide : Int} {tw : Tok} {car : Bool} {x dx : Addr} {k1 k2 k3 k4 k5 t5 : Tok} (C : ColsT prog w K p loose mean mg mb f) (B : Below A₀ base outer h₀) (F : Fr h₀ L s.heap m) (X : K.In h₀) (N : News h₀ L s.heap led) (T : Top p loose mean mg mb h₀) (hk : cs.kind = .function)
    (m0 : (ca, listOf cvs.toArray cc) ∈ led) (m1 : (x, instObj 32 dx) ∈ led) (m2 : (dx, optsD w.params wide tw car k1 k2 k3 k4 k5 t5) ∈ led) (hi : IntsAre cvs ics) (hw0 : 1 ≤ wide) (hw1 : wide ≤ 9) (hn : ics.length ≤ 30) (hd : dp + 4 < recursionLimit) (hu : un + 8 * 4 < cLine)
    (ret : ∀ t h' tk', Fr h₀ L h' m → News h₀ L h' led → Q (.int (colsZ wide car ics) t) { s with heap := h', toks := tk' }) :
    wpAny (model prog w) (ktrTop dp un gd cn cs L a ccd cl outer) (call (.ref f) [.ref ca, .ref x]) Q E s :=
  C ca cvs ics cc wide tw car x dx k1 k2 k3 k4 k5 t5 led hw0 hw1 hi hn _ _ _ _ _ _ _ _ _ _ _ _ _ _ _ _ _ B F X (news_in1 (news_in2 N m1 m2) (.tail _ (.tail _ m0))) T hk hd hu fun _ _ _ _ F' N' ⟨_, e, e2⟩ => by
    subst e; subst e2
    exact ret _ _ _ F' (fun q hq => N' q (.tail _ (.tail _ (.tail _ hq))))
theorem wat_use {code : Int} {tm : Tok} {col : Int} {tc : Tok} {wide : Int} {tw : Tok} (C : WatT prog w K p loose mean mg mb f) (B : Below A₀ base outer h₀) (F : Fr h₀ L s.heap m) (X : K.In h₀) (N : News h₀ L s.heap led) (T : Top p loose mean mg mb h₀) (hk : cs.kind = .function)
    (hw0 : 1 ≤ wide) (hw1 : wide ≤ 9) (hd : dp + 1 < recursionLimit) (hu : un + 8 * 1 < cLine)
    (ret : ∀ t h' tk', Fr h₀ L h' m → News h₀ L h' led → Q (.int (watZ code col wide) t) { s with heap := h', toks := tk' }) :
    wpAny (model prog w) (ktrTop dp un gd cn cs L a ccd cl outer) (call (.ref f) [.int code tm, .int col tc, .int wide tw]) Q E s :=
  C code tm col tc wide tw led hw0 hw1 _ _ _ _ _ _ _ _ _ _ _ _ _ _ _ _ _ B F X N T hk hd hu fun _ _ _ _ F' N' ⟨_, e, e2⟩ => by subst e; subst e2; exact ret _ _ _ F' N'
theorem ccol_use {ca : Addr} {cvs : List Value} {ics : List Int} {cc : Nat} {col : Int} {tc : Tok} {wide : Int} {tw : Tok} (C : CcolT prog w K p loose mean mg mb f) (B : Below A₀ base outer h₀) (F : Fr h₀ L s.heap m) (X : K.In h₀) (N : News h₀ L s.heap led) (T : Top p loose mean mg mb h₀) (hk : cs.kind = .function)
    (m0 : (ca, listOf cvs.toArray cc) ∈ led) (hi : IntsAre cvs ics) (hw0 : 1 ≤ wide) (hw1 : wide ≤ 9) (hn : ics.length ≤ 30) (hd : dp + 2 < recursionLimit) (hu : un + 8 * 2 < cLine)
    (ret : ∀ t h' tk', Fr h₀ L h' m → News h₀ L h' led → Q (.int (ccolZ wide col ics) t) { s with heap := h', toks := tk' }) :
    wpAny (model prog w) (ktrTop dp un gd cn cs L a ccd cl outer) (call (.ref f) [.ref ca, .int col tc, .int wide tw]) Q E s :=
  C ca cvs ics cc col tc wide tw led hw0 hw1 hi hn _ _ _ _ _ _ _ _ _ _ _ _ _ _ _ _ _ B F X (news_in1 N m0) T hk hd hu fun _ _ _ _ F' N' ⟨_, e, e2⟩ => by
    subst e; subst e2
    exact ret _ _ _ F' (fun q hq => N' q (.tail _ hq))
theorem raw_use {code : Int} {tm : Tok} (C : RawT prog w K p loose mean mg mb f) (B : Below A₀ base outer h₀) (F : Fr h₀ L s.heap m) (X : K.In h₀) (N : News h₀ L s.heap led) (T : Top p loose mean mg mb h₀) (hk : cs.kind = .function)
    (hd : dp + 1 < recursionLimit) (hu : un + 8 * 1 < cLine)
    (ret : ∀ h' tk', Fr h₀ L h' m → News h₀ L h' led → Q (.bool (rawZ code)) { s with heap := h', toks := tk' }) :
    wpAny (model prog w) (ktrTop dp un gd cn cs L a ccd cl outer) (call (.ref f) [.int code tm]) Q E s :=
  C code tm led _ _ _ _ _ _ _ _ _ _ _ _ _ _ _ _ _ B F X N T hk hd hu fun _ _ _ _ F' N' ⟨e, e2⟩ => by subst e; subst e2; exact ret _ _ F' N'
theorem ctl_use {code : Int} {tm : Tok} (C : CtlT prog w K p loose mean mg mb f) (B : Below A₀ base outer h₀) (F : Fr h₀ L s.heap m) (X : K.In h₀) (N : News h₀ L s.heap led) (T : Top p loose mean mg mb h₀) (hk : cs.kind = .function)
    (hd : dp + 1 < recursionLimit) (hu : un + 8 * 1 < cLine)
    (ret : ∀ h' tk', Fr h₀ L h' m → News h₀ L h' led → Q (.bool (ctlZ code)) { s with heap := h', toks := tk' }) :
    wpAny (model prog w) (ktrTop dp un gd cn cs L a ccd cl outer) (call (.ref f) [.int code tm]) Q E s :=
  C code tm led _ _ _ _ _ _ _ _ _ _ _ _ _ _ _ _ _ B F X N T hk hd hu fun _ _ _ _ F' N' ⟨e, e2⟩ => by subst e; subst e2; exact ret _ _ F' N'
theorem due_use {code : Int} {tm : Tok} {col : Int} {tc : Tok} {wide : Int} {tw : Tok} {car : Bool} (C : DueT prog w K p loose mean mg mb f) (B : Below A₀ base outer h₀) (F : Fr h₀ L s.heap m) (X : K.In h₀) (N : News h₀ L s.heap led) (T : Top p loose mean mg mb h₀) (hk : cs.kind = .function)
    (h0 : 0 ≤ code) (h1 : code ≤ 1000) (hw0 : 1 ≤ wide) (hw1 : wide ≤ 9) (hd : dp + 1 < recursionLimit) (hu : un + 8 * 1 < cLine)
    (ret : ∀ t h' tk', Fr h₀ L h' m → News h₀ L h' led → Q (.str (dueZ code col wide car) t) { s with heap := h', toks := tk' }) :
    wpAny (model prog w) (ktrTop dp un gd cn cs L a ccd cl outer) (call (.ref f) [.int code tm, .int col tc, .int wide tw, .bool car]) Q E s :=
  C code tm col tc wide tw car led h0 h1 hw0 hw1 _ _ _ _ _ _ _ _ _ _ _ _ _ _ _ _ _ B F X N T hk hd hu fun _ _ _ _ F' N' ⟨_, e, e2⟩ => by subst e; subst e2; exact ret _ _ _ F' N'
end
end
section
open PySem PySem.W PyProof.Rows
def codesZ (x : Str) : List Int := x.cps.toList.map fun (n : Nat) => (n : Int)
theorem oct_fig : ∀ n : Nat, n < 160 → codesZ (octZ (n : Int)) = figZ (n : Int) := by decide +kernel
theorem mul_blank : ∀ n : Nat, n < 10 → codesZ (Txt.mul (Str.ofString " ") (n : Int)) = List.replicate n 32 := by decide +kernel
theorem caret_sign : ∀ n : Nat, n < 32 → codesZ (Str.ofString "^" ++ { cps := #[((n : Int) + 64).toNat] }) = [94, (n : Int) + 64] := by decide +kernel
theorem caret_del : codesZ (Str.ofString "^?") = [94, 63] := by decide +kernel
theorem codes_len (x : Str) : (codesZ x).length = x.length := by simp [codesZ, Str.length]
theorem nat_of {c : Int} (h : 0 ≤ c) : ((c.toNat : Nat) : Int) = c := Int.toNat_of_nonneg h
theorem due_codes {c col wide : Int} {car : Bool} (hc : CodeOk c) (h0 : 1 ≤ wide) (h1 : wide ≤ 9) : codesZ (dueZ c col wide car) = shownZ c col wide car := by
  obtain ⟨c0, c1, c2⟩ := hc
  have hf := fmod_rng col h0
  have hn := nat_of c0
  unfold dueZ shownZ
  rw [if_neg c2]
  by_cases h9 : c = 9
  · rw [if_pos h9, if_pos h9]
    have := mul_blank (wide - col.fmod wide).toNat (by omega)
    rw [nat_of (by omega)] at this
    exact this
  · rw [if_neg h9, if_neg h9]
    by_cases hr : (128 ≤ c ∧ c < 160) ∨ (car = false ∧ (c < 32 ∨ c = 127))
    · have hr' : rawZ c = true ∨ (ctlZ c = true ∧ car = false) := by
        rcases hr with h | ⟨h, g⟩
        · exact .inl (by simp only [rawZ, decide_eq_true_eq]; exact h)
        · exact .inr ⟨by simp only [ctlZ, decide_eq_true_eq]; omega, h⟩
      rw [if_pos hr, if_pos hr', ← hn]
      exact oct_fig c.toNat (by omega)
    · have hr' : ¬ (rawZ c = true ∨ (ctlZ c = true ∧ car = false)) := by
        simp only [rawZ, ctlZ, decide_eq_true_eq]
        rintro (h | ⟨h, g⟩)
        · exact hr (.inl h)
        · exact hr (.inr ⟨g, by omega⟩)
      rw [if_neg hr, if_neg hr']
      by_cases h32 : c < 32
      · have hq : ctlZ c = true := by simp only [ctlZ, decide_eq_true_eq]; omega
        rw [if_pos h32, if_pos hq, if_neg (by omega)]
        have := caret_sign c.toNat (by omega)
        rw [hn] at this
        exact this
      · rw [if_neg h32]
        by_cases h127 : c = 127
        · have hq : ctlZ c = true := by simp only [ctlZ, decide_eq_true_eq]; omega
          rw [if_pos h127, if_pos hq, if_pos h127]
          exact caret_del
        · have hq : ¬ ctlZ c = true := by simp only [ctlZ, decide_eq_true_eq]; omega
          rw [if_neg h127, if_neg hq]
          show [((c.toNat : Nat) : Int)] = [c]
          rw [hn]
theorem due_len {c col wide : Int} {car : Bool} (hc : CodeOk c) (h0 : 1 ≤ wide) (h1 : wide ≤ 9) : (dueZ c col wide car).length = (shownZ c col wide car).length := by
  rw [← codes_len, due_codes hc h0 h1]
theorem due_le {c col wide : Int} {car : Bool} (hc : CodeOk c) (h0 : 1 ≤ wide) (h1 : wide ≤ 9) : (dueZ c col wide car).length ≤ 9 := by
  rw [due_len hc h0 h1]
  exact shown_len h0 h1
/-- with carets, width_at tells the same width -/
theorem wat_shown {c col wide : Int} (hc : CodeOk c) (h0 : 1 ≤ wide) (h1 : wide ≤ 9) : watZ c col wide = ((shownZ c col wide true).length : Int) := by
  obtain ⟨c0, c1, c2⟩ := hc
  have hf := fmod_rng col h0
  unfold watZ shownZ
  rw [if_neg c2]
  by_cases h9 : c = 9
  · rw [if_pos h9, if_pos h9, List.length_replicate, nat_of (by omega)]
  · rw [if_neg h9, if_neg h9]
    by_cases h2 : c < 32 ∨ c = 127
    · have hr' : ¬ (rawZ c = true ∨ (ctlZ c = true ∧ true = false)) := by
        simp only [rawZ, decide_eq_true_eq, Bool.true_eq_false, and_false, or_false]
        omega
      have hq : ctlZ c = true := by simp only [ctlZ, decide_eq_true_eq]; omega
      rw [if_pos h2, if_neg hr', if_pos hq]
      rfl
    · rw [if_neg h2]
      by_cases hr : 127 < c ∧ c < 160
      · have hr' : rawZ c = true := by simp only [rawZ, decide_eq_true_eq]; omega
        rw [if_pos hr, if_pos (.inl hr')]
        rfl
      · have hr' : ¬ (rawZ c = true ∨ (ctlZ c = true ∧ true = false)) := by
          simp only [rawZ, decide_eq_true_eq, Bool.true_eq_false, and_false, or_false]
          omega
        have hq : ¬ ctlZ c = true := by simp only [ctlZ, decide_eq_true_eq]; omega
        rw [if_neg hr, if_neg hr', if_neg hq]
        rfl
theorem ccol_cols {wide : Int} (h0 : 1 ≤ wide) (h1 : wide ≤ 9) (cs : List Int) (hc : ∀ c ∈ cs, CodeOk c) : ∀ col : Int, ccolZ wide col cs = cs.foldl (fun col c => col + ((shownZ c col wide true).length : Int)) col := by
  induction cs with
  | nil => intro col; rfl
  | cons c r ih =>
    intro col
    have hk := hc c (.head _)
    unfold ccolZ at ih ⊢
    rw [List.foldl_cons, List.foldl_cons, if_neg hk.2.2, wat_shown hk h0 h1]
    exact ih (fun d hd => hc d (.tail _ hd)) _
theorem ccol_eq {wide : Int} (h0 : 1 ≤ wide) (h1 : wide ≤ 9) {cs : List Int} (hc : ∀ c ∈ cs, CodeOk c) : ccolZ wide 0 cs = colsZ wide true cs := ccol_cols h0 h1 cs hc 0
theorem menu_ok {v : Int} (h : v ∈ [9, 97, 0, 27, 31, 127, 128, 159, 160, 255, 955, 32, 126]) : CodeOk v := by
  simp only [List.mem_cons, List.not_mem_nil, or_false] at h
  unfold CodeOk
  omega
theorem raw_ok {v : Int} : CodeOk (128 + v.fmod 32) := by
  have := fmod_rng v (m := 32) (by decide)
  unfold CodeOk
  omega
theorem fig_back {v : Int} (h0 : 0 ≤ v) (h1 : v < 160) : (48 + v.fdiv 64 - 48) * 64 + (48 + (v.fdiv 8).fmod 8 - 48) * 8 + (48 + v.fmod 8) - 48 = v := by
  rw [Int.fdiv_eq_ediv_of_nonneg _ (by decide), Int.fdiv_eq_ediv_of_nonneg _ (by decide), Int.fmod_eq_emod_of_nonneg _ (by decide), Int.fmod_eq_emod_of_nonneg _ (by decide)]
  omega
end
section
open PySem PySem.W PyProof.Rows PySem.Spec PySem.Calls
abbrev LedT' := List (Addr × Obj)
section
variable {prog : Program} {w : World} {A : Around} {E : Value → Shared → Prop} {s : Shared} {h₀ : Heap} {L : Addr} {m : Str → Option Value} {env : Env}
/-- the rest of a comprehension over the signs of a text, the element's int told by the sign -/
theorem rest_signs {elt : Expr} {x : Str} {scope : Scope} {cl : List (Str × Addr)} {Fin : List Value → List (Addr × Obj) → Prop} {news : List (Addr × Obj)} {y : Str} (g : Nat → Int)
    (turn : ∀ (c : Nat) t I oI C oC D m₂ ys h tk (E' : Value → Shared → Prop), LCg.NsObj oC m₂ → m₂ x = some (.str ⟨#[c]⟩ t) → Fr h₀ L h m → News h₀ L h ((I, oI) :: (C, oC) :: (D, LCg.lst ys) :: news) → LCg.Off3 I C D news → ((@Ne Nat I C) ∧ (@Ne Nat I D) ∧ (@Ne Nat C D)) →
      wpAny (model prog w) A (eval elt (compEnvC scope cl C env)) (LCg.CompEnd h₀ L m { s with heap := h, toks := tk } I oI C oC D (LCg.lst ys) (fun _ => True) (fun v news' => KCfEl news (g c) v news')) E' { s with heap := h, toks := tk })
    (fin : ∀ ys, IntsAre ys (y.cps.toList.map g) → Fin ys news) : LCg.CompRest prog w A h₀ L m env elt x scope cl s (fun _ => True) (SignAt y) Fin y.cps.size 0 [] news := by
  have key : ∀ (j i : Nat) (ys : List Value), i + j = y.cps.size → IntsAre ys ((y.cps.toList.take i).map g) → LCg.CompRest prog w A h₀ L m env elt x scope cl s (fun _ => True) (SignAt y) Fin j i ys news := by
    intro j
    induction j with
    | zero =>
      intro i ys hi hy
      have e : i = y.cps.toList.length := by simpa using hi
      subst e
      rw [List.take_length] at hy
      exact LCg.CompRest.zero (fin ys hy)
    | succ j ih =>
      intro i ys hi hy
      refine LCg.CompRest.succ ?_
      rintro v I oI C oC D m₂ h tk E' ⟨c, t, hk, rfl⟩ hC hx F N off ne
      refine wpAny_mono (turn c t I oI C oC D m₂ ys h tk E' hC hx F N off ne) (fun v s₂ hq => ?_) fun _ _ e => e
      obtain ⟨h', tk', nw, e, F', N', off', hS, hn, t', hy'⟩ := hq
      rw [hn] at N' off'
      refine ⟨h', tk', news, e, F', N', off', hS, ?_⟩
      rw [hy']
      refine ih (i + 1) _ (by omega) ?_
      have hk' : y.cps.toList[i]? = some c := by simpa using hk
      rw [List.take_add_one, hk']
      simpa using IntsAre.append hy (.cons (g c) t' .nil)
  exact key y.cps.size 0 [] (by omega) (by simp only [List.take_zero, List.map_nil]; exact .nil)

/-- [elt for x in iter], the iterable a text -/
theorem comp_signs {elt iter : Expr} {x : Str} {px : Pos} {scope : Scope} {cl : List (Str × Addr)} {pos : Pos} {Q : Value → Shared → Prop} (_ : Fr h₀ L s.heap m)
    (hclos : closureFor scope env = pure cl) (hcell : ∀ y ∈ scope.names, y.2 ≠ .cell) (hkind : scope.kind = .function)
    (hnames : ∀ y ∈ scope.names, y.2 = .local → scope.names.lookup y.1 = some .local) (hx : scope.names.lookup x = some .local)
    (h : wpAny (model prog w) A (eval iter env) (fun xv s₁ => ∃ y t news, xv = .str y t ∧ A.handled = none ∧ Fr h₀ L s₁.heap m ∧ News h₀ L s₁.heap news ∧ y.length ≤ sizeLine ∧
      ∀ s₂ : Shared, (∃ h, s₂ = { s₁ with heap := h }) → LCg.CompRest prog w A h₀ L m env elt x scope cl s₂ (fun _ => True) (SignAt y) (LCg.FinE h₀ L m s₂ Q) y.cps.size 0 [] news) E s)
    (hs : ∀ x, foldedSetIterable iter env x = pure x := by intro _; rfl) :
    wpAny (model prog w) A (eval (.ListComp elt [⟨.Name x px, iter, [], 0⟩] scope pos) env) Q E s := by
  rw [eval_ListComp]
  refine wpAny_comprehension_free (use := none) rfl hs hclos hkind hnames (wpAny_mono h (fun xv s₁ h₁ => ?_) fun _ _ e => e)
  obtain ⟨y, t, news, rfl, hh, F, N, hsz, R⟩ := h₁
  have fin : ∀ (s₂ : Shared) D C h tk m' ys news', Fr h₀ L h m → News h₀ L h ((D, LCg.lst ys) :: news') → LCg.Off1 D news' → h.Ns C m' → h₀.get? C = none → h₀.get? D = none → C ≠ L → D ≠ L → C ≠ D → (∀ p ∈ news', p.1 ≠ C) → LCg.FinE h₀ L m s₂ Q ys news' →
      ∃ m', h.Ns C m' ∧ ∀ h'', Heap.SameBut C h h'' → Q (.ref D) { s₂ with heap := h'', toks := tk } := by
    intro s₂ D C h tk m' ys news' F' N' o1 hn hC₀ hD₀ hCL hDL hCD offC fin
    refine ⟨m', hn, fun h'' hs'' => fin D h'' tk (F'.change hs'' hCL hC₀) (fun p hp => ?_) o1⟩
    refine ⟨hs''.extBut _ _ ?_ (N' p hp).1, (N' p hp).2⟩
    rcases List.mem_cons.mp hp with rfl | hp
    · exact Ne.symm hCD
    · exact offC p hp
  have below : ∀ (o : Obj) (b : Addr), b ∈ [s₁.heap.objs.size] → b < (s₁.heap.push o).objs.size := fun o b hb => by
    rw [Heap.size_push, List.mem_singleton.mp hb]
    exact Nat.lt_succ_self _
  have st_at : ∀ (ty : String) (i : Nat) (h h' : Heap) (o : Obj) (nw : List (Addr × Obj)), h.IsStrIter s₁.heap.objs.size ty y t i → h.get? s₁.heap.objs.size = some o → h'.get? s₁.heap.objs.size = some o →
      (∀ b o, h₀.get? b = some o → h'.get? b = some o) → News h₀ L h' nw → True → h'.IsStrIter s₁.heap.objs.size ty y t i := fun ty i h h' o nw st e e' _ _ _ => by
    obtain ⟨o', q, r⟩ := st
    rw [e] at q; cases q
    exact ⟨o, e', r⟩
  cases ha : y.cps.all (· < 128)
  · refine wpAny_pyIter_wide ha ?_
    exact LCg.block_U (Walks.strWide hh s₁.heap.objs.size y t) hsz (fun i h st => by obtain ⟨o, e, _⟩ := st; exact ⟨o, e⟩) (st_at _) hcell hkind hx ⟨_, Heap.get?_push_size _ rfl, rfl, rfl⟩ (below _)
      (F.keeps fun _ _ e => Heap.get?_push_of_some _ e) (N.grown fun _ _ e => Heap.get?_push_of_some _ e) (Nat.ne_of_lt F.ns.lt) (next_is_new F) (fun p hp => Nat.ne_of_lt (Heap.lt_size (N p hp).1)) trivial (R _ ⟨_, rfl⟩)
      (fun D C h tk m' ys news' a b c d e f g i j k l => fin _ D C h tk m' ys news' a b c d e f g i j k l)
  · refine wpAny_pyIter_ascii ha ?_
    exact LCg.block_U (Walks.strAscii hh s₁.heap.objs.size y t) hsz (fun i h st => by obtain ⟨o, e, _⟩ := st; exact ⟨o, e⟩) (st_at _) hcell hkind hx ⟨_, Heap.get?_push_size _ rfl, rfl, rfl⟩ (below _)
      (F.keeps fun _ _ e => Heap.get?_push_of_some _ e) (N.grown fun _ _ e => Heap.get?_push_of_some _ e) (Nat.ne_of_lt F.ns.lt) (next_is_new F) (fun p hp => Nat.ne_of_lt (Heap.lt_size (N p hp).1)) trivial (R _ ⟨_, rfl⟩)
      (fun D C h tk m' ys news' a b c d e f g i j k l => fin _ D C h tk m' ys news' a b c d e f g i j k l)
end
end
section
open PySem PySem.W PyProof.Rows PySem.Spec PySem.Calls
section
variable {prog : Program} {w : World} {A : Around} {E : Value → Shared → Prop} {s : Shared} {h₀ : Heap} {L : Addr} {m : Str → Option Value} {env : Env}
/-- [ord(sign) for sign in <what due_of tells>] -/
theorem due_src {elt : Expr} {x : Str} {scope : Scope} {cl : List (Str × Addr)} {Q : Value → Shared → Prop} {news : LedT} {c col wide : Int} {car : Bool} {t : Tok} {s₁ : Shared}
    (hc : CodeOk c) (h0 : 1 ≤ wide) (h1 : wide ≤ 9) (hh : A.handled = none) (F : Fr h₀ L s₁.heap m) (N : News h₀ L s₁.heap news)
    (turn : ∀ (k : Nat) t I oI C oC D m₂ ys h tk (E' : Value → Shared → Prop), LCg.NsObj oC m₂ → m₂ x = some (.str ⟨#[k]⟩ t) → Fr h₀ L h m → News h₀ L h ((I, oI) :: (C, oC) :: (D, LCg.lst ys) :: news) → LCg.Off3 I C D news → ((@Ne Nat I C) ∧ (@Ne Nat I D) ∧ (@Ne Nat C D)) →
      wpAny (model prog w) A (eval elt (compEnvC scope cl C env)) (LCg.CompEnd h₀ L m { s₁ with heap := h, toks := tk } I oI C oC D (LCg.lst ys) (fun _ => True) (fun v news' => KCfEl news (k : Int) v news')) E' { s₁ with heap := h, toks := tk })
    (fin : ∀ ys g, IntsAre ys (shownZ c col wide car) → LCg.FinE h₀ L m { s₁ with heap := g } Q ys news) :
    ∃ y t' news', Value.str (dueZ c col wide car) t = .str y t' ∧ A.handled = none ∧ Fr h₀ L s₁.heap m ∧ News h₀ L s₁.heap news' ∧ y.length ≤ sizeLine ∧
      ∀ s₂ : Shared, (∃ h, s₂ = { s₁ with heap := h }) → LCg.CompRest prog w A h₀ L m env elt x scope cl s₂ (fun _ => True) (SignAt y) (LCg.FinE h₀ L m s₂ Q) y.cps.size 0 [] news' := by
  refine ⟨_, _, news, rfl, hh, F, N, ?_, ?_⟩
  · have := due_le (col := col) (car := car) hc h0 h1
    rw [sizeLine_eq]
    omega
  · rintro _ ⟨g, rfl⟩
    exact rest_signs (fun n => (n : Int)) (fun k t I oI C oC D m₂ ys h tk E' a b c d e f => turn k t I oI C oC D m₂ ys h tk E' a b c d e f) fun ys hy => fin ys g (by rw [← due_codes hc h0 h1]; exact hy)
theorem end_sign {I C D : Addr} {oI oC : Obj} {ys : List Value} {news : LedT} {r : Int} {t : Tok} {h' : Heap} {tk : Nat} {s₁ : Shared} (F : Fr h₀ L h' m) (N : News h₀ L h' ((I, oI) :: (C, oC) :: (D, LCg.lst ys) :: news)) (off : LCg.Off3 I C D news) :
    LCg.CompEnd h₀ L m s₁ I oI C oC D (LCg.lst ys) (fun _ => True) (fun v news' => KCfEl news r v news') (.int r t) { s₁ with heap := h', toks := tk } :=
  LCg.CompEnd.intro F N news (fun _ h => h) off trivial ⟨rfl, _, rfl⟩
theorem ne_same {a b : Addr} {vs us : List Value} {ns ms : List Int} {Q : Value → Shared → Prop} (hl : s.heap.IsList a vs.toArray) (hi : IntsAre vs ns) (hl' : s.heap.IsList b us.toArray) (hi' : IntsAre us ms) (hu : A.units + 64 < cLine) (e : ns = ms)
    (h : Q (.bool false) s) : wpAny (model prog w) A (compareOp .NotEq (.ref a) (.ref b)) Q E s :=
  ne_intsK hl hi hl' hi' hu (by rw [decide_eq_true e]; exact h)
theorem eq_same {a b : Addr} {vs us : List Value} {ns ms : List Int} {Q : Value → Shared → Prop} (hl : s.heap.IsList a vs.toArray) (hi : IntsAre vs ns) (hl' : s.heap.IsList b us.toArray) (hi' : IntsAre us ms) (hu : A.units + 64 < cLine) (e : ns = ms)
    (h : Q (.bool true) s) : wpAny (model prog w) A (compareOp .Eq (.ref a) (.ref b)) Q E s :=
  eq_intsK hl hi hl' hi' hu (by rw [decide_eq_true e]; exact h)
theorem ne_int_same {a b : Int} {t u : Tok} {Q : Value → Shared → Prop} (e : a = b) (h : Q (.bool false) s) : wpAny (model prog w) A (compareOp .NotEq (.int a t) (.int b u)) Q E s :=
  PyProof.Rows.ne_int (by subst e; simpa using h)
end
theorem menu_ints {t0 t1 t2 t3 t4 t5 t6 t7 t8 t9 t10 t11 t12 : Tok} : IntsAre [.int 9 t0, .int 97 t1, .int 0 t2, .int 27 t3, .int 31 t4, .int 127 t5, .int 128 t6, .int 159 t7, .int 160 t8, .int 255 t9, .int 955 t10, .int 32 t11, .int 126 t12] [9, 97, 0, 27, 31, 127, 128, 159, 160, 255, 955, 32, 126] := .cons _ _ (.cons _ _ (.cons _ _ (.cons _ _ (.cons _ _ (.cons _ _ (.cons _ _ (.cons _ _ (.cons _ _ (.cons _ _ (.cons _ _ (.cons _ _ (.cons _ _ (.nil)))))))))))))
section
variable {c col wide : Int} {car : Bool} {C : List Int} {T : Str}
theorem width_due (hc : CodeOk c) (h0 : 1 ≤ wide) (h1 : wide ≤ 9) : ((shownZ c col wide car).length : Int) = ((dueZ c col wide car).length : Int) := by rw [due_len hc h0 h1]
theorem wat_due (hc : CodeOk c) (h0 : 1 ≤ wide) (h1 : wide ≤ 9) (hcar : car = true) : watZ c col wide = ((dueZ c col wide car).length : Int) := by rw [due_len hc h0 h1, hcar, wat_shown hc h0 h1]
theorem len_fit {a : Int} {n : Nat} {D : List Int} (h : T.length ≤ 9 * D.length) (h2 : D.length = (rangeKs a n).length) (hn : n ≤ 100) : (T.length : Int) < 9223372036854775808 := by
  rw [rangeKs_length] at h2
  omega
theorem cols_text (hc : CodeOk c) (h0 : 1 ≤ wide) (h1 : wide ≤ 9) (h : (T.length : Int) = colsZ wide car C) : colsZ wide car (C ++ [c]) = ((T ++ dueZ c (T.length : Int) wide car).length : Int) := by
  rw [colsZ_snoc, ← h, Str.length_append, due_len hc h0 h1]
  omega
theorem ccol_text (h0 : 1 ≤ wide) (h1 : wide ≤ 9) (hC : ∀ c ∈ C, CodeOk c) (h : (T.length : Int) = colsZ wide car C) (hcar : car = true) : ccolZ wide 0 C = (T.length : Int) := by
  rw [h, hcar, ccol_eq h0 h1 hC]
theorem raw_shown (v col wide : Int) (car : Bool) : shownZ (128 + v.fmod 32) col wide car = figZ (128 + v.fmod 32) := by
  have := fmod_rng v (m := 32) (by decide)
  unfold shownZ
  rw [if_neg (by omega), if_neg (by omega), if_pos (.inl (by simp only [rawZ, decide_eq_true_eq]; omega))]
theorem inner_step {pre D : List Int} {k : Int} (h0 : 1 ≤ wide) (h1 : wide ≤ 9) (hD : DeckOk D) (hc : CodeOk c) (l1 : C.length = pre.length) (l2 : ∀ c ∈ C, CodeOk c) (l3 : (T.length : Int) = colsZ wide car C) (l4 : T.length ≤ 9 * C.length) :
    InnerP wide car (pre ++ [k]) D (C ++ [c]) (T ++ dueZ c (T.length : Int) wide car) := by
  refine ⟨hD, by rw [List.length_append, List.length_append, l1]; rfl, fun d hd => ?_, (cols_text hc h0 h1 l3).symm, ?_⟩
  · rcases List.mem_append.mp hd with hd | hd
    · exact l2 d hd
    · rw [List.mem_singleton.mp hd]; exact hc
  · have := due_le (col := (T.length : Int)) (car := car) hc h0 h1
    rw [Str.length_append, List.length_append, List.length_cons, List.length_nil]
    omega
end
section
variable {prog : Program} {w : World} {K : Frag} {p : Program} {loose : List Str} {mean : ExcName → Option Value} {mg mb : Str → Option Value} {f : Addr}
  {dp un : Nat} {gd : Option (List Code)} {cn : Str} {cs : Scope} {a : Addr} {ccd : Value} {cl : List (Str × Addr)} {outer : List Env} {A₀ : Around} {base h₀ : Heap} {L : Addr} {m : Str → Option Value} {s : Shared} {Q E : Value → Shared → Prop} {led : LedT}
theorem due_useK {code : Int} {tm : Tok} {col : Int} {tc : Tok} {wide : Int} {tw : Tok} {car : Bool} (C : DueT prog w K p loose mean mg mb f) (B : Below A₀ base outer h₀) (F : Fr h₀ L s.heap m) (X : K.In h₀) (N : News h₀ L s.heap led) (T : Top p loose mean mg mb h₀) (hk : cs.kind = .function)
    (hc : CodeOk code) (hw0 : 1 ≤ wide) (hw1 : wide ≤ 9) (hd : dp + 1 < recursionLimit) (hu : un + 8 * 1 < cLine)
    (ret : ∀ t h' tk', CodeOk code → (dueZ code col wide car).length ≤ 9 → Fr h₀ L h' m → News h₀ L h' led → Q (.str (dueZ code col wide car) t) { s with heap := h', toks := tk' }) :
    wpAny (model prog w) (ktrTop dp un gd cn cs L a ccd cl outer) (call (.ref f) [.int code tm, .int col tc, .int wide tw, .bool car]) Q E s :=
  due_use C B F X N T hk hc.1 hc.2.1 hw0 hw1 hd hu fun t h' tk' F' N' => ret t h' tk' hc (due_le hc hw0 hw1) F' N'
/-- the four figures, each told -/
theorem fig_use4 {code : Int} {tm : Tok} (C : FigT prog w K p loose mean mg mb f) (B : Below A₀ base outer h₀) (F : Fr h₀ L s.heap m) (X : K.In h₀) (N : News h₀ L s.heap led) (T : Top p loose mean mg mb h₀) (hk : cs.kind = .function)
    (hd : dp + 1 < recursionLimit) (hu : un + 8 * 1 < cLine)
    (ret : ∀ x t0 t1 t2 t3 c' h' tk', Fr h₀ L h' m → News h₀ L h' ((x, listOf #[.int 92 t0, .int (48 + code.fdiv 64) t1, .int (48 + (code.fdiv 8).fmod 8) t2, .int (48 + code.fmod 8) t3] c') :: led) → (∀ p ∈ led, p.1 < x) →
      IntsAre [.int 92 t0, .int (48 + code.fdiv 64) t1, .int (48 + (code.fdiv 8).fmod 8) t2, .int (48 + code.fmod 8) t3] (figZ code) → Q (.ref x) { s with heap := h', toks := tk' }) :
    wpAny (model prog w) (ktrTop dp un gd cn cs L a ccd cl outer) (call (.ref f) [.int code tm]) Q E s :=
  fig_use C B F X N T hk hd hu fun x vs' c' h' tk' F' N' l1 hi => by
    cases hi with
    | cons k t0 hi => cases hi with
      | cons k t1 hi => cases hi with
        | cons k t2 hi => cases hi with
          | cons k t3 hi => cases hi with
            | nil => exact ret x t0 t1 t2 t3 c' h' tk' F' N' l1 (.cons _ _ (.cons _ _ (.cons _ _ (.cons _ _ .nil))))
end
end
section
open PySem PySem.W PyProof.Rows
open_top hd for PySem.Challenge.rw_on0062_01
end
section
open PySem PySem.W PyProof.Rows
local macro_rules | `(tactic| walk_at "call builtin:list.pop") => `(tactic| (k_here; (with_reducible show wpAny _ _ (call (Value.builtin _) [Value.ref _, Value.int 0 _]) _ _ _); k_dflt (refine' pop0 ?F ?N ?U ?i ?l ?z ?_; (case F => k_asm); (case N => k_asm); (case U => k_upd); (case i => (kpa_letter; with_reducible assumption)); (case l => kpa_ne); (case z => kpa_room)); (intro h' t' F' N' hI'; (try dsimp only [List.nil_append, List.cons_append] at N'))))
theorem draw_c {prog : Program} {w : World} {loose : List Str} {mean : ExcName → Option Value} {mg mb : Str → Option Value} : DrawT prog w (Mine.hd.heap_39 w.params) Mine.hd.view_39 loose mean mg mb 99 := by
  intro d vs ns c news many tm hi hk0 h1 h2 ho
  obtain ⟨hk1, hk2, hk3⟩ := hk0
  unfold Claim
  intro dp un gd cn cs a ccd cl outer A₀ base h₀ L m s Q E B F X N T hk hd hu hret
  w_top off
  refine wpAny_call ?_
  k_dflt cell_enter
  k_with_none
  k_with "exec While BoolOp cons nil" => k_while (fun _ D => 1 ≤ D.length ∧ D.length ≤ 30 ∧ ∀ x ∈ D, CellOk x) (fun _ D => D.length) "_law_deck"
  k_with "state" => first | exact ⟨by assumption, by assumption, by assumption⟩ | exact tail_ok (.mk (by assumption) (by assumption) (by assumption)) (by assumption)
  k_with "measure" => (simp only [List.length_tail]; omega)
  w_strict (k_steps
            all_goals (
              refine hret _ _ _ _ (by k_asm) (by k_asm) ⟨_, _, _, _, _, rfl, rfl, (fmod_rng _ h1).1, (fmod_rng _ h1).2, by assumption, ?_⟩
              exact set_ok (.mk (by assumption) (by assumption) (by assumption)) (by first | exact fdiv_ok (head_ok (.mk (by assumption) (by assumption) (by assumption))) h1 | exact lcg_ok _)))
end
section
open PySem PySem.W PyProof.Rows
theorem mod_any {prog : Program} {w : World} {A : Around} {E : Value → Shared → Prop} {s : Shared} {a b : Int} {t u : Tok} {Q : Value → Shared → Prop} (hb : 1 ≤ b) (h : ∀ v, 0 ≤ v → v < b → Q (.int v s.toks) { s with toks := s.toks + 1 }) :
    wpAny (model prog w) A (binaryOp .Mod (.int a t) (.int b u)) Q E s :=
  mod_int' (by omega) (h _ (fmod_rng a hb).1 (fmod_rng a hb).2)
def absZ (k : Int) : Int := if k < 0 then -k else k
def deckG (l : List Int) (k : Int) : List Int := if 10 ^ Int.toNat 9 ≤ (if k < 0 then -k else k) then l ++ [(if k < 0 then -k else k).fmod (10 ^ Int.toNat 60)] else l
theorem deckG_grows : KPfGrows deckG := by
  intro l k
  unfold deckG
  generalize (if k < 0 then -k else k) = a
  split
  · simp
  · omega
theorem deckG_ok (ks : List Int) : ∀ l : List Int, (∀ x ∈ l, CellOk x) → ∀ x ∈ ks.foldl deckG l, CellOk x := by
  induction ks with
  | nil => intro l h; exact h
  | cons k r ih =>
    intro l h
    rw [List.foldl_cons]
    refine ih _ ?_
    unfold deckG
    generalize (if k < 0 then -k else k) = a
    split
    · intro x hx
      rcases List.mem_append.mp hx with hx | hx
      · exact h x hx
      · rw [List.mem_singleton.mp hx]
        exact fmod_rng a (by decide)
    · exact h
theorem deck_ok (ks : List Int) (m : Int) (h0 : 0 ≤ m) (h1 : m < 2147483647) (hl : (ks.foldl deckG []).length ≤ 24) : DeckOk (ks.foldl deckG [] ++ [m]) := by
  refine ⟨by rw [List.length_append]; simp, by rw [List.length_append]; simp; omega, fun x hx => ?_⟩
  rcases List.mem_append.mp hx with hx | hx
  · exact deckG_ok ks [] (fun _ h => nomatch h) x hx
  · rw [List.mem_singleton.mp hx]
    exact ⟨h0, Int.lt_trans h1 (by decide)⟩
theorem deckG_len (ns : List Int) : ((ns.take 24).foldl deckG []).length ≤ 24 := by
  have h := kpf_len deckG_grows (ns.take 24) []
  have h2 := List.length_take_le 24 ns
  simp only [List.length_nil] at h
  omega
theorem deck_sz (ns : List Int) (x : Int) : ((ns.take 24).foldl deckG []).length + [x].length ≤ sizeLine := by
  have h := deckG_len ns
  rw [sizeLine_eq]
  simp only [List.length_cons, List.length_nil]
  omega
theorem news_one {h₀ h : Heap} {L : Addr} {p : Addr × Obj} {r : LedT} (N : News h₀ L h (p :: r)) : News h₀ L h [p] := fun q hq => N q (by rw [List.mem_singleton.mp hq]; exact .head _)
local macro_rules | `(tactic| walk_at "execs nil") => `(tactic| (k_here; dsimp only))
local macro_rules | `(tactic| walk_at "binaryOp Mod int int") => `(tactic| (k_here; (with_reducible show wpAny _ _ (binaryOp .Mod (.int _ _) (.int 2147483647 _)) _ _ _); (refine mod_any (by decide) ?_); intro v9 hv0 hv1; (try dsimp only)))
local macro_rules | `(tactic| walk_at "eval ListComp") => `(tactic| (k_here; lct_look; k_dflt (refine LCt.ListComp_T (F₀ := by k_asm) (by with_unfolding_all rfl) (by decide) (by rfl) (by decide) (by rfl) ?_)))
local macro_rules | `(tactic| walk_at "CompSrcT") => `(tactic| (k_here; k_dflt (refine LCt.CompSrcT.ledger (by rfl) (by k_asm) (by k_asm) (by k_mem) (by first | size_fits | exact Nat.le_of_ble_eq_true rfl) ?_; intro g'; (refine' kci_list deckG (by assumption) (fun k' t' I' oI' C' oC' D' m' ys' l' h' tk' E' hk' hI' hC' hx' F' N' off' ne' => ?_) ?_ deckG_grows); (all_goals (try (simp only [LCg.Off3, and_true] at off'))); (all_goals (try ((show KPfMark → _); intro hMark')))) ))
local macro_rules | `(tactic| walk_at "binaryOp Add ref ref") => `(tactic| (k_here; k_dflt (refine' kmk_add_ints ?F ?N ?a ?b ?i ?j ?_ ?z; (case F => k_asm); (case N => k_asm); (case a => kmk_list); (case b => kmk_list); (case i => assumption); (case j => l_ints); (case z => exact deck_sz _ _)); intro D' ws' h' F' N' l1 hI'; (try k_lt l1); (try k_sweep)))
theorem deck_of_c {prog : Program} {w : World} {loose : List Str} {mean : ExcName → Option Value} {mg mb : Str → Option Value} : DeckOfT prog w (Mine.hd.heap_39 w.params) Mine.hd.view_39 loose mean mg mb 104 := by
  intro l vs ns hi hl
  unfold ClaimL
  intro dp un gd cn cs a ccd cl outer A₀ base h₀ L m s Q E B F X N T hk hL hd hu hret
  w_top off
  refine wpAny_call ?_
  k_dflt cell_enter
  k_with_none
  k_with "pyIter ref" => k_state (fun pre mx => 0 ≤ mx ∧ mx < 2147483647) "_law_mixed"
  k_with "state" => first | exact ⟨by assumption, by assumption⟩ | exact ⟨by decide, by decide⟩
  w_strict (k_steps)
  all_goals (refine hret _ _ _ _ (by k_asm) (news_one (by assumption)) ⟨_, _, _, _, rfl, rfl, by assumption, deck_ok _ _ (by assumption) (by assumption) (deckG_len _)⟩)
end
section
open PySem PySem.W PyProof.Rows
theorem fig_c {prog : Program} {w : World} {loose : List Str} {mean : ExcName → Option Value} {mg mb : Str → Option Value} : FigT prog w (Mine.hd.heap_39 w.params) Mine.hd.view_39 loose mean mg mb 57 := by
  intro code tm news
  unfold Claim
  intro dp un gd cn cs a ccd cl outer A₀ base h₀ L m s Q E B F X N T hk hd hu hret
  w_top off
  refine wpAny_call ?_
  k_dflt cell_enter
  k_with_none
  w_strict (k_steps)
  all_goals (refine hret _ _ _ _ (by k_asm) (by k_asm) ⟨_, _, _, rfl, rfl, by assumption, ?_⟩; exact .cons _ _ (.cons _ _ (.cons _ _ (.cons _ _ .nil))))
theorem due_c {prog : Program} {w : World} {loose : List Str} {mean : ExcName → Option Value} {mg mb : Str → Option Value} : DueT prog w (Mine.hd.heap_39 w.params) Mine.hd.view_39 loose mean mg mb 123 := by
  intro code tm col tc wide tw car news h0 h1 hw0 hw1
  have hf0 := (fmod_rng col hw0).1
  have hf1 := (fmod_rng col hw0).2
  unfold Claim
  intro dp un gd cn cs a ccd cl outer A₀ base h₀ L m s Q E B F X N T hk hd hu hret
  w_top off
  refine wpAny_call ?_
  k_dflt cell_enter
  k_with_none
  w_strict (k_steps)
  all_goals (refine hret _ _ _ _ (by k_asm) (by k_asm) (ret_str ?_ rfl); unfold dueZ)
  all_goals (first | (repeat' split) <;> first | rfl | (exfalso; omega) | (exfalso; simp_all; done) | (exfalso; simp_all; omega))
end
section
open PySem PySem.W PyProof.Rows
local macro_rules | `(tactic| walk_at "call ref") => `(tactic| (k_here; (with_reducible show wpAny _ _ (call (Value.ref 57) _) _ _ _); k_dflt (refine' fig_use ?C ?B ?F ?X ?N ?T ?K ?d ?u ?_; (case C => assumption); (case B => k_asm); (case F => k_asm); (case X => k_asm); (case N => k_asm); (case T => k_asm); (case K => exact rfl); (case d => ktr_room); (case u => ktr_units)); intro x' vs' c' h' tk' F' N' l1 hi'; (try k_lt l1); (try k_fold)))
local macro_rules | `(tactic| walk_at "call ref") => `(tactic| (k_here; (with_reducible show wpAny _ _ (call (Value.ref 50) _) _ _ _); k_dflt (refine' raw_use ?C ?B ?F ?X ?N ?T ?K ?d ?u ?_; (case C => assumption); (case B => k_asm); (case F => k_asm); (case X => k_asm); (case N => k_asm); (case T => k_asm); (case K => exact rfl); (case d => ktr_room); (case u => ktr_units)); intro h' tk' F' N'; (try k_fold)))
local macro_rules | `(tactic| walk_at "call ref") => `(tactic| (k_here; (with_reducible show wpAny _ _ (call (Value.ref 43) _) _ _ _); k_dflt (refine' ctl_use ?C ?B ?F ?X ?N ?T ?K ?d ?u ?_; (case C => assumption); (case B => k_asm); (case F => k_asm); (case X => k_asm); (case N => k_asm); (case T => k_asm); (case K => exact rfl); (case d => ktr_room); (case u => ktr_units)); intro h' tk' F' N'; (try k_fold)))
theorem news_keep {h₀ h : Heap} {L : Addr} {p q : Addr × Obj} {r : LedT} (N : News h₀ L h (p :: q :: r)) : News h₀ L h (p :: r) := fun a ha => N a (by rcases List.mem_cons.mp ha with rfl | ha; exact .head _; exact .tail _ (.tail _ ha))
theorem all_lt {d x dx : Addr} {o o' : Obj} {r : LedT} (h : (x < d) ∧ (dx < d) ∧ AllLt d r) : ∀ p ∈ (x, o) :: (dx, o') :: r, p.1 < d := by
  intro p hp
  rcases List.mem_cons.mp hp with rfl | hp
  · exact h.1
  · rcases List.mem_cons.mp hp with rfl | hp
    · exact h.2.1
    · exact ktn_ltOf h.2.2 p hp
theorem raw_c {prog : Program} {w : World} {loose : List Str} {mean : ExcName → Option Value} {mg mb : Str → Option Value} : RawT prog w (Mine.hd.heap_39 w.params) Mine.hd.view_39 loose mean mg mb 50 := by
  intro code tm news
  unfold Claim
  intro dp un gd cn cs a ccd cl outer A₀ base h₀ L m s Q E B F X N T hk hd hu hret
  w_top off
  refine wpAny_call ?_
  k_dflt cell_enter
  k_with_none
  w_strict (k_steps)
  all_goals (refine hret _ _ _ _ (by k_asm) (by k_asm) (ret_bool ?_ rfl); unfold rawZ; first | (rw [Bool.eq_iff_iff]; (try simp only [beq_iff_eq, bne_iff_ne, decide_eq_true_eq, Bool.false_eq_true, true_iff, false_iff, iff_true, iff_false, ne_eq]); omega))
theorem ctl_c {prog : Program} {w : World} {loose : List Str} {mean : ExcName → Option Value} {mg mb : Str → Option Value} : CtlT prog w (Mine.hd.heap_39 w.params) Mine.hd.view_39 loose mean mg mb 43 := by
  intro code tm news
  unfold Claim
  intro dp un gd cn cs a ccd cl outer A₀ base h₀ L m s Q E B F X N T hk hd hu hret
  w_top off
  refine wpAny_call ?_
  k_dflt cell_enter
  k_with_none
  w_strict (k_steps)
  all_goals (refine hret _ _ _ _ (by k_asm) (by k_asm) (ret_bool ?_ rfl); unfold ctlZ; first | (rw [Bool.eq_iff_iff]; (try simp only [beq_iff_eq, bne_iff_ne, decide_eq_true_eq, Bool.false_eq_true, true_iff, false_iff, iff_true, iff_false, ne_eq]); omega))
theorem shown_c {prog : Program} {w : World} {loose : List Str} {mean : ExcName → Option Value} {mg mb : Str → Option Value} (cFig : FigT prog w (Mine.hd.heap_39 w.params) Mine.hd.view_39 loose mean mg mb 57) (cRaw : RawT prog w (Mine.hd.heap_39 w.params) Mine.hd.view_39 loose mean mg mb 50) (cCtl : CtlT prog w (Mine.hd.heap_39 w.params) Mine.hd.view_39 loose mean mg mb 43) : ShownT prog w (Mine.hd.heap_39 w.params) Mine.hd.view_39 loose mean mg mb 64 := by
  intro code tm col tc wide tw car x dx k1 k2 k3 k4 k5 t5 news hw0 hw1
  have hf0 := (fmod_rng col hw0).1
  have hf1 := (fmod_rng col hw0).2
  unfold Claim
  intro dp un gd cn cs a ccd cl outer A₀ base h₀ L m s Q E B F X N T hk hd hu hret
  w_top off
  refine wpAny_call ?_
  k_dflt cell_enter
  k_with_none
  w_strict (k_steps)
  all_goals (first
    | (refine hret _ _ _ _ (by k_asm) (by k_asm) ⟨_, _, _, rfl, rfl, all_lt (by assumption), ?_⟩)
    | (refine hret _ _ _ _ (by k_asm) (news_keep (by k_asm)) ⟨_, _, _, rfl, rfl, all_lt (And.right (by assumption)), ?_⟩))
  all_goals (first
    | exact sh10 (by assumption)
    | exact sh9 (by assumption) (by assumption) (by assumption)
    | exact shR (by assumption) (by assumption) (by assumption) (by assumption)
    | exact shC (by assumption) (by assumption) (by assumption) (by assumption) (by assumption)
    | exact shD (by assumption) (by assumption) (by assumption) (by assumption) (by assumption) (by assumption)
    | exact shE (by assumption) (by assumption) (by assumption) (by assumption) (by assumption) (by assumption)
    | exact shP (by assumption) (by assumption) (by assumption) (by assumption))
end
section
open PySem PySem.W PyProof.Rows
theorem shown_fit {c col wide : Int} {car : Bool} (h0 : 1 ≤ wide) (h1 : wide ≤ 9) : (((shownZ c col wide car).length : Nat) : Int) < 2 ^ 63 := by
  have := shown_len (c := c) (col := col) (car := car) h0 h1
  omega
local macro_rules | `(tactic| walk_at "call ref") => `(tactic| (k_here; (with_reducible show wpAny _ _ (call (Value.ref 64) _) _ _ _); k_dflt (refine' shown_use ?C ?B ?F ?X ?N ?T ?K ?m1 ?m2 ?w0 ?w1 ?d ?u ?_; (case C => assumption); (case B => k_asm); (case F => k_asm); (case X => k_asm); (case N => k_asm); (case T => k_asm); (case K => exact rfl); (case m1 => k_memK); (case m2 => k_memK); (case w0 => omega); (case w1 => omega); (case d => ktr_room); (case u => ktr_units)); intro y' vs' c' h' tk' F' N' l1 hi'; (try k_lt l1); (try k_fold)))
local macro_rules | `(tactic| walk_at "call ref") => `(tactic| (k_here; (with_reducible show wpAny _ _ (call (Value.ref 71) _) _ _ _); k_dflt (refine' width_use ?C ?B ?F ?X ?N ?T ?K ?m1 ?m2 ?w0 ?w1 ?d ?u ?_; (case C => assumption); (case B => k_asm); (case F => k_asm); (case X => k_asm); (case N => k_asm); (case T => k_asm); (case K => exact rfl); (case m1 => k_memK); (case m2 => k_memK); (case w0 => omega); (case w1 => omega); (case d => ktr_room); (case u => ktr_units)); intro t' h' tk' F' N'; (try k_fold)))
local macro_rules | `(tactic| walk_at "call ref") => `(tactic| (k_here; (with_reducible show wpAny _ _ (call (Value.ref 85) _) _ _ _); k_dflt (refine' wat_use ?C ?B ?F ?X ?N ?T ?K ?w0 ?w1 ?d ?u ?_; (case C => assumption); (case B => k_asm); (case F => k_asm); (case X => k_asm); (case N => k_asm); (case T => k_asm); (case K => exact rfl); (case w0 => omega); (case w1 => omega); (case d => ktr_room); (case u => ktr_units)); intro t' h' tk' F' N'; (try k_fold)))
local macro_rules | `(tactic| walk_at "call builtin:len") => `(tactic| (k_here; (with_reducible show wpAny _ _ (call (Value.builtin "len") [Value.ref _]) _ _ _); k_dflt (refine' kst_len ?k1 ?k2 ?k3 ?k4 ?_; (case k1 => k_asm); (case k2 => k_memK); (case k3 => exact IntsAre.length (by assumption)); (case k4 => exact (shown_fit (by assumption) (by assumption))))))
theorem news_tail {h₀ h : Heap} {L : Addr} {p : Addr × Obj} {r : LedT} (N : News h₀ L h (p :: r)) : News h₀ L h r := fun a ha => N a (.tail _ ha)
theorem width_c {prog : Program} {w : World} {loose : List Str} {mean : ExcName → Option Value} {mg mb : Str → Option Value} (cShown : ShownT prog w (Mine.hd.heap_39 w.params) Mine.hd.view_39 loose mean mg mb 64) : WidthT prog w (Mine.hd.heap_39 w.params) Mine.hd.view_39 loose mean mg mb 71 := by
  intro code tm col tc wide tw car x dx k1 k2 k3 k4 k5 t5 news hw0 hw1
  unfold Claim
  intro dp un gd cn cs a ccd cl outer A₀ base h₀ L m s Q E B F X N T hk hd hu hret
  w_top off
  refine wpAny_call ?_
  k_dflt cell_enter
  k_with_none
  w_strict (k_steps)
  all_goals (first | (refine hret _ _ _ _ (by k_asm) (news_tail (by k_asm)) ⟨_, rfl, rfl⟩))
theorem wat_c {prog : Program} {w : World} {loose : List Str} {mean : ExcName → Option Value} {mg mb : Str → Option Value} : WatT prog w (Mine.hd.heap_39 w.params) Mine.hd.view_39 loose mean mg mb 85 := by
  intro code tm col tc wide tw news hw0 hw1
  have hf0 := (fmod_rng col hw0).1
  have hf1 := (fmod_rng col hw0).2
  unfold Claim
  intro dp un gd cn cs a ccd cl outer A₀ base h₀ L m s Q E B F X N T hk hd hu hret
  w_top off
  refine wpAny_call ?_
  k_dflt cell_enter
  k_with_none
  w_strict (k_steps)
  all_goals (refine hret _ _ _ _ (by k_asm) (by k_asm) (ret_int ?_ rfl))
  all_goals (unfold watZ; (repeat' split) <;> first | rfl | (exfalso; omega))
theorem cols_c {prog : Program} {w : World} {loose : List Str} {mean : ExcName → Option Value} {mg mb : Str → Option Value} (cWidth : WidthT prog w (Mine.hd.heap_39 w.params) Mine.hd.view_39 loose mean mg mb 71) : ColsT prog w (Mine.hd.heap_39 w.params) Mine.hd.view_39 loose mean mg mb 78 := by
  intro ca cvs ics cc wide tw car x dx k1 k2 k3 k4 k5 t5 news hw0 hw1 hci hcl
  unfold Claim
  intro dp un gd cn cs a ccd cl outer A₀ base h₀ L m s Q E B F X N T hk hd hu hret
  w_top off
  refine wpAny_call ?_
  k_dflt cell_enter
  k_with_none
  k_with "pyIter ref" => k_state (fun pre col => col = colsZ wide car pre) "column"
  k_with "state" => first | rfl | (rw [colsZ_snoc]; (first | rfl | (subst_vars; rfl) | (simp_all; done)))
  w_strict (k_steps)
  all_goals (first | (refine hret _ _ _ _ (by k_asm) (by k_asm) (ret_int (by assumption) rfl)))
theorem ccol_c {prog : Program} {w : World} {loose : List Str} {mean : ExcName → Option Value} {mg mb : Str → Option Value} (cWat : WatT prog w (Mine.hd.heap_39 w.params) Mine.hd.view_39 loose mean mg mb 85) : CcolT prog w (Mine.hd.heap_39 w.params) Mine.hd.view_39 loose mean mg mb 92 := by
  intro ca cvs ics cc col tc wide tw news hw0 hw1 hci hcl
  unfold Claim
  intro dp un gd cn cs a ccd cl outer A₀ base h₀ L m s Q E B F X N T hk hd hu hret
  w_top off
  refine wpAny_call ?_
  k_dflt cell_enter
  k_with_none
  k_with "pyIter ref" => k_state (fun pre c => c = ccolZ wide col pre) "column"
  k_with "state" => first | rfl | (rw [ccolZ_snoc]; (first | (rw [if_pos (by assumption)]; done) | (rw [if_neg (by assumption)]; (first | rfl | (subst_vars; rfl) | (simp_all; done)))))
  w_strict (k_steps)
  all_goals (first | (refine hret _ _ _ _ (by k_asm) (by k_asm) (ret_int (by assumption) rfl)))
end
section
open PySem PySem.W PyProof.Rows
local macro_rules | `(tactic| walk_at "call ref") => `(tactic| (k_here; (with_reducible show wpAny _ _ (call (Value.ref 99) _) _ _ _); k_dflt (refine' draw_use ?C ?B ?F ?X ?N ?T ?K ?U ?i ?D ?m1 ?m2 ?d ?u ?_; (case C => assumption); (case B => k_asm); (case F => k_asm); (case X => k_asm); (case N => k_asm); (case T => k_asm); (case K => exact rfl); (case U => k_updF); (case i => assumption); (case D => assumption); (case m1 => omega); (case m2 => omega); (case d => ktr_room); (case u => ktr_units)); intro v' t' vs' ns' c' h' tk' F' N' hv0' hv1' hi' hd'; (try dsimp only at N'); (try k_fold)))
theorem getD_mem {l : List Int} {v : Int} (h0 : 0 ≤ v) (h1 : v < (l.length : Int)) : l.getD v.toNat 0 ∈ l := by
  have h : v.toNat < l.length := by omega
  rw [List.getD_eq_getElem?_getD, List.getElem?_eq_getElem h]
  exact List.getElem_mem h
theorem one_c {prog : Program} {w : World} {loose : List Str} {mean : ExcName → Option Value} {mg mb : Str → Option Value} (cDraw : DrawT prog w (Mine.hd.heap_39 w.params) Mine.hd.view_39 loose mean mg mb 99) : OneT prog w (Mine.hd.heap_39 w.params) Mine.hd.view_39 loose mean mg mb 111 := by
  intro d vs ns c it its menu ci news hi hD hm hm1 hm2 hne ho
  unfold Claim
  intro dp un gd cn cs a ccd cl outer A₀ base h₀ L m s Q E B F X N T hk hd hu hret
  w_top off
  refine wpAny_call ?_
  k_dflt cell_enter
  k_with_none
  have hMk : KstMark := kstMark
  w_strict (k_steps)
  all_goals (first | (refine hret _ _ _ _ (by k_asm) (by k_asm) ⟨_, _, _, _, _, rfl, rfl, getD_mem (by assumption) (by assumption), by assumption, by assumption⟩))
end
section
open PySem PySem.W PyProof.Rows
abbrev PR : Program := PySem.Challenge.rw_on0062_01.row.toRowW.prog
theorem deck_of_g {w : World} {loose : List Str} {mean : ExcName → Option Value} {mg mb : Str → Option Value} {h : Heap} (_ : Top Mine.hd.view_39 loose mean mg mb h) (_ : (Mine.hd.heap_39 w.params).In h) : DeckOfT PR w (Mine.hd.heap_39 w.params) Mine.hd.view_39 loose mean mg mb 104 := deck_of_c
theorem draw_g {w : World} {loose : List Str} {mean : ExcName → Option Value} {mg mb : Str → Option Value} {h : Heap} (_ : Top Mine.hd.view_39 loose mean mg mb h) (_ : (Mine.hd.heap_39 w.params).In h) : DrawT PR w (Mine.hd.heap_39 w.params) Mine.hd.view_39 loose mean mg mb 99 := draw_c
theorem one_g {w : World} {loose : List Str} {mean : ExcName → Option Value} {mg mb : Str → Option Value} {h : Heap} (_ : Top Mine.hd.view_39 loose mean mg mb h) (_ : (Mine.hd.heap_39 w.params).In h) : OneT PR w (Mine.hd.heap_39 w.params) Mine.hd.view_39 loose mean mg mb 111 := one_c draw_c
theorem due_g {w : World} {loose : List Str} {mean : ExcName → Option Value} {mg mb : Str → Option Value} {h : Heap} (_ : Top Mine.hd.view_39 loose mean mg mb h) (_ : (Mine.hd.heap_39 w.params).In h) : DueT PR w (Mine.hd.heap_39 w.params) Mine.hd.view_39 loose mean mg mb 123 := due_c
theorem fig_g {w : World} {loose : List Str} {mean : ExcName → Option Value} {mg mb : Str → Option Value} {h : Heap} (_ : Top Mine.hd.view_39 loose mean mg mb h) (_ : (Mine.hd.heap_39 w.params).In h) : FigT PR w (Mine.hd.heap_39 w.params) Mine.hd.view_39 loose mean mg mb 57 := fig_c
theorem shown_g {w : World} {loose : List Str} {mean : ExcName → Option Value} {mg mb : Str → Option Value} {h : Heap} (_ : Top Mine.hd.view_39 loose mean mg mb h) (_ : (Mine.hd.heap_39 w.params).In h) : ShownT PR w (Mine.hd.heap_39 w.params) Mine.hd.view_39 loose mean mg mb 64 := shown_c fig_c raw_c ctl_c
theorem width_g {w : World} {loose : List Str} {mean : ExcName → Option Value} {mg mb : Str → Option Value} {h : Heap} (_ : Top Mine.hd.view_39 loose mean mg mb h) (_ : (Mine.hd.heap_39 w.params).In h) : WidthT PR w (Mine.hd.heap_39 w.params) Mine.hd.view_39 loose mean mg mb 71 := width_c (shown_c fig_c raw_c ctl_c)
theorem cols_g {w : World} {loose : List Str} {mean : ExcName → Option Value} {mg mb : Str → Option Value} {h : Heap} (_ : Top Mine.hd.view_39 loose mean mg mb h) (_ : (Mine.hd.heap_39 w.params).In h) : ColsT PR w (Mine.hd.heap_39 w.params) Mine.hd.view_39 loose mean mg mb 78 := cols_c (width_c (shown_c fig_c raw_c ctl_c))
theorem wat_g {w : World} {loose : List Str} {mean : ExcName → Option Value} {mg mb : Str → Option Value} {h : Heap} (_ : Top Mine.hd.view_39 loose mean mg mb h) (_ : (Mine.hd.heap_39 w.params).In h) : WatT PR w (Mine.hd.heap_39 w.params) Mine.hd.view_39 loose mean mg mb 85 := wat_c
theorem ccol_g {w : World} {loose : List Str} {mean : ExcName → Option Value} {mg mb : Str → Option Value} {h : Heap} (_ : Top Mine.hd.view_39 loose mean mg mb h) (_ : (Mine.hd.heap_39 w.params).In h) : CcolT PR w (Mine.hd.heap_39 w.params) Mine.hd.view_39 loose mean mg mb 92 := ccol_c wat_c
local macro_rules | `(tactic| walk_at "call ref") => `(tactic| (k_here; (with_reducible show wpAny _ _ (call (Value.ref 104) _) _ _ _); k_dflt (refine' deck_of_use ?C ?B ?F ?X ?N ?T ?K ?l ?i ?n ?d ?u ?_; (case C => assumption); (case B => k_asm); (case F => k_asm); (case X => k_asm); (case N => k_asm); (case T => k_asm); (case K => exact rfl); (case l => assumption); (case i => assumption); (case n => omega); (case d => ktr_room); (case u => ktr_units)); intro d' vs' ns' c' h' tk' F' N' hi' hd'; (try k_fold)))
local macro_rules | `(tactic| walk_at "call ref") => `(tactic| (k_here; (with_reducible show wpAny _ _ (call (Value.ref 99) _) _ _ _); k_dflt (refine' draw_use ?C ?B ?F ?X ?N ?T ?K ?U ?i ?D ?m1 ?m2 ?d ?u ?_; (case C => assumption); (case B => k_asm); (case F => k_asm); (case X => k_asm); (case N => k_asm); (case T => k_asm); (case K => exact rfl); (case U => k_updF); (case i => assumption); (case D => assumption); (case m1 => decide); (case m2 => decide); (case d => ktr_room); (case u => ktr_units)); intro v' t' vs' ns' c' h' tk' F' N' hv0' hv1' hi' hd'; (try dsimp only at N'); (try k_fold)))
local macro_rules | `(tactic| walk_at "call ref") => `(tactic| (k_here; (with_reducible show wpAny _ _ (call (Value.ref 111) _) _ _ _); k_dflt (refine' one_use ?C ?B ?F ?X ?N ?T ?K ?U ?m0 ?ne ?i ?D ?im ?m1 ?m2 ?d ?u ?_; (case C => assumption); (case B => k_asm); (case F => k_asm); (case X => k_asm); (case N => k_asm); (case T => k_asm); (case K => exact rfl); (case U => k_updF); (case m0 => k_memK); (case ne => k_ne); (case i => assumption); (case D => assumption); (case im => exact menu_ints); (case m1 => decide); (case m2 => decide); (case d => ktr_room); (case u => ktr_units)); intro v' t' vs' ns' c' h' tk' F' N' hv' hi' hd'; (try dsimp only at N'); (try k_fold)))
local macro_rules | `(tactic| walk_at "call ref") => `(tactic| (k_here; (with_reducible show wpAny _ _ (call (Value.ref 123) _) _ _ _); k_dflt (refine' due_useK ?C ?B ?F ?X ?N ?T ?K ?hc ?w0 ?w1 ?d ?u ?_; (case C => assumption); (case B => k_asm); (case F => k_asm); (case X => k_asm); (case N => k_asm); (case T => k_asm); (case K => exact rfl); (case hc => first | exact raw_ok | exact menu_ok (by assumption) | assumption); (case w0 => first | decide | omega); (case w1 => first | decide | omega); (case d => ktr_room); (case u => ktr_units)); intro t' h' tk' hc' hle' F' N'; (try k_fold)))
local macro_rules | `(tactic| walk_at "call ref") => `(tactic| (k_here; (with_reducible show wpAny _ _ (call (Value.ref 57) _) _ _ _); k_dflt (refine' fig_use4 ?C ?B ?F ?X ?N ?T ?K  ?d ?u ?_; (case C => assumption); (case B => k_asm); (case F => k_asm); (case X => k_asm); (case N => k_asm); (case T => k_asm); (case K => exact rfl); (case d => ktr_room); (case u => ktr_units)); intro x' t0' t1' t2' t3' c' h' tk' F' N' l1 hi'; (try k_lt l1); (try k_fold)))
local macro_rules | `(tactic| walk_at "call ref") => `(tactic| (k_here; (with_reducible show wpAny _ _ (call (Value.ref 64) _) _ _ _); k_dflt (refine' shown_use ?C ?B ?F ?X ?N ?T ?K ?m1 ?m2 ?w0 ?w1 ?d ?u ?_; (case C => assumption); (case B => k_asm); (case F => k_asm); (case X => k_asm); (case N => k_asm); (case T => k_asm); (case K => exact rfl); (case m1 => k_memK); (case m2 => k_memK); (case w0 => first | decide | omega); (case w1 => first | decide | omega); (case d => ktr_room); (case u => ktr_units)); intro y' vs' c' h' tk' F' N' l1 hi'; (try k_lt l1); (try k_fold)))
local macro_rules | `(tactic| walk_at "call ref") => `(tactic| (k_here; (with_reducible show wpAny _ _ (call (Value.ref 71) _) _ _ _); k_dflt (refine' width_use ?C ?B ?F ?X ?N ?T ?K ?m1 ?m2 ?w0 ?w1 ?d ?u ?_; (case C => assumption); (case B => k_asm); (case F => k_asm); (case X => k_asm); (case N => k_asm); (case T => k_asm); (case K => exact rfl); (case m1 => k_memK); (case m2 => k_memK); (case w0 => first | decide | omega); (case w1 => first | decide | omega); (case d => ktr_room); (case u => ktr_units)); intro t' h' tk' F' N'; (try k_fold)))
local macro_rules | `(tactic| walk_at "call ref") => `(tactic| (k_here; (with_reducible show wpAny _ _ (call (Value.ref 78) _) _ _ _); (try ((rename News _ _ _ _ => nE'); simp only [List.push_toArray] at nE')); k_dflt (refine' cols_use ?C ?B ?F ?X ?N ?T ?K ?m0 ?m1 ?m2 ?i ?w0 ?w1 ?n ?d ?u ?_; (case C => assumption); (case B => k_asm); (case F => k_asm); (case X => k_asm); (case N => k_asm); (case T => k_asm); (case K => exact rfl); (case m0 => k_memK); (case m1 => k_memK); (case m2 => k_memK); (case i => first | assumption | exact IntsAre.append (by assumption) (.cons _ _ .nil)); (case w0 => first | decide | omega); (case w1 => first | decide | omega); (case n => first | omega | ((simp only [List.length_append, List.length_cons, List.length_nil, rangeKs_length] at *); omega)); (case d => ktr_room); (case u => ktr_units)); intro t' h' tk' F' N'; (try k_fold)))
local macro_rules | `(tactic| walk_at "call ref") => `(tactic| (k_here; (with_reducible show wpAny _ _ (call (Value.ref 85) _) _ _ _); k_dflt (refine' wat_use ?C ?B ?F ?X ?N ?T ?K ?w0 ?w1 ?d ?u ?_; (case C => assumption); (case B => k_asm); (case F => k_asm); (case X => k_asm); (case N => k_asm); (case T => k_asm); (case K => exact rfl); (case w0 => first | decide | omega); (case w1 => first | decide | omega); (case d => ktr_room); (case u => ktr_units)); intro t' h' tk' F' N'; (try k_fold)))
local macro_rules | `(tactic| walk_at "call ref") => `(tactic| (k_here; (with_reducible show wpAny _ _ (call (Value.ref 92) _) _ _ _); k_dflt (refine' ccol_use ?C ?B ?F ?X ?N ?T ?K ?m0 ?i ?w0 ?w1 ?n ?d ?u ?_; (case C => assumption); (case B => k_asm); (case F => k_asm); (case X => k_asm); (case N => k_asm); (case T => k_asm); (case K => exact rfl); (case m0 => k_memK); (case i => assumption); (case w0 => first | decide | omega); (case w1 => first | decide | omega); (case n => first | omega | ((simp only [List.length_append, List.length_cons, List.length_nil, rangeKs_length] at *); omega)); (case d => ktr_room); (case u => ktr_units)); intro t' h' tk' F' N'; (try k_fold)))
local macro_rules | `(tactic| walk_at "call type:range") => `(tactic| (k_here; (rename Fr _ _ _ _ => F'); (rename News _ _ _ _ => N'); (with_unfolding_all refine range1_rows F' N' ?_; intro _ _ _ _ _ _ _ _ _)))
local macro_rules | `(tactic| walk_at "eval Call") => `(tactic| (k_here; (with_reducible show wpAny _ _ (eval (Expr.Call (Expr.Name _ _) _ _ _) (envOf _ _ _ _ _)) _ _ _); k_dflt (refine Call_ ?_)))
local macro_rules | `(tactic| walk_at "eval ListComp") => `(tactic| (k_here; k_dflt (refine comp_signs (by k_asm) (by with_unfolding_all rfl) (by decide) (by rfl) (by decide) (by rfl) ?_)))
local macro_rules | `(tactic| walk_at "Exists") => `(tactic| (k_here; k_dflt (refine' due_src ?hc ?w0 ?w1 ?hh ?F ?N ?_ ?_; (case hc => first | exact raw_ok | exact menu_ok (by assumption) | assumption); (case w0 => first | decide | omega); (case w1 => first | decide | omega); (case hh => rfl); (case F => k_asm); (case N => k_asm)); (first | (intro k' t' I' oI' C' oC' D' m' ys' h' tk' E' hC' hx' F' N' off' ne'; (try k_fold)) | skip)))
local macro_rules | `(tactic| walk_at "CompEnd") => `(tactic| (k_dflt (refine end_sign (by k_asm) (by k_asm) (by k_asm))))
local macro_rules | `(tactic| walk_at "compareOp NotEq ref ref") => `(tactic| (k_here; (with_unfolding_all refine' ne_same ?k1 ?k2 ?k3 ?k4 ?k5 ?e ?_; (case k1 => is_list); (case k2 => assumption); (case k3 => is_list); (case k4 => assumption); (case k5 => units_room); (case e => first | rfl | exact raw_shown _ _ _ _); k_whole)))
local macro_rules | `(tactic| walk_at "compareOp Eq ref ref") => `(tactic| (k_here; (with_unfolding_all refine' eq_same ?k1 ?k2 ?k3 ?k4 ?k5 ?e ?_; (case k1 => is_list); (case k2 => first | assumption | l_ints); (case k3 => is_list); (case k4 => first | assumption | l_ints); (case k5 => units_room); (case e => first | rfl | decide); k_whole)))
local macro_rules | `(tactic| walk_at "compareOp NotEq int int") => `(tactic| (k_here; k_dflt (refine' ne_int_same ?e ?_; (case e => first
  | exact width_due (by assumption) (by omega) (by omega)
  | exact wat_due (by assumption) (by omega) (by omega) (by first | assumption | exact decide_eq_true (by assumption))
  | exact cols_text (by assumption) (by omega) (by omega) (by assumption)
  | exact ccol_text (by omega) (by omega) (by assumption) (by assumption) (by first | assumption | exact decide_eq_true (by assumption))
  | exact fig_back (by assumption) (by assumption)
  | rfl))))
local macro_rules | `(tactic| walk_at "call builtin:len") => `(tactic| (k_here; (with_reducible show wpAny _ _ (call (Value.builtin "len") [Value.str _ _]) _ _ _); (refine SBL.len (by first | omega | exact len_fit (by assumption) (by assumption) (by omega)) ?_)))
local macro_rules | `(tactic| walk_at "subscriptTail Name Constant ref int") => `(tactic| (k_here; (with_reducible show wpAny _ _ (subscriptTail _ _ (Value.ref _) (Value.int _ _)) _ _ _); (with_unfolding_all refine' item_litK ?k1 ?k2 ?k3 ?k4 ?_ ?k6; (case k1 => is_list); (case k2 => decide); (case k3 => decide); (case k4 => rfl); (case k6 => with_unfolding_all rfl))))
local macro_rules | `(tactic| walk_at "execs nil") => `(tactic| (k_here; refine wpAny_execs_nil ?_))
local macro_rules | `(tactic| walk_at "binaryOp Add str str") => `(tactic| (k_here; (with_reducible show wpAny _ _ (binaryOp Operator.Add (Value.str _ _) (Value.str _ _)) _ _ _); (refine KOpn.add (by omega) ?_); intro _ _ _))
local macro_rules | `(tactic| walk_at "InvEndN") => `(tactic| ((with_reducible rename News _ _ _ _ => nE'); (try simp only [List.push_toArray] at nE'); first
  | (refine kst_end ⟨_, _, _, _, _, _, _, _⟩ (by assumption) nE' (by ((try dsimp only); (try simp only [List.nil_append, List.cons_append]); (with_reducible repeat (refine List.forall_mem_cons.mpr ⟨?kmA, ?_⟩; (case kmA => (repeat (first | exact List.Mem.head _ | refine List.Mem.tail _ ?_))))); first | exact List.forall_mem_nil _ | (intro p9 h9; kst_mem))) (by (intro p hp; kst_mem)) (by rfl) (by kst_facts) (by kst_all) (by kst_same) (by kst_p))
  | (refine kst_end ⟨_, _, _⟩ (by assumption) nE' (by ((try dsimp only); (try simp only [List.nil_append, List.cons_append]); (with_reducible repeat (refine List.forall_mem_cons.mpr ⟨?kmA, ?_⟩; (case kmA => (repeat (first | exact List.Mem.head _ | refine List.Mem.tail _ ?_))))); first | exact List.forall_mem_nil _ | (intro p9 h9; kst_mem))) (by (intro p hp; kst_mem)) (by rfl) (by kst_facts) (by kst_all) (by kst_same) (by kst_p))))
theorem law_holds : PySem.Challenge.rw_on0062_01.Holds := Mine.hd (by
  w_strict (
    k_go0
    have cD1 := deck_of_g (by assumption) (by assumption)
    have cD2 := draw_g (by assumption) (by assumption)
    have cD3 := one_g (by assumption) (by assumption)
    have cD4 := due_g (by assumption) (by assumption)
    have cD5 := fig_g (by assumption) (by assumption)
    have cD6 := shown_g (by assumption) (by assumption)
    have cD7 := width_g (by assumption) (by assumption)
    have cD8 := cols_g (by assumption) (by assumption)
    have cD9 := wat_g (by assumption) (by assumption)
    have cDA := ccol_g (by assumption) (by assumption)
    k_with_none
    k_with "pyIter ref" => k_of "_law_turn" => k_state_short (fun pre D => DeckOk D) "_law_deck"
    k_with "pyIter ref" => k_of "_law_step" => k_state_given ["_law_wide", "_law_has_carets"] (fun wide car pre D C T => InnerP wide car pre D C T) "_law_deck" "_law_codes" "_law_text"
    k_with "state" => first | assumption | exact inner_start (by assumption) | exact inner_step (by omega) (by omega) (by assumption) (by assumption) (by assumption) (by assumption) (by assumption) (by assumption)
    all_goals (try k_fold)
    k_steps))
end
end Mine
theorem PySem.Challenge.cw_on0062_01_holds : PySem.Challenge.rw_on0062_01.Holds := by
  exact Mine.law_holds
