import PyProof.Rows.All
import Wide.All
import OpenK.AllK
import Wide.FinOn
import PySem.Challenge.RW_np0044_01
open PySem PySem.W PyProof.Rows
set_option Elab.async false
namespace Mine
-- Hd
section
local macro_rules | `(tactic| kernel_rfl) => `(tactic| fail)
def mark : Nat := 0
theorem mark_eq (_ : OpenRow.Holds (OpenLaw.row PySem.Challenge.rw_np0044_01)) : mark = 0 := rfl
set_option maxRecDepth 100000 in
set_option maxHeartbeats 8000000 in
theorem hd : mark = mark := by
  simp -failIfUnchanged (disch := (w_on; k_head)) only [mark_eq]
end

open PySem.Spec PySem.Calls
-- GENERIC
local macro_rules | `(tactic| walk_at $s:str) => `(tactic| k_extra $(Lean.Syntax.mkStrLit ("m " ++ s.getString)))
local macro_rules | `(tactic| k_mem) => `(tactic| walk_at "mem")
local macro_rules | `(tactic| k_all) => `(tactic| walk_at "all")
local macro_rules | `(tactic| k_room) => `(tactic| walk_at "room")
-- GENERIC END
-- Base
set_option maxRecDepth 100000
set_option maxHeartbeats 8000000
/-- fill the table of the written part -/
theorem filled : (PySem.Challenge.rw_np0044_01.foot = 7) ∧ (hd.heap_1 = hd.heap_1) := by
  w_top off
  k_fill
  exact ⟨rfl, rfl⟩

/-- a call of f with vs, over any ledger, hands back what Post says -/
abbrev Con (w : World) (need : Nat) (f : Addr) (vs : List Value) (news : List (Addr × Obj)) (Post : Value → List (Addr × Obj) → Prop) : Prop :=
  ∀ (dp un : Nat) (gd : Option (List Code)) (cn : Str) (cs : Scope) (a : Addr) (ccd : Value) (cl : List (Str × Addr)) (outer : List Env) (A₀ : Around) (base h₀ : Heap) (L : Addr) (m : Str → Option Value) (s : Shared) (mean : ExcName → Option Value) (mg mb : Str → Option Value)
    (Q E : Value → Shared → Prop),
    Below A₀ base outer h₀ → Fr h₀ L s.heap m → (Mine.hd.heap_1 w.params).In h₀ → News h₀ L s.heap news → Top Mine.hd.view_1 (looseW Mine.hd.view_1 [Str.ofString "ROWS"]) mean mg mb h₀ → cs.kind = .function →
    dp + need < recursionLimit → un + 8 * need < cLine →
    (∀ r news' h' tk', Fr h₀ L h' m → News h₀ L h' news' → Post r news' → Q r { s with heap := h', toks := tk' }) →
    wpAny (model PySem.Challenge.rw_np0044_01.row.prog w) (ktrTop dp un gd cn cs L a ccd cl outer) (call (.ref f) vs) Q E s

theorem con_use {w : World} {need : Nat} {f : Addr} {vs : List Value} {news : List (Addr × Obj)} {Post : Value → List (Addr × Obj) → Prop}
    {dp un : Nat} {gd : Option (List Code)} {cn : Str} {cs : Scope} {a : Addr} {ccd : Value} {cl : List (Str × Addr)} {outer : List Env} {A₀ : Around} {base h₀ : Heap} {L : Addr} {m : Str → Option Value} {s : Shared} {mean : ExcName → Option Value} {mg mb : Str → Option Value}
    {Q E : Value → Shared → Prop}
    (B : Below A₀ base outer h₀) (F : Fr h₀ L s.heap m) (X : (Mine.hd.heap_1 w.params).In h₀) (N : News h₀ L s.heap news) (T : Top Mine.hd.view_1 (looseW Mine.hd.view_1 [Str.ofString "ROWS"]) mean mg mb h₀) (hk : cs.kind = .function)
    (C : Con w need f vs news Post) (hd : dp + need < recursionLimit) (hu : un + 8 * need < cLine)
    (ret : ∀ r news' h' tk', Fr h₀ L h' m → News h₀ L h' news' → Post r news' → Q r { s with heap := h', toks := tk' }) :
    wpAny (model PySem.Challenge.rw_np0044_01.row.prog w) (ktrTop dp un gd cn cs L a ccd cl outer) (call (.ref f) vs) Q E s :=
  C _ _ _ _ _ _ _ _ _ _ _ _ _ _ _ _ _ _ _ _ B F X N T hk hd hu ret

section
variable {Q : Value → Shared → Prop} {s : Shared} {h₀ : Heap} {L : Addr} {m : Str → Option Value} {news : List (Addr × Obj)}
/-- the ends of a contract's use, without a case split in the walk -/
theorem pure_ret {V : Tok → Value} (k : ∀ t h' tk', Fr h₀ L h' m → News h₀ L h' news → Q (V t) { s with heap := h', toks := tk' }) :
    ∀ r news' h' tk', Fr h₀ L h' m → News h₀ L h' news' → (news' = news ∧ ∃ t, r = V t) → Q r { s with heap := h', toks := tk' } := fun r news' h' tk' F N P => by
  obtain ⟨rfl, t, rfl⟩ := P
  exact k t h' tk' F N
theorem eq_ret {R : Value → Prop} (k : ∀ r h' tk', Fr h₀ L h' m → News h₀ L h' news → R r → Q r { s with heap := h', toks := tk' }) :
    ∀ r news' h' tk', Fr h₀ L h' m → News h₀ L h' news' → (news' = news ∧ R r) → Q r { s with heap := h', toks := tk' } := fun r news' h' tk' F N P => by
  obtain ⟨rfl, p⟩ := P
  exact k r h' tk' F N p
end

inductive Wd where
  | const | ret | discard | dup | gotoifnil | gotoifnilelsepop | goto | varbind | unbind | pushcatch | pophandler | call | stackref
  deriving DecidableEq
def Wd.str : Wd → Str
  | .const => Str.ofString "const"
  | .ret => Str.ofString "return"
  | .discard => Str.ofString "discard"
  | .dup => Str.ofString "dup"
  | .gotoifnil => Str.ofString "gotoifnil"
  | .gotoifnilelsepop => Str.ofString "gotoifnilelsepop"
  | .goto => Str.ofString "goto"
  | .varbind => Str.ofString "varbind"
  | .unbind => Str.ofString "unbind"
  | .pushcatch => Str.ofString "pushcatch"
  | .pophandler => Str.ofString "pophandler"
  | .call => Str.ofString "call"
  | .stackref => Str.ofString "stackref"
def Wd.sort : Wd → Str
  | .const => Str.ofString "constant"
  | .varbind => Str.ofString "symbol"
  | .unbind | .call | .stackref => Str.ofString "count"
  | .ret | .discard | .dup | .pophandler => Str.ofString "none"
  | .gotoifnil | .gotoifnilelsepop | .goto | .pushcatch => Str.ofString "place"
def Wd.pop : Wd → Int
  | .varbind | .dup | .discard | .ret | .gotoifnil | .gotoifnilelsepop | .pushcatch => 1
  | _ => 0
def Wd.push : Wd → Int
  | .const | .stackref => 1
  | .dup => 2
  | _ => 0
def Wd.binds : Wd → Int
  | .varbind => 1
  | _ => 0
def Wd.hands : Wd → Int
  | .pushcatch => 1
  | .pophandler => -1
  | _ => 0
theorem Wd.inj : ∀ a b : Wd, a.str = b.str → a = b := by
  intro a b
  cases a <;> cases b <;> first | (intro _; rfl) | (intro h; exact absurd h (by decide +kernel))

structure Ins where
  w : Wd
  k : Int
def Ins.pop (i : Ins) : Int := if i.w = .call then i.k + 1 else i.w.pop
def Ins.push (i : Ins) : Int := if i.w = .call then 1 else i.w.push
def Ins.need (i : Ins) : Int := if i.w = .stackref then i.k + 1 else i.pop
def Ins.binds (i : Ins) : Int := if i.w = .unbind then 0 - i.k else i.w.binds
def Ins.hands (i : Ins) : Int := i.w.hands
/-- the tuple (word, operand) -/
abbrev insObj (i : Ins) (t u : Tok) (n : Nat) : Obj := { cls := .type "tuple", data := .seq [.str i.w.str t, .int i.k u].toArray n }
structure St where
  v : Int
  b : Int
  hs : List (Int × Int × Int)
abbrev hD (h : Int × Int × Int) : Dat := .tuple [.int h.1, .int h.2.1, .int h.2.2]
inductive StIn (w : World) (news : List (Addr × Obj)) (v : Value) (st : St) : Prop where
  | mk {x dx hl : Addr} {vs : List Value} {n : Nat} {tv tb t1 t2 t3 : Tok} (hv : v = .ref x) (h1 : (x, instObj 266 dx) ∈ news)
    (h2 : (dx, dictOf [⟨PyData.keyHash w.params (Str.ofString "values"), .str (Str.ofString "values") t1, .int st.v tv⟩, ⟨PyData.keyHash w.params (Str.ofString "bindings"), .str (Str.ofString "bindings") t2, .int st.b tb⟩, ⟨PyData.keyHash w.params (Str.ofString "handlers"), .str (Str.ofString "handlers") t3, .ref hl⟩] 3) ∈ news)
    (h3 : (hl, listOf vs.toArray n) ∈ news) (h4 : DatAll news vs (st.hs.map hD)) : StIn w news v st
theorem StIn.mono {w : World} {news news' : List (Addr × Obj)} {v : Value} {st : St} (hs : ∀ p ∈ news, p ∈ news') (h : StIn w news v st) : StIn w news' v st := by
  obtain ⟨hv, h1, h2, h3, h4⟩ := h
  exact ⟨hv, hs _ h1, hs _ h2, hs _ h3, h4.mono hs⟩
/-- what a call made lies above what stood -/
def Above (news tl : List (Addr × Obj)) : Prop := ∀ q ∈ news, ∀ p ∈ tl, q.1 < p.1

/-- a ledger that a call made grow -/
def Grow (news news' : List (Addr × Obj)) : Prop := ∃ tl, news' = tl ++ news ∧ Above news tl
theorem Grow.refl (news : List (Addr × Obj)) : Grow news news := ⟨[], rfl, fun _ _ _ h => nomatch h⟩
theorem Grow.cons {news news' : List (Addr × Obj)} {q : Addr × Obj} (h : Grow news news') (l : AllLt q.1 news') : Grow news (q :: news') := by
  obtain ⟨tl, rfl, ha⟩ := h
  refine ⟨q :: tl, rfl, fun x hx p hp => ?_⟩
  rcases List.mem_cons.mp hp with rfl | hp
  · exact ktn_ltOf l x (List.mem_append.mpr (.inr hx))
  · exact ha x hx p hp
theorem Grow.app {news news' tl : List (Addr × Obj)} (h : Grow news news') (k : Above news' tl) : Grow news (tl ++ news') := by
  obtain ⟨t, rfl, ha⟩ := h
  refine ⟨tl ++ t, (List.append_assoc ..).symm, fun x hx p hp => ?_⟩
  rcases List.mem_append.mp hp with hp | hp
  · exact k x (List.mem_append.mpr (.inr hx)) p hp
  · exact ha x hx p hp
theorem Grow.trans {a b c : List (Addr × Obj)} (h : Grow a b) (k : Grow b c) : Grow a c := by
  obtain ⟨t, rfl, ha⟩ := k
  exact h.app ha
theorem Grow.sub {news news' : List (Addr × Obj)} (h : Grow news news') : ∀ p ∈ news, p ∈ news' := by
  obtain ⟨t, rfl, _⟩ := h
  exact fun p hp => List.mem_append.mpr (.inr hp)
theorem Grow.set {news news' : List (Addr × Obj)} {q r : Addr × Obj} (h : Grow news (q :: news')) (hq : q.1 = r.1) (hn : ∀ x ∈ news, x.1 < q.1) (hg : Grow news news') : Grow news (r :: news') := by
  obtain ⟨t, rfl, ha⟩ := hg
  refine ⟨r :: t, rfl, fun x hx p hp => ?_⟩
  rcases List.mem_cons.mp hp with rfl | hp
  · exact hq ▸ hn x hx
  · exact ha x hx p hp

theorem AllLt.up {a b : Addr} {l : List (Addr × Obj)} (h : @LT.lt Nat _ a b) (k : AllLt a l) : AllLt b l := by
  induction l with
  | nil => exact trivial
  | cons p r ih => exact ⟨Nat.lt_trans k.1 h, ih k.2⟩
theorem AllLt.ne {a : Addr} {l : List (Addr × Obj)} (k : AllLt a l) : ∀ p ∈ l, p.1 ≠ a := fun p hp => Nat.ne_of_lt (ktn_ltOf k p hp)
theorem Grow.up {news news' : List (Addr × Obj)} {q : Addr × Obj} (h : Grow news news') (l : AllLt q.1 news) : Grow news (q :: news') := by
  obtain ⟨tl, rfl, ha⟩ := h
  refine ⟨q :: tl, rfl, fun x hx p hp => ?_⟩
  rcases List.mem_cons.mp hp with rfl | hp
  · exact ktn_ltOf l x hx
  · exact ha x hx p hp
/-- two ledgers, one within the other, that grew by the same -/
def Grow2 (core news core' news' : List (Addr × Obj)) : Prop := ∃ tl, core' = tl ++ core ∧ news' = tl ++ news ∧ Above news tl
theorem Grow2.refl (core news : List (Addr × Obj)) : Grow2 core news core news := ⟨[], rfl, rfl, fun _ _ _ h => nomatch h⟩
theorem Grow2.cons {core news core' news' : List (Addr × Obj)} {q : Addr × Obj} (h : Grow2 core news core' news') (l : AllLt q.1 news') : Grow2 core news (q :: core') (q :: news') := by
  obtain ⟨tl, rfl, rfl, ha⟩ := h
  refine ⟨q :: tl, rfl, rfl, fun x hx p hp => ?_⟩
  rcases List.mem_cons.mp hp with rfl | hp
  · exact ktn_ltOf l x (List.mem_append.mpr (.inr hx))
  · exact ha x hx p hp
theorem Grow2.app {core news core' news' tl : List (Addr × Obj)} (h : Grow2 core news core' news') (k : Above news' tl) : Grow2 core news (tl ++ core') (tl ++ news') := by
  obtain ⟨t, rfl, rfl, ha⟩ := h
  refine ⟨tl ++ t, (List.append_assoc ..).symm, (List.append_assoc ..).symm, fun x hx p hp => ?_⟩
  rcases List.mem_append.mp hp with hp | hp
  · exact k x (List.mem_append.mpr (.inr hx)) p hp
  · exact ha x hx p hp
section
variable {prog : Program} {w : World} {A : Around} {E : Value → Shared → Prop} {s : Shared} {h₀ : Heap} {L l b : Addr} {news L9 : List (Addr × Obj)} {Q : Value → Shared → Prop}
theorem my_last {value slice : Expr} {items : Array Value} {n : Nat} {u : Tok} {x : Value} (N : News h₀ L s.heap news) (hm : (l, listOf items n) ∈ news) (hz : 0 < items.size) (hx : items[items.size - 1]? = some x) (h : Q x s)
    (hs : subscripted slice false (.ref l) (.int (-1) u) = operate [.ref l, .int (-1) u] (getItem (.ref l) (.int (-1) u)) := by with_unfolding_all rfl) :
    wpAny (model prog w) A (subscriptTail value slice (.ref l) (.int (-1) u)) Q E s := by
  have hl : s.heap.IsList l items := ⟨_, (N _ hm).1, rfl, n, rfl⟩
  refine tail_any hl.typeIs slot_list_getitem.lookup (wpAny_getItem_list_neg hl (by decide) (by omega) (by decide) ?_ h) hs
  have e : ((-1 : Int) + items.size).toNat = items.size - 1 := by omega
  rw [e]; exact hx
theorem my_eq_nil_f {items : Array Value} {n n' : Nat} (N : News h₀ L s.heap news) (hm : (l, listOf items n) ∈ news) (hb : (b, listOf (List.toArray []) n') ∈ news) (hz : items.size ≠ 0) (hu : A.units < cLine) (h : Q (.bool false) s) :
    wpAny (model prog w) A (compareOp .Eq (.ref l) (.ref b)) Q E s :=
  PySem.SeqAt.RcAt.lists_lengths ⟨_, (N _ hm).1, rfl, n, rfl⟩ ⟨_, (N _ hb).1, rfl, n', rfl⟩ (by simpa using hz) hu _ _ _ _ h
theorem my_ne_nil_t {items : Array Value} {n n' : Nat} (N : News h₀ L s.heap news) (hm : (l, listOf items n) ∈ news) (hb : (b, listOf (List.toArray []) n') ∈ news) (hz : items.size ≠ 0) (hu : A.units < cLine) (h : Q (.bool true) s) :
    wpAny (model prog w) A (compareOp .NotEq (.ref l) (.ref b)) Q E s :=
  PySem.SeqAt.RcNeAt.lists_lengths ⟨_, (N _ hm).1, rfl, n, rfl⟩ ⟨_, (N _ hb).1, rfl, n', rfl⟩ (by simpa using hz) hu _ _ _ _ h
theorem my_eq_nil_t {n n' : Nat} (N : News h₀ L s.heap news) (hm : (l, listOf (List.toArray []) n) ∈ news) (hb : (b, listOf (List.toArray []) n') ∈ news) (hu : A.units < cLine) (h : Q (.bool true) s) :
    wpAny (model prog w) A (compareOp .Eq (.ref l) (.ref b)) Q E s := by
  refine PySem.SeqAt.RcAt.lists (e := fun _ => true) ⟨_, (N _ hm).1, rfl, n, rfl⟩ ⟨_, (N _ hb).1, rfl, n', rfl⟩ rfl hu ?_ _ _ _ _ ?_
  · intro i hi; exact absurd hi (by simp)
  · simpa using h
theorem my_ne_nil_f {n n' : Nat} (N : News h₀ L s.heap news) (hm : (l, listOf (List.toArray []) n) ∈ news) (hb : (b, listOf (List.toArray []) n') ∈ news) (hu : A.units < cLine) (h : Q (.bool false) s) :
    wpAny (model prog w) A (compareOp .NotEq (.ref l) (.ref b)) Q E s := by
  refine PySem.SeqAt.RcNeAt.lists (e := fun _ => false) ⟨_, (N _ hm).1, rfl, n, rfl⟩ ⟨_, (N _ hb).1, rfl, n', rfl⟩ rfl hu ?_ _ _ _ _ ?_
  · intro i hi; exact absurd hi (by simp)
  · simpa using h
end
theorem hs_in {L9 : List (Addr × Obj)} {v : Value} {g : Int × Int × Int} (h : DatIn L9 v (hD g)) : ∃ a t1 t2 t3 n, v = .ref a ∧ (a, ({ cls := .type "tuple", data := .seq [.int g.1 t1, .int g.2.1 t2, .int g.2.2 t3].toArray n } : Obj)) ∈ L9 := by
  obtain ⟨g1, g2, g3⟩ := g
  cases h with
  | tuple hm ha =>
    cases ha with | cons h1 ha => cases ha with | cons h2 ha => cases ha with | cons h3 ha =>
    cases ha; cases h1; cases h2; cases h3
    exact ⟨_, _, _, _, _, rfl, hm⟩
theorem hs_of {L9 : List (Addr × Obj)} {g : Int × Int × Int} {a : Addr} {t1 t2 t3 : Tok} {n : Nat} (hm : (a, ({ cls := .type "tuple", data := .seq [.int g.1 t1, .int g.2.1 t2, .int g.2.2 t3].toArray n } : Obj)) ∈ L9) : DatIn L9 (.ref a) (hD g) :=
  .tuple hm (.cons (.int _ _) (.cons (.int _ _) (.cons (.int _ _) .nil)))
theorem hs_nil {L9 : List (Addr × Obj)} {hs : List (Int × Int × Int)} (h : DatAll L9 [] (hs.map hD)) : hs = [] := by
  cases hs with
  | nil => rfl
  | cons _ _ => cases h
theorem hs_snoc {L9 : List (Addr × Obj)} {vs : List Value} {v : Value} {hs : List (Int × Int × Int)} (h : DatAll L9 (vs ++ [v]) (hs.map hD)) : ∃ q g, hs = q ++ [g] ∧ DatAll L9 vs (q.map hD) ∧ DatIn L9 v (hD g) := by
  obtain ⟨es, d, e, h1, h2⟩ := h.snoc
  rcases List.eq_nil_or_concat hs with rfl | ⟨q, g, rfl⟩
  · simp at e
  · rw [List.concat_eq_append, List.map_append] at e
    obtain ⟨e1, e2⟩ := List.append_inj' e rfl
    subst e1
    simp at e2
    subst e2
    exact ⟨q, g, by simp, h1, h2⟩
theorem DatAll.snocR {L9 : List (Addr × Obj)} {vs : List Value} {v : Value} {hs : List (Int × Int × Int)} {g : Int × Int × Int} (h : DatAll L9 vs (hs.map hD)) (k : DatIn L9 v (hD g)) : DatAll L9 (vs ++ [v]) ((hs ++ [g]).map hD) := by
  rw [List.map_append]; exact h.append (.cons k .nil)
/-- the values of handlers, opened from behind -/
theorem hs_cases {L9 : List (Addr × Obj)} {vs : List Value} {hs : List (Int × Int × Int)} (h : DatAll L9 vs (hs.map hD)) {P : List Value → List (Int × Int × Int) → Prop} (h0 : DatAll L9 [] (([] : List (Int × Int × Int)).map hD) → P [] [])
    (h1 : ∀ us q g a t1 t2 t3 n, DatAll L9 us (q.map hD) → (a, ({ cls := .type "tuple", data := .seq [.int g.1 t1, .int g.2.1 t2, .int g.2.2 t3].toArray n } : Obj)) ∈ L9 → DatIn L9 (.ref a) (hD g) → P (us ++ [.ref a]) (q ++ [g])) : P vs hs := by
  rcases List.eq_nil_or_concat vs with rfl | ⟨us, v, rfl⟩
  · have e := hs_nil h
    subst e
    exact h0 h
  · rw [List.concat_eq_append] at h ⊢
    obtain ⟨q, g, rfl, hq, hg⟩ := hs_snoc h
    obtain ⟨a, t1, t2, t3, n, rfl, hm⟩ := hs_in hg
    exact h1 us q g a t1 t2 t3 n hq hm hg
theorem my_kl_last (us : List Value) (v : Value) : kl_last (us ++ [v]) = some (us, v) := by
  induction us with
  | nil => rfl
  | cons u us ih => show (match kl_last (us ++ [v]) with | some (p, y) => some (u :: p, y) | none => some ([], u)) = _; rw [ih]
theorem my_sz {us : List Value} {v : Value} : 0 < (us ++ [v]).toArray.size := by simp
theorem my_sz_push {us : Array Value} {v : Value} : 0 < (us.push v).size := by simp
theorem my_at {us : List Value} {v : Value} : (us ++ [v]).toArray[(us ++ [v]).toArray.size - 1]? = some v := by simp
theorem my_at_push {us : Array Value} {v : Value} : (us.push v)[(us.push v).size - 1]? = some v := by simp
theorem my_nz {us : List Value} {v : Value} : (us ++ [v]).toArray.size ≠ 0 := by simp
theorem my_nz_push {us : Array Value} {v : Value} : (us.push v).size ≠ 0 := by simp

/-- what after(instruction, standing) hands back -/
def afterF (x : Ins) (st : St) : Option St :=
  let values := st.v - x.pop + x.push
  let bindings := st.b + x.binds
  if st.v < x.need ∨ bindings < 0 then none
  else
    let hs := if x.hands > 0 then st.hs ++ [(values, st.b, x.k)] else st.hs
    let hs' : Option (List (Int × Int × Int)) := if x.hands < 0 then (match hs.getLast? with
      | none => none
      | some g => if g.2.1 ≠ st.b then none else some hs.dropLast) else some hs
    match hs' with
    | none => none
    | some hs => match hs.getLast? with
      | none => some ⟨values, bindings, hs⟩
      | some g => if bindings < g.2.1 then none else some ⟨values, bindings, hs⟩
inductive StOut (w : World) (o : Option St) (r : Value) (l : List (Addr × Obj)) : Prop where
  | none (h : o = Option.none) (hr : r = Value.none)
  | some (st : St) (h : o = Option.some st) (hr : StIn w l r st)

theorem row_K (w : World) (x : Wd) : ∃ a t0 t1 t2 t3 t4, nsIn (Mine.hd.heap_1 w.params) 90 x.str = some (some (.ref a)) ∧
    (Mine.hd.heap_1 w.params).lookup a = some ⟨.type "tuple", none, .seq [.str x.sort t0, .int x.pop t1, .int x.push t2, .int x.binds t3, .int x.hands t4].toArray 0, #[]⟩ := by
  cases x <;> exact ⟨_, _, _, _, _, _, by (dsimp only [Wd.str]; k_is), by rfl⟩
-- C1
set_option maxRecDepth 100000
set_option maxHeartbeats 8000000
theorem reset1 : True := by
  w_top off
  trivial

section
variable {w : World} {A : Around} {E : Value → Shared → Prop} {s : Shared} {h₀ : Heap} {L : Addr} {m : Str → Option Value}
theorem rows_item {x : Wd} {t : Tok} {value slice : Expr} {Q : Value → Shared → Prop} (F : Fr h₀ L s.heap m) (X₀ : (hd.heap_1 w.params).In h₀)
    (h : ∀ a t0 t1 t2 t3 t4, (hd.heap_1 w.params).lookup a = some ⟨.type "tuple", none, .seq [.str x.sort t0, .int x.pop t1, .int x.push t2, .int x.binds t3, .int x.hands t4].toArray 0, #[]⟩ → Q (.ref a) { s with toks := s.toks + 1 })
    (hs : subscripted slice false (.ref 90) (.str x.str t) = operate [.ref 90, .str x.str t] (getItem (.ref 90) (.str x.str t)) := by with_unfolding_all rfl) :
    wpAny (model PySem.Challenge.rw_np0044_01.row.prog w) A (subscriptTail value slice (.ref 90) (.str x.str t)) Q E s := by
  obtain ⟨a, t0, t1, t2, t3, t4, h1, h2⟩ := row_K w x
  refine' topItem_K F X₀ ?l ?k h1 (h a t0 t1 t2 t3 t4 h2) hs
  (case l => k_is)
  (case k => k_keys)
end
theorem linesC1_0 : True := by
  k_with_none
  (k_with "m subscriptTail" => (k_here; (with_reducible show wpAny _ _ (subscriptTail _ _ (Value.ref 90) (Value.str (Wd.str _) _)) _ _ _); k_dflt (refine' rows_item ?F ?X ?_; (case F => k_asm); (case X => k_asm)); intro a t0 t1 t2 t3 t4 hrow; dsimp only))
  (k_with "m subscriptTail" => (k_here; (with_reducible show wpAny _ _ (subscriptTail _ _ (Value.ref _) (Value.int _ _)) _ _ _); k_dflt (refine' topTup_K ?F ?X ?l ?a ?b ?c ?d ?_; (case F => k_asm); (case X => k_asm); (case l => assumption); (case a => decide); (case b => decide); (case c => rfl); (case d => rfl); k_whole)))
  trivial
theorem wd_plain (x : Wd) : ¬ ((x.str == Str.ofString "plain") = true) := by cases x <;> decide +kernel
theorem wd_plain' (x : Wd) : ¬ (x.str = Str.ofString "plain") := by cases x <;> decide +kernel
theorem wd_call (x : Wd) : ([Str.ofString "call", Str.ofString "plain"].any fun y => y == x.str) = decide (x = .call) := by cases x <;> decide +kernel
theorem wd_eq {x y : Wd} (h : (x.str == y.str) = true) : x = y := Wd.inj x y (by simpa using h)
theorem wd_ne {x y : Wd} (h : (x.str == y.str) = false) : x ≠ y := by rintro rfl; simp at h
theorem linesC1_1 : True := by
  (k_with "m ite" => (refine ite_neg (wd_plain _) ?_))
  (k_with "m mem" => first | exact List.mem_cons_self | (refine List.mem_cons_of_mem _ ?_; walk_at "mem") | (refine List.mem_append_left _ ?_; walk_at "mem") | (refine List.mem_append_right _ ?_; walk_at "mem") | ktr_member | assumption)
  (k_with "m sub" => first | exact fun _ h => h | (refine fun p hp => List.mem_cons_of_mem _ ((?_ : ∀ p, _ → _) p hp); walk_at "sub") | (refine fun p hp => List.mem_append_right _ ((?_ : ∀ p, _ → _) p hp); walk_at "sub"))
  (k_with "m con start" => (intro dp un gd cn cs a ccd cl outer A₀ base h₀ L m s mean mg mb Q E B F X N T hk hdp hun hret; (refine wpAny_call ?_); k_dflt ktr_enter))
  trivial
section
variable (w : World) (news : List (Addr × Obj)) (i : Addr) (x : Ins) (t u : Tok) (n : Nat) (hm : (i, insObj x t u n) ∈ news)
include hm
theorem handlers_made : Con w 2 242 [.ref i] news (fun r news' => news' = news ∧ ∃ t, r = .int x.hands t) := by
  walk_at "con start"
  k_steps
  all_goals exact hret _ _ _ _ (by k_asm) (by k_asm) ⟨rfl, _, rfl⟩

theorem popped : Con w 2 214 [.ref i] news (fun r news' => news' = news ∧ ∃ t, r = .int x.pop t) := by
  walk_at "con start"
  k_steps
  · (rename (_ == Str.ofString "call") = _ => hc)
    refine hret _ _ _ _ (by k_asm) (by k_asm) ⟨rfl, _, congrArg (Value.int · _) ?_⟩
    rw [Ins.pop, if_pos (wd_eq (y := .call) hc)]
  · (rename (_ == Str.ofString "call") = _ => hc)
    refine hret _ _ _ _ (by k_asm) (by k_asm) ⟨rfl, _, congrArg (Value.int · _) ?_⟩
    rw [Ins.pop, if_neg (wd_ne (y := .call) hc)]

theorem bindings_made : Con w 2 235 [.ref i] news (fun r news' => news' = news ∧ ∃ t, r = .int x.binds t) := by
  walk_at "con start"
  k_steps
  · (rename (_ == Str.ofString "unbind") = _ => hc)
    refine hret _ _ _ _ (by k_asm) (by k_asm) ⟨rfl, _, congrArg (Value.int · _) ?_⟩
    rw [Ins.binds, if_pos (wd_eq (y := .unbind) hc)]
  · (rename (_ == Str.ofString "unbind") = _ => hc)
    refine hret _ _ _ _ (by k_asm) (by k_asm) ⟨rfl, _, congrArg (Value.int · _) ?_⟩
    rw [Ins.binds, if_neg (wd_ne (y := .unbind) hc)]

theorem pushed : Con w 2 221 [.ref i] news (fun r news' => news' = news ∧ ∃ t, r = .int x.push t) := by
  walk_at "con start"
  k_steps
  · (rename (List.any _ _) = _ => hc)
    refine hret _ _ _ _ (by k_asm) (cb_drop (by k_asm) (by walk_at "sub")) ⟨rfl, _, congrArg (Value.int · _) ?_⟩
    rw [Ins.push, if_pos (of_decide_eq_true ((wd_call x.w).symm.trans hc))]
  · (rename (List.any _ _) = _ => hc)
    refine hret _ _ _ _ (by k_asm) (cb_drop (by k_asm) (by walk_at "sub")) ⟨rfl, _, congrArg (Value.int · _) ?_⟩
    rw [Ins.push, if_neg (of_decide_eq_false ((wd_call x.w).symm.trans hc))]

theorem linesC1_2 : True := by
  (k_with "m call ref" => (k_here; (with_reducible show wpAny _ _ (call (Value.ref 214) [Value.ref _]) _ _ _); k_dflt (refine' con_use ?k1 ?k2 ?k3 ?k4 ?k5 ?kK (popped _ _ _ _ _ _ _ ?km) ?kd ?ku ?_; (case k1 => k_asm); (case k2 => k_asm); (case k3 => k_asm); (case k4 => k_asm); (case k5 => k_asm); (case kK => first | exact rfl | assumption); (case km => k_mem); (case kd => ktr_room); (case ku => ktr_units); intro r9 n9 h9 tk9 F9 N9 P9; obtain ⟨e9, t9, e8⟩ := P9; subst e9; subst e8; (try dsimp only))))
  trivial
theorem needed : Con w 4 228 [.ref i] news (fun r news' => news' = news ∧ ∃ t, r = .int x.need t) := by
  walk_at "con start"
  k_steps
  · (rename (_ == Str.ofString "stackref") = _ => hc)
    refine hret _ _ _ _ (by k_asm) (by k_asm) ⟨rfl, _, congrArg (Value.int · _) ?_⟩
    rw [Ins.need, if_pos (wd_eq (y := .stackref) hc)]
  · (rename (_ == Str.ofString "stackref") = _ => hc)
    refine hret _ _ _ _ (by k_asm) (by k_asm) ⟨rfl, _, congrArg (Value.int · _) ?_⟩
    rw [Ins.need, if_neg (wd_ne (y := .stackref) hc)]
end

theorem sort_of (w : World) (news : List (Addr × Obj)) (x : Wd) (t : Tok) : Con w 2 207 [.str x.str t] news (fun r news' => news' = news ∧ ∃ t, r = .str x.sort t) := by
  walk_at "con start"
  k_steps
  all_goals exact hret _ _ _ _ (by k_asm) (by k_asm) ⟨rfl, _, rfl⟩
-- D
set_option maxRecDepth 100000
set_option maxHeartbeats 8000000

/-- two lists go together, one by one -/
inductive A2 {α β : Type} (R : α → β → Prop) : List α → List β → Prop
  | nil : A2 R [] []
  | cons {a : α} {b : β} {as : List α} {bs : List β} (h : R a b) (t : A2 R as bs) : A2 R (a :: as) (b :: bs)
section
variable {α β : Type} {R R' : α → β → Prop} {as as' : List α} {bs bs' : List β} {a : α} {b : β}
theorem A2.mono (hs : ∀ a b, R a b → R' a b) (h : A2 R as bs) : A2 R' as bs := by
  induction h with
  | nil => exact .nil
  | cons h _ ih => exact .cons (hs _ _ h) ih
theorem A2.length (h : A2 R as bs) : as.length = bs.length := by
  induction h with
  | nil => rfl
  | cons _ _ ih => simp [ih]
theorem A2.append (h : A2 R as bs) (k : A2 R as' bs') : A2 R (as ++ as') (bs ++ bs') := by
  induction h with
  | nil => exact k
  | cons h _ ih => exact .cons h ih
theorem A2.get (h : A2 R as bs) {i : Nat} (hi : i < bs.length) : ∃ a, as[i]? = some a ∧ R a bs[i] := by
  induction h generalizing i with
  | nil => exact absurd hi (Nat.not_lt_zero _)
  | cons h _ ih =>
    cases i with
    | zero => exact ⟨_, rfl, h⟩
    | succ i => exact ih (by simpa using hi)
theorem A2.get' (h : A2 R as bs) {i : Nat} (hi : bs[i]? = some b) : ∃ a, as[i]? = some a ∧ R a b := by
  obtain ⟨hl, rfl⟩ := List.getElem?_eq_some_iff.mp hi
  exact h.get hl
theorem A2.getL (h : A2 R as bs) {i : Nat} (hi : as[i]? = some a) : ∃ b, bs[i]? = some b ∧ R a b := by
  induction h generalizing i with
  | nil => cases hi
  | cons h _ ih =>
    cases i with
    | zero => exact ⟨_, rfl, by cases hi; exact h⟩
    | succ i => exact ih (by simpa using hi)
theorem A2.set (h : A2 R as bs) (hr : R a b) (i : Nat) : A2 R (as.set i a) (bs.set i b) := by
  induction h generalizing i with
  | nil => exact .nil
  | cons h t ih =>
    cases i with
    | zero => exact .cons hr t
    | succ i => exact .cons h (ih i)
theorem A2.snoc (h : A2 R (as ++ [a]) bs) : ∃ q b, bs = q ++ [b] ∧ A2 R as q ∧ R a b := by
  induction as generalizing bs with
  | nil =>
    cases h with
    | cons h t =>
      cases t
      exact ⟨[], _, rfl, .nil, h⟩
  | cons x xs ih =>
    cases h with
    | cons h t =>
      obtain ⟨q, b, rfl, h1, h2⟩ := ih t
      exact ⟨_ :: q, b, rfl, .cons h h1, h2⟩
theorem A2.nil_left (h : A2 R [] bs) : bs = [] := by cases h; rfl
theorem A2.nil_right (h : A2 R as []) : as = [] := by cases h; rfl
theorem A2.mem_right (h : A2 R as bs) (hb : b ∈ bs) : ∃ a ∈ as, R a b := by
  induction h with
  | nil => cases hb
  | cons h _ ih =>
    rcases List.mem_cons.mp hb with rfl | hb
    · exact ⟨_, .head _, h⟩
    · obtain ⟨a, ha, hr⟩ := ih hb
      exact ⟨a, .tail _ ha, hr⟩
end

/-- a standing as the tuple that told() gives -/
abbrev sD (st : St) : Dat := .tuple [.int st.v, .int st.b, .tuple (st.hs.map hD)]
theorem hD_inj {a b : List (Int × Int × Int)} (h : a.map hD = b.map hD) : a = b := by
  induction a generalizing b with
  | nil => cases b with
    | nil => rfl
    | cons _ _ => simp at h
  | cons x xs ih => cases b with
    | nil => simp at h
    | cons y ys =>
      simp only [List.map_cons, List.cons.injEq] at h
      obtain ⟨h1, h2⟩ := h
      obtain ⟨x1, x2, x3⟩ := x
      obtain ⟨y1, y2, y3⟩ := y
      simp only [hD, Dat.tuple.injEq, List.cons.injEq, Dat.int.injEq, and_true] at h1
      obtain ⟨rfl, rfl, rfl⟩ := h1
      rw [ih h2]
theorem sD_inj {a b : St} : sD a = sD b ↔ a = b := by
  constructor
  · intro h
    obtain ⟨a1, a2, a3⟩ := a
    obtain ⟨b1, b2, b3⟩ := b
    simp only [sD, Dat.tuple.injEq, List.cons.injEq, Dat.int.injEq, and_true] at h
    obtain ⟨rfl, rfl, h⟩ := h
    rw [hD_inj h]
  · rintro rfl; rfl
theorem hD_ok (n : Nat) (hs : List (Int × Int × Int)) : ∀ d ∈ hs.map hD, kqdOk (n + 2) d = true := by
  intro d hd
  obtain ⟨h, _, rfl⟩ := List.mem_map.mp hd
  simp [hD, kqdOk]
theorem sD_ok (st : St) : kqdOk 8 (sD st) = true := by
  have := hD_ok 4 st.hs
  simp only [sD, kqdOk, List.all_cons, List.all_nil, Bool.and_true, Bool.true_and, List.all_eq_true]
  exact this

section
open Classical
variable {prog : Program} {w : World} {A : Around} {E : Value → Shared → Prop} {s : Shared} {h₀ : Heap} {L a b : Addr} {news : List (Addr × Obj)} {Q : Value → Shared → Prop} {u v : Value} {d e : Dat}
theorem my_dat (N : News h₀ L s.heap news) (Da : DatIn news u d) (Db : DatIn news v e) (ha : kqdOk 8 d = true) (hb : kqdOk 8 e = true) :
    ∃ as bs, Reads s.heap u (kqdP d) as ∧ Reads s.heap v (kqdP e) bs ∧ SeqAt.shaped (kqdP d) = true ∧ SeqAt.shaped (kqdP e) = true ∧ PyData.eqv (kqdP d) (kqdP e) = decide (d = e) := by
  obtain ⟨as, ra⟩ := kqd_in N 8 Da ha
  obtain ⟨bs, rb⟩ := kqd_in N 8 Db hb
  have la := kqd_lay 8 d ha
  have lb := kqd_lay 8 e hb
  refine ⟨as, bs, ra, rb, ?_, ?_, ?_⟩
  · unfold SeqAt.shaped; rw [la.1, Bool.true_and]; exact decide_eq_true (Nat.le_trans la.2 (by decide))
  · unfold SeqAt.shaped; rw [lb.1, Bool.true_and]; exact decide_eq_true (Nat.le_trans lb.2 (by decide))
  · have q := kqd_eqv 8 d e 8 ha hb
    by_cases hq : d = e
    · rw [decide_eq_true hq]; exact q.mpr hq
    · rw [decide_eq_false hq]; exact Bool.eq_false_iff.mpr fun x => hq (q.mp x)
theorem my_dat_eq (N : News h₀ L s.heap news) (Da : DatIn news u d) (Db : DatIn news v e) (ha : kqdOk 8 d = true) (hb : kqdOk 8 e = true) (hu : A.units + 64 < cLine) (h : Q (.bool (decide (d = e))) s) :
    wpAny (model prog w) A (compareOp .Eq u v) Q E s := by
  obtain ⟨as, bs, ra, rb, s1, s2, e⟩ := my_dat N Da Db ha hb
  exact eq_dataH ra rb s1 s2 hu (by rw [e]; exact h)
theorem my_dat_ne (N : News h₀ L s.heap news) (Da : DatIn news u d) (Db : DatIn news v e) (ha : kqdOk 8 d = true) (hb : kqdOk 8 e = true) (hu : A.units + 64 < cLine) (h : Q (.bool (!decide (d = e))) s) :
    wpAny (model prog w) A (compareOp .NotEq u v) Q E s := by
  obtain ⟨as, bs, ra, rb, s1, s2, e⟩ := my_dat N Da Db ha hb
  exact ne_dataH ra rb s1 s2 hu (by rw [e]; exact h)
theorem my_sD_eq {x y : St} (N : News h₀ L s.heap news) (Da : DatIn news u (sD x)) (Db : DatIn news v (sD y)) (hu : A.units + 64 < cLine) (h : Q (.bool (decide (x = y))) s) :
    wpAny (model prog w) A (compareOp .Eq u v) Q E s :=
  my_dat_eq N Da Db (sD_ok _) (sD_ok _) hu (by rw [show decide (sD x = sD y) = decide (x = y) from decide_eq_decide.mpr sD_inj]; exact h)
theorem my_sD_ne {x y : St} (N : News h₀ L s.heap news) (Da : DatIn news u (sD x)) (Db : DatIn news v (sD y)) (hu : A.units + 64 < cLine) (h : Q (.bool (!decide (x = y))) s) :
    wpAny (model prog w) A (compareOp .NotEq u v) Q E s :=
  my_dat_ne N Da Db (sD_ok _) (sD_ok _) hu (by rw [show decide (sD x = sD y) = decide (x = y) from decide_eq_decide.mpr sD_inj]; exact h)

/-- what ways(instruction, place, standing) hands back -/
noncomputable def waysF (x : Ins) (p : Int) (st : St) : Option (List (Int × St)) :=
  match afterF x st with
  | none => none
  | some l => match x.w with
    | .ret => if l = ⟨0, 0, []⟩ then some [] else none
    | .goto => some [(x.k, l)]
    | .gotoifnil => some [(p + 1, l), (x.k, l)]
    | .gotoifnilelsepop => some [(p + 1, l), (x.k, ⟨l.v + 1, l.b, l.hs⟩)]
    | .pushcatch => some [(p + 1, l), (x.k, ⟨l.v + 1, l.b, st.hs⟩)]
    | _ => some [(p + 1, l)]
/-- the walk of standings: what is known, and whether all was well -/
noncomputable def runS (code : List Ins) : Nat → List (Option St) → List (Int × St) → List (Option St) × Bool
  | 0, known, _ => (known, true)
  | n + 1, known, ws => match ws.getLast? with
    | none => (known, true)
    | some (p, st) =>
      if (known.length : Int) ≤ p then (known, false)
      else match known[p.toNat]? with
        | some (some st') => if st' = st then runS code n known ws.dropLast else (known, false)
        | _ => match code[p.toNat]? with
          | none => (known, false)
          | some x => match waysF x p st with
            | none => (known.set p.toNat (some st), false)
            | some found => runS code n (known.set p.toNat (some st)) (ws.dropLast ++ found)
end

/-- a tuple (place, standing) -/
def WIn (w : World) (news : List (Addr × Obj)) (v : Value) (q : Int × St) : Prop :=
  ∃ a t sv n, v = .ref a ∧ (a, ({ cls := .type "tuple", data := .seq [.int q.1 t, sv].toArray n } : Obj)) ∈ news ∧ StIn w news sv q.2
def KIn (w : World) (news : List (Addr × Obj)) (v : Value) : Option St → Prop
  | none => v = .none
  | some st => StIn w news v st
def IIn (news : List (Addr × Obj)) (v : Value) (x : Ins) : Prop := ∃ a t u n, v = .ref a ∧ (a, insObj x t u n) ∈ news
theorem WIn.mono {w : World} {news news' : List (Addr × Obj)} {v : Value} {q : Int × St} (hs : ∀ p ∈ news, p ∈ news') (h : WIn w news v q) : WIn w news' v q := by
  obtain ⟨a, t, sv, n, e, h1, h2⟩ := h
  exact ⟨a, t, sv, n, e, hs _ h1, h2.mono hs⟩
theorem KIn.mono {w : World} {news news' : List (Addr × Obj)} {v : Value} {q : Option St} (hs : ∀ p ∈ news, p ∈ news') (h : KIn w news v q) : KIn w news' v q := by
  cases q with
  | none => exact h
  | some st => exact StIn.mono hs h
theorem IIn.mono {news news' : List (Addr × Obj)} {v : Value} {q : Ins} (hs : ∀ p ∈ news, p ∈ news') (h : IIn news v q) : IIn news' v q := by
  obtain ⟨a, t, u, n, e, h1⟩ := h
  exact ⟨a, t, u, n, e, hs _ h1⟩
inductive WaysOut (w : World) (o : Option (List (Int × St))) (r : Value) (l : List (Addr × Obj)) : Prop where
  | none (h : o = Option.none) (hr : r = Value.none)
  | some {D : Addr} {vs : List Value} {n : Nat} {qs : List (Int × St)} (h : o = Option.some qs) (hr : r = .ref D) (hm : (D, listOf vs.toArray n) ∈ l) (hv : A2 (WIn w l) vs qs) : WaysOut w o r l
-- L
set_option maxRecDepth 100000
set_option maxHeartbeats 8000000

/-- the next turn's state -/
def TurnEnd {σ : Type} (h₀ : Heap) (L : Addr) (led : List (Addr × Obj)) (ps : σ → List (Str × Value)) (stored : List Str) (m₀ : Str → Option Value) (P : σ → Prop) (s s₃ : Shared) : Prop :=
  ∃ (c' : σ) (h' : Heap) (tk : Nat) (m' : Str → Option Value), s₃ = { s with heap := h', toks := tk } ∧ Fr h₀ L h' m' ∧ News h₀ L h' led ∧ (∀ p ∈ ps c', m' p.1 = some p.2) ∧ (∀ z, (∀ p ∈ ps c', z ≠ p.1) → stored.contains z = false → m' z = m₀ z) ∧ P c'
/-- how a turn of a for over a standing ledger ends -/
def TurnPost {σ : Type} (h₀ : Heap) (L : Addr) (led : List (Addr × Obj)) (ps : σ → List (Str × Value)) (stored : List Str) (m₀ : Str → Option Value) (P : σ → Prop) (s : Shared) (Q : Flow → Shared → Prop) (f : Flow) (s₃ : Shared) : Prop :=
  match f with
  | .ret v => Q (.ret v) s₃
  | .brk => Q .next s₃
  | _ => TurnEnd h₀ L led ps stored m₀ P s s₃
theorem turn_end {σ : Type} {h₀ h' : Heap} {L : Addr} {led : List (Addr × Obj)} {ps : σ → List (Str × Value)} {stored : List Str} {m₀ m' : Str → Option Value} {P : σ → Prop} {s : Shared} {tk : Nat} (c' : σ)
    (F : Fr h₀ L h' m') (N : News h₀ L h' led) (hk : ∀ p ∈ ps c', m' p.1 = some p.2) (hr : ∀ z, (∀ p ∈ ps c', z ≠ p.1) → stored.contains z = false → m' z = m₀ z) (hp : P c') :
    TurnEnd h₀ L led ps stored m₀ P s { s with heap := h', toks := tk } :=
  ⟨c', h', tk, m', rfl, F, N, hk, hr, hp⟩

section
variable {prog : Program} {w : World} {A : Around} {E : Value → Shared → Prop} {s : Shared} {env : Env} {h₀ : Heap} {body : List Stmt} {Q : Flow → Shared → Prop} {l : Addr} {vs : List Value} {n : Nat} {m₀ : Str → Option Value} {news : List (Addr × Obj)}

theorem my_core {σ : Type} {target : Expr} {I : Addr} {fp wr : List Addr} {k : Nat} {P' Md : Nat → Value → Heap → Prop} {St : Nat → Heap → Prop} {hp : Heap} {tk0 : Nat} (W : KTurns prog w A target I fp wr k P' Md St)
    (ps : σ → List (Str × Value)) (stored : List Str) (P : Nat → σ → Prop) (c₀ : σ)
    (hLf : env.locals ∉ fp) (hwr : ∀ b ∈ wr, h₀.get? b = none) (hnw : ∀ p ∈ news, p.1 ∉ wr) (hst : St 0 hp) (F : Fr h₀ env.locals hp m₀) (N : News h₀ env.locals hp news)
    (hk : ∀ p ∈ ps c₀, m₀ p.1 = some p.2) (hp0 : P 0 c₀)
    (turn : ∀ (c : σ) i v (u : Str → Option Value) h₁ tk₁ own, i < k → P' i v h₁ → P i c →
      Fr h₀ env.locals h₁ (kstB (fun z => if stored.contains z then u z else m₀ z) (ps c)) → News h₀ env.locals h₁ (own ++ news) →
      wpAny (model prog w) A (assign target env v) (fun _ s₃ => wpAny (model prog w) A (execs body env) (TurnPost h₀ env.locals (own ++ news) ps stored m₀ (P (i + 1)) s Q) E s₃) E { s with heap := h₁, toks := tk₁ })
    (done : ∀ (c : σ) (u : Str → Option Value) h' tk, Fr h₀ env.locals h' (kstB (fun z => if stored.contains z then u z else m₀ z) (ps c)) → News h₀ env.locals h' news → P k c → Q .next { s with heap := h', toks := tk }) :
    TurnsAt prog w A h₀ env target body Q E (.ref I) { s with heap := hp, toks := tk0 } := by
  refine ⟨I, fp, wr, k, P', Md, St, m₀, news, fun i m nx => nx = news ∧ ∃ c, (∀ p ∈ ps c, m p.1 = some p.2) ∧ (∀ z, (∀ p ∈ ps c, z ≠ p.1) → stored.contains z = false → m z = m₀ z) ∧ P i c, rfl, W, hLf, hwr, hnw, hst, F, N, ⟨rfl, c₀, hk, fun _ _ _ => rfl, hp0⟩, ?_, ?_⟩
  · rintro i v m₁ nx h₁ tk₁ own hi hv ⟨rfl, c, h1, h2, hc⟩ hnw₁ _ _ _ _ F₁ N₁
    refine wpAny_mono (turn c i v m₁ h₁ tk₁ own hi hv hc (ksw_fr h1 h2 F₁) N₁) (fun _ s₂ q => wpAny_mono q (fun f s₃ q => ?_) fun _ _ x => x) fun _ _ x => x
    cases f with
    | ret v => exact q
    | brk => exact q
    | next =>
      obtain ⟨c', h', tk', m', rfl, F', N', k1, k2, hc'⟩ := q
      exact ⟨rfl, h', tk', m', nx, rfl, F', N', hnw₁, rfl, c', k1, k2, hc'⟩
    | cont =>
      obtain ⟨c', h', tk', m', rfl, F', N', k1, k2, hc'⟩ := q
      exact ⟨rfl, h', tk', m', nx, rfl, F', N', hnw₁, rfl, c', k1, k2, hc'⟩
  · rintro h' tk m' nx F' N' _ ⟨rfl, c, h1, h2, hc⟩
    exact done c m' h' tk (ksw_fr h1 h2 F') N' hc

theorem my_list {σ : Type} {target : Expr} (ps : σ → List (Str × Value)) (stored : List Str) (P : Nat → σ → Prop) (c₀ : σ)
    (hh : A.handled = none) (F : Fr h₀ env.locals s.heap m₀) (N : News h₀ env.locals s.heap news) (hm : (l, listOf vs.toArray n) ∈ news) (hk : ∀ p ∈ ps c₀, m₀ p.1 = some p.2) (hp0 : P 0 c₀)
    (turn : ∀ (c : σ) i v (u : Str → Option Value) h₁ tk₁ own, vs[i]? = some v → P i c →
      Fr h₀ env.locals h₁ (kstB (fun z => if stored.contains z then u z else m₀ z) (ps c)) → News h₀ env.locals h₁ (own ++ news) →
      wpAny (model prog w) A (assign target env v) (fun _ s₃ => wpAny (model prog w) A (execs body env) (TurnPost h₀ env.locals (own ++ news) ps stored m₀ (P (i + 1)) s Q) E s₃) E { s with heap := h₁, toks := tk₁ })
    (done : ∀ (c : σ) (u : Str → Option Value) h' tk, Fr h₀ env.locals h' (kstB (fun z => if stored.contains z then u z else m₀ z) (ps c)) → News h₀ env.locals h' news → P vs.length c → Q .next { s with heap := h', toks := tk }) :
    wpAny (model prog w) A (pyIter (.ref l)) (fun it s₂ => TurnsAt prog w A h₀ env target body Q E it s₂) E s := by
  have hax := N _ hm
  have hl : s.heap.IsList l vs.toArray := ⟨_, hax.1, rfl, n, rfl⟩
  have hlt : l < s.heap.objs.size := Heap.lt_size hax.1
  have hne : l ≠ s.heap.objs.size := Nat.ne_of_lt hlt
  refine wpAny_pyIter_list hl ?_
  refine my_core (tk0 := s.toks) (KTurns.ofWalks (Walks.list hh s.heap.objs.size l hne vs.toArray) fun i v s Q E st q => letGo_listiter st.1 q) ps stored P c₀ ?_ (fun b hb => ?_) (fun p hp hI => ?_) ?_ (F.push _) (fun p hp => ⟨Heap.get?_push_of_some _ (N p hp).1, (N p hp).2⟩) hk hp0 ?_ ?_
  · intro hI
    rcases List.mem_cons.mp hI with e | hI
    · exact absurd F.ns.lt (e ▸ Nat.lt_irrefl _)
    · exact hax.2.1 (List.mem_singleton.mp hI).symm
  · have hb' : b = s.heap.objs.size := by simpa using hb
    rw [hb']
    exact next_is_new F
  · exact absurd (Heap.lt_size (N p hp).1) ((List.mem_singleton.mp hI) ▸ Nat.lt_irrefl _)
  · exact ⟨⟨_, Heap.get?_push_size _ rfl, rfl, rfl⟩, hl.at fun o e => Heap.get?_push_of_some _ e⟩
  · intro c i v u h₁ tk₁ own hi hv hc F₁ N₁
    have hv' : vs.toArray[i]? = some v := hv
    exact turn c i v u h₁ tk₁ own (by simpa using hv') hc F₁ N₁
  · intro c u h' tk F' N' hc
    exact done c u h' tk F' N' (by simpa using hc)

theorem my_enum {σ : Type} {elts : List Expr} {k : Nat} {pos : Pos} (ps : σ → List (Str × Value)) (stored : List Str) (P : Nat → σ → Prop) (c₀ : σ)
    (hh : A.handled = none) (F : Fr h₀ env.locals s.heap m₀) (N : News h₀ env.locals s.heap news) (hm : (l, listOf vs.toArray n) ∈ news) (hk : ∀ p ∈ ps c₀, m₀ p.1 = some p.2) (hp0 : P 0 c₀)
    (turn : ∀ (c : σ) (i : Nat) v (u : Str → Option Value) h₁ tk₁ own T t, vs[i]? = some v → P i c → IsTup h₁ T #[.int (i : Int) t, v] →
      Fr h₀ env.locals h₁ (kstB (fun z => if stored.contains z then u z else m₀ z) (ps c)) → News h₀ env.locals h₁ (own ++ news) →
      wpAny (model prog w) A (assign (.Tuple elts k pos) env (.ref T)) (fun _ s₃ => wpAny (model prog w) A (execs body env) (TurnPost h₀ env.locals (own ++ news) ps stored m₀ (P (i + 1)) s Q) E s₃) E { s with heap := h₁, toks := tk₁ })
    (done : ∀ (c : σ) (u : Str → Option Value) h' tk, Fr h₀ env.locals h' (kstB (fun z => if stored.contains z then u z else m₀ z) (ps c)) → News h₀ env.locals h' news → P vs.length c → Q .next { s with heap := h', toks := tk }) :
    wpAny (model prog w) A (call (.type "enumerate") [.ref l]) (fun xv s₁ => wpAny (model prog w) A (pyIter xv) (fun it s₂ => TurnsAt prog w A h₀ env (.Tuple elts k pos) body Q E it s₂) E s₁) E s := by
  have hax := N _ hm
  have hl : s.heap.IsList l vs.toArray := ⟨_, hax.1, rfl, n, rfl⟩
  have hlt : l < s.heap.objs.size := Heap.lt_size hax.1
  have hLs : env.locals < s.heap.objs.size := F.ns.lt
  refine call_enumerate_list hl fun h' hE hI hsz hk' => ?_
  refine wpAny_pyIter_enum hE ?_
  refine my_core (tk0 := s.toks) (KTurns.ofWalksU (WalksT.enumerate hh (s.heap.objs.size + 1) s.heap.objs.size l (Nat.succ_ne_self _) (ktu_ne 1 hlt) (Nat.ne_of_lt hlt) vs.toArray).toU) ps stored P c₀ ?_ ?_ ?_ ?_ (F.keeps hk') (N.grown hk') hk hp0 ?_ ?_
  · intro hI'
    have hb' : env.locals = s.heap.objs.size + 1 ∨ env.locals = s.heap.objs.size ∨ env.locals = l := by simpa using hI'
    rcases hb' with e | e | e
    · exact ktu_ne 1 hLs e
    · exact Nat.ne_of_lt hLs e
    · exact hax.2.1 e.symm
  · intro b hb
    have hb' : b = s.heap.objs.size + 1 ∨ b = s.heap.objs.size := by simpa using hb
    rcases hb' with rfl | rfl
    · exact ktu_new F (Nat.le_add_right _ _)
    · exact ktu_new F (Nat.le_refl _)
  · intro p hp hI'
    have hb' : p.1 = s.heap.objs.size + 1 ∨ p.1 = s.heap.objs.size := by simpa using hI'
    have hlp := Heap.lt_size (N p hp).1
    rcases hb' with e | e
    · exact ktu_ne 1 hlp e
    · exact Nat.ne_of_lt hlp e
  · exact ⟨⟨.none, hE⟩, hI, hl.at fun o e => hk' l o e⟩
  · rintro c i v u h₁ tk₁ own hi ⟨T, vals, rfl, ⟨t, x, hx, rfl⟩, hT⟩ hc F₁ N₁
    exact turn c i x u h₁ tk₁ own T t (by simpa using hx) hc hT F₁ N₁
  · intro c u h'' tk F' N' hc
    exact done c u h'' tk F' N' (by simpa using hc)
end
-- L2
set_option maxRecDepth 100000
set_option maxHeartbeats 8000000
section
variable {prog : Program} {w : World} {A : Around} {E : Value → Shared → Prop} {s : Shared} {h₀ : Heap} {L D b : Addr} {m : Str → Option Value} {news news' : List (Addr × Obj)} {us vs : List Value} {n n2 : Nat}
theorem my_setItem {v : Value} {k : Int} {t : Tok} {Q : Unit → Shared → Prop} (F : Fr h₀ L s.heap m) (N : News h₀ L s.heap news) (U : Upd D (listOf us.toArray n) (listOf (us.set k.toNat v).toArray n) news news') (h0 : 0 ≤ k) (h1 : k < (us.length : Int)) (hf : (us.length : Int) < 2 ^ 63)
    (h : ∀ h', Fr h₀ L h' m → News h₀ L h' news' → Q () { s with heap := h' }) : wpAny (model prog w) A (setItem (.ref D) (.int k t) v) Q E s := by
  obtain ⟨pre, post, rfl, rfl, a, b⟩ := U.split
  have z := N (D, listOf us.toArray n) (List.mem_append.mpr (.inr (.head _)))
  have hj : k < (us.toArray.size : Int) := by simp only [List.size_toArray]; omega
  refine ki_setAt z.1 h0 (by omega) hj (h _ (F.change (Heap.SameBut.update ..) z.2.1 z.2.2) (ki_turn _ N a b ?_ ?_))
  · show us.toArray.setIfInBounds k.toNat v = (us.set k.toNat v).toArray
    apply Array.toList_inj.mp
    simp
  · rw [if_pos (by simp)]
theorem my_item {value slice : Expr} {v : Value} {k : Int} {u : Tok} {Q : Value → Shared → Prop} (N : News h₀ L s.heap news) (hm : (D, listOf us.toArray n) ∈ news) (h0 : 0 ≤ k) (hf : k < 2 ^ 63) (hx : us[k.toNat]? = some v) (h : Q v s)
    (hs : subscripted slice false (.ref D) (.int k u) = operate [.ref D, .int k u] (getItem (.ref D) (.int k u)) := by with_unfolding_all rfl) :
    wpAny (model prog w) A (subscriptTail value slice (.ref D) (.int k u)) Q E s := by
  have hl : s.heap.IsList D us.toArray := ⟨_, (N _ hm).1, rfl, n, rfl⟩
  exact tail_any hl.typeIs slot_list_getitem.lookup (wpAny_getItem_list hl h0 hf (by simpa using hx) h) hs
theorem my_extend0 {Q : Value → Shared → Prop} (F : Fr h₀ L s.heap m) (N : News h₀ L s.heap news) (hb : (b, listOf (List.toArray []) n2) ∈ news) (U : Upd D (listOf us.toArray n) (listOf us.toArray n) news news') (hz : us.length ≤ 5000)
    (h : ∀ h', Fr h₀ L h' m → News h₀ L h' news' → Q .none { s with heap := h' }) : wpAny (model prog w) A (call (.builtin "list.extend") [.ref D, .ref b]) Q E s := by
  have e : sizeLine = 16777216 := rfl
  refine kxn_extend F N hb rfl U ?_ ?_ ?_ h
  · simp [Builtin.List.listTooLong]; omega
  · simp; omega
  · simp; omega
theorem my_extend1 {v : Value} {Q : Value → Shared → Prop} (F : Fr h₀ L s.heap m) (N : News h₀ L s.heap news) (hb : (b, listOf (List.toArray (v :: vs)) n2) ∈ news) (U : Upd D (listOf us.toArray n) (listOf (us ++ v :: vs).toArray (n + 1)) news news') (hz : us.length + vs.length ≤ 5000)
    (h : ∀ h', Fr h₀ L h' m → News h₀ L h' news' → Q .none { s with heap := h' }) : wpAny (model prog w) A (call (.builtin "list.extend") [.ref D, .ref b]) Q E s := by
  have e : sizeLine = 16777216 := rfl
  refine kl_extend F N hb rfl ?_ U ?_ ?_ ?_ h
  · simp
  · simp [Builtin.List.listTooLong]; omega
  · simp; omega
  · simp; omega
theorem my_fold (v : Value) : ∀ (k : Nat) (a : Array Value), List.foldl (fun x1 x2 => x1 ++ x2) a (List.replicate k #[v]) = a ++ (List.replicate k v).toArray
  | 0, a => by simp
  | k + 1, a => by
    rw [List.replicate_succ, List.foldl_cons, my_fold v k, List.replicate_succ]
    apply Array.toList_inj.mp
    simp
theorem my_times {v : Value} {k : Nat} {u : Tok} {Q : Value → Shared → Prop} (F : Fr h₀ L s.heap m) (N : News h₀ L s.heap news) (hm : (D, listOf #[v] n) ∈ news) (hz : k ≤ 5000)
    (h : ∀ D' h', Fr h₀ L h' m → News h₀ L h' ((D', listOf (List.replicate k v).toArray 0) :: news) → (∀ p ∈ news, p.1 < D') → Q (.ref D') { s with heap := h' }) :
    wpAny (model prog w) A (binaryOp .Mult (.ref D) (.int (k : Int) u)) Q E s := by
  refine mul_list F N (items := #[v]) (N _ hm).1 (by omega) (by omega) ?_ ?_
  · simp; omega
  · intro h' F' N'
    have e : List.foldl (fun x1 x2 => x1 ++ x2) #[] (List.replicate (if (#[v] : Array Value).isEmpty = true then 0 else ((k : Int)).toNat) #[v]) = (List.replicate k v).toArray := by
      have e0 : (if (#[v] : Array Value).isEmpty = true then 0 else ((k : Int)).toNat) = k := by simp
      rw [e0, my_fold]
      simp
    rw [e] at N'
    exact h _ _ F' N' fun p hp => Heap.lt_size (N p hp).1
end
-- L3
set_option maxRecDepth 100000
set_option maxHeartbeats 8000000
/-- the next turn's state, the ledger turned too -/
def TurnEndS {σ : Type} (h₀ : Heap) (L I : Addr) (it : Obj) (Led : σ → List (Addr × Obj)) (stored : List Str) (m₀ : Str → Option Value) (P : σ → Prop) (s s₃ : Shared) : Prop :=
  ∃ (c' : σ) (h' : Heap) (tk : Nat) (m' : Str → Option Value), s₃ = { s with heap := h', toks := tk } ∧ Fr h₀ L h' m' ∧ News h₀ L h' ((I, it) :: Led c') ∧ (∀ p ∈ Led c', p.1 ≠ I) ∧ (∀ z, (∀ p ∈ ([] : List (Str × Value)), z ≠ p.1) → stored.contains z = false → m' z = m₀ z) ∧ P c'
def TurnPostS {σ : Type} (h₀ : Heap) (L I : Addr) (it : Obj) (Led : σ → List (Addr × Obj)) (stored : List Str) (m₀ : Str → Option Value) (P : σ → Prop) (s : Shared) (Q : Flow → Shared → Prop) (f : Flow) (s₃ : Shared) : Prop :=
  match f with
  | .ret v => Q (.ret v) s₃
  | .brk => Q .next s₃
  | _ => TurnEndS h₀ L I it Led stored m₀ P s s₃
theorem turn_endS {σ : Type} {h₀ h' : Heap} {L I : Addr} {it : Obj} {Led : σ → List (Addr × Obj)} {stored : List Str} {m₀ m' : Str → Option Value} {P : σ → Prop} {s : Shared} {tk : Nat} {led : List (Addr × Obj)} (c' : σ)
    (F : Fr h₀ L h' m') (N : News h₀ L h' led) (hI : (I, it) ∈ led) (hs : ∀ p ∈ Led c', p ∈ led) (hn : ∀ p ∈ Led c', p.1 ≠ I) (hr : ∀ z, (∀ p ∈ ([] : List (Str × Value)), z ≠ p.1) → stored.contains z = false → m' z = m₀ z) (hp : P c') :
    TurnEndS h₀ L I it Led stored m₀ P s { s with heap := h', toks := tk } :=
  ⟨c', h', tk, m', rfl, F, fun p hp => by
    rcases List.mem_cons.mp hp with rfl | hp
    · exact N _ hI
    · exact N _ (hs p hp), hn, hr, hp⟩
section
variable {prog : Program} {w : World} {A : Around} {E : Value → Shared → Prop} {s : Shared} {env : Env} {h₀ : Heap} {body : List Stmt} {Q : Flow → Shared → Prop} {l : Addr} {vs : List Value} {n : Nat} {m₀ : Str → Option Value}
theorem my_listS {σ : Type} {target : Expr} (Led : σ → List (Addr × Obj)) (stored : List Str) (P : Nat → σ → Prop) (c₀ : σ)
    (hh : A.handled = none) (F : Fr h₀ env.locals s.heap m₀) (N : News h₀ env.locals s.heap (Led c₀)) (hm : ∀ i c, P i c → (l, listOf vs.toArray n) ∈ Led c) (hp0 : P 0 c₀)
    (turn : ∀ (c : σ) i v (u : Str → Option Value) h₁ tk₁ I it, vs[i]? = some v → P i c → it.cls = .type "list_iterator" → (∀ p ∈ Led c, p.1 ≠ I) →
      Fr h₀ env.locals h₁ (kstB (fun z => if stored.contains z then u z else m₀ z) []) → News h₀ env.locals h₁ ((I, it) :: Led c) →
      wpAny (model prog w) A (assign target env v) (fun _ s₃ => wpAny (model prog w) A (execs body env) (TurnPostS h₀ env.locals I it Led stored m₀ (P (i + 1)) s Q) E s₃) E { s with heap := h₁, toks := tk₁ })
    (done : ∀ (c : σ) (u : Str → Option Value) h' tk, Fr h₀ env.locals h' (kstB (fun z => if stored.contains z then u z else m₀ z) []) → News h₀ env.locals h' (Led c) → P vs.length c → Q .next { s with heap := h', toks := tk }) :
    wpAny (model prog w) A (pyIter (.ref l)) (fun it s₂ => TurnsAt prog w A h₀ env target body Q E it s₂) E s := by
  refine iter_listTurns hh F N (hm _ _ hp0) rfl rfl fun I hI => ?_
  have key : ∀ (k i : Nat) (c : σ) (m : Str → Option Value), i + k = vs.length → (∀ z, (∀ p ∈ ([] : List (Str × Value)), z ≠ p.1) → stored.contains z = false → m z = m₀ z) → (∀ p ∈ Led c, p.1 ≠ I) → P i c →
      ItemsRest prog w A E h₀ env target body Q s [(I, "list_iterator")] [(l, listOf vs.toArray n)] ((vs.drop i).map .val) m (Led c) := by
    intro k
    induction k with
    | zero =>
      intro i c m hi hr hne hp
      have e : vs.drop i = [] := List.drop_eq_nil_of_le (by omega)
      rw [e]
      intro h tk F' N'
      have hp' : P vs.length c := by have : i = vs.length := by omega
                                     rw [← this]; exact hp
      exact done c m h tk (ksw_fr (ps := []) (fun _ h => nomatch h) hr F') N' hp'
    | succ k ih =>
      intro i c m hi hr hne hp
      have hlt : i < vs.length := by omega
      rw [List.drop_eq_getElem_cons hlt, List.map_cons]
      refine ItemsRest.val fun h tk F' => AllObj.cons fun o ho => AllObj.nil fun N' => ?_
      refine wpAny_mono (turn c i vs[i] m h tk I o (List.getElem?_eq_getElem hlt) hp ho hne (ksw_fr (ps := []) (fun _ h => nomatch h) hr F') N') (fun _ s₂ q => wpAny_mono q (fun f s₃ q => ?_) fun _ _ x => x) fun _ _ x => x
      have fin : TurnEndS h₀ env.locals I o Led stored m₀ (P (i + 1)) s s₃ → UnrEndW h₀ env.locals { s with heap := h, toks := tk } [(I, o)] (fun m' n' => SubL [(l, listOf vs.toArray n)] n' ∧ ItemsRest prog w A E h₀ env target body Q s [(I, "list_iterator")] [(l, listOf vs.toArray n)] ((vs.drop (i + 1)).map .val) m' n') s₃ := by
        rintro ⟨c', h', tk', m', rfl, F₂, N₂, hn₂, hr₂, hp₂⟩
        refine ⟨h', tk', m', Led c', rfl, F₂, N₂, fun p hp q hq => ?_, ⟨hm _ _ hp₂, trivial⟩, ih (i + 1) c' m' (by omega) hr₂ hn₂ hp₂⟩
        rw [List.mem_singleton.mp hq]
        exact hn₂ p hp
      cases f with
      | ret v => exact q
      | brk => exact q
      | next => exact fin q
      | cont => exact fin q
  exact key vs.length 0 c₀ m₀ (by omega) (fun _ _ _ => rfl) (fun p hp => Nat.ne_of_lt (hI p hp)) hp0
end
-- C2
set_option maxRecDepth 100000
set_option maxHeartbeats 8000000
theorem reset2 : True := by
  w_top off
  trivial


section
variable {x : Ins} {v b : Int} {hs q q' : List (Int × Int × Int)} {g g' : Int × Int × Int}
theorem aft1 (h : v < x.need) : afterF x ⟨v, b, hs⟩ = none := by simp [afterF, h]
theorem aft2 (h : b + x.binds < 0) : afterF x ⟨v, b, hs⟩ = none := by simp [afterF, h]
variable (h1 : ¬ v < x.need) (h2 : ¬ b + x.binds < 0)
include h1 h2
theorem aft3 (h3 : 0 < x.hands) (h4 : b + x.binds < b) : afterF x ⟨v, b, hs⟩ = none := by
  have h5 : ¬ x.hands < 0 := by omega
  simp only [afterF, h1, h2, h3, h5, or_self, if_false, if_true, gt_iff_lt, List.getLast?_append, List.getLast?_singleton, Option.some_or, h4]
theorem aft4 (h3 : 0 < x.hands) (h4 : ¬ b + x.binds < b) : afterF x ⟨v, b, hs⟩ = some ⟨v - x.pop + x.push, b + x.binds, hs ++ [(v - x.pop + x.push, b, x.k)]⟩ := by
  have h5 : ¬ x.hands < 0 := by omega
  simp only [afterF, h1, h2, h3, h5, or_self, if_false, if_true, gt_iff_lt, List.getLast?_append, List.getLast?_singleton, Option.some_or, h4]
theorem aft5 (h3 : x.hands < 0) (e : hs = []) : afterF x ⟨v, b, hs⟩ = none := by
  have h5 : ¬ 0 < x.hands := by omega
  subst e
  simp [afterF, h1, h2, h3, h5]
theorem aft6 (h3 : x.hands < 0) (e : hs = q ++ [g]) (h4 : ¬ g.2.1 = b) : afterF x ⟨v, b, hs⟩ = none := by
  have h5 : ¬ 0 < x.hands := by omega
  subst e
  simp [afterF, h1, h2, h3, h5, h4]
theorem aft7 (h3 : x.hands < 0) (e : hs = q ++ [g]) (h4 : g.2.1 = b) (e' : q = []) : afterF x ⟨v, b, hs⟩ = some ⟨v - x.pop + x.push, b + x.binds, q⟩ := by
  have h5 : ¬ 0 < x.hands := by omega
  subst e e'
  simp [afterF, h1, h2, h3, h5, h4]
theorem aft8 (h3 : x.hands < 0) (e : hs = q ++ [g]) (h4 : g.2.1 = b) (e' : q = q' ++ [g']) (h6 : b + x.binds < g'.2.1) : afterF x ⟨v, b, hs⟩ = none := by
  have h5 : ¬ 0 < x.hands := by omega
  subst e e'
  simp only [afterF, h1, h2, h3, h5, or_self, if_false, if_true, List.getLast?_append, List.getLast?_singleton, Option.some_or, h4, ne_eq, not_true_eq_false, List.dropLast_concat, h6]
theorem aft9 (h3 : x.hands < 0) (e : hs = q ++ [g]) (h4 : g.2.1 = b) (e' : q = q' ++ [g']) (h6 : ¬ b + x.binds < g'.2.1) : afterF x ⟨v, b, hs⟩ = some ⟨v - x.pop + x.push, b + x.binds, q⟩ := by
  have h5 : ¬ 0 < x.hands := by omega
  subst e e'
  simp only [afterF, h1, h2, h3, h5, or_self, if_false, if_true, List.getLast?_append, List.getLast?_singleton, Option.some_or, h4, ne_eq, not_true_eq_false, List.dropLast_concat, h6]
theorem aft10 (h3 : ¬ 0 < x.hands) (h4 : ¬ x.hands < 0) (e : hs = []) : afterF x ⟨v, b, hs⟩ = some ⟨v - x.pop + x.push, b + x.binds, hs⟩ := by
  subst e
  simp [afterF, h1, h2, h3, h4]
theorem aft11 (h3 : ¬ 0 < x.hands) (h4 : ¬ x.hands < 0) (e : hs = q ++ [g]) (h6 : b + x.binds < g.2.1) : afterF x ⟨v, b, hs⟩ = none := by
  subst e
  simp [afterF, h1, h2, h3, h4, h6]
theorem aft12 (h3 : ¬ 0 < x.hands) (h4 : ¬ x.hands < 0) (e : hs = q ++ [g]) (h6 : ¬ b + x.binds < g.2.1) : afterF x ⟨v, b, hs⟩ = some ⟨v - x.pop + x.push, b + x.binds, hs⟩ := by
  subst e
  simp [afterF, h1, h2, h3, h4, h6]
end
section
variable {prog : Program} {w : World} {A : Around} {E : Value → Shared → Prop} {s : Shared} {h₀ : Heap} {L D : Addr} {m : Str → Option Value} {news news' : List (Addr × Obj)} {Q : Value → Shared → Prop}
theorem my_pop {us : List Value} {y : Value} {n : Nat} (F : Fr h₀ L s.heap m) (N : News h₀ L s.heap news) (U : Upd D (listOf (us ++ [y]).toArray n) (listOf us.toArray (n + 1)) news news')
    (hz : (us ++ [y]).length ≤ sizeLine) (h : ∀ h', Fr h₀ L h' m → News h₀ L h' news' → Q y { s with heap := h' }) : wpAny (model prog w) A (call (.builtin "list.pop") [.ref D]) Q E s :=
  kl_pop F N (my_kl_last us y) U hz h
theorem my_popE {vs us : List Value} {y : Value} {n : Nat} (e : vs = us ++ [y]) (F : Fr h₀ L s.heap m) (N : News h₀ L s.heap news) (U : Upd D (listOf vs.toArray n) (listOf us.toArray (n + 1)) news news')
    (hz : vs.length ≤ sizeLine) (h : ∀ h', Fr h₀ L h' m → News h₀ L h' news' → Q y { s with heap := h' }) : wpAny (model prog w) A (call (.builtin "list.pop") [.ref D]) Q E s := by
  subst e
  exact my_pop F N U hz h
theorem my_split {core : List (Addr × Obj)} {vs : List Value} {hs : List (Int × Int × Int)} {P : Prop} (d : DatAll core vs (hs.map hD)) (t : vs = [] → hs = [] → P)
    (f : ∀ us q g a t1 t2 t3 n, vs = us ++ [.ref a] → hs = q ++ [g] → DatAll core us (q.map hD) → (a, ({ cls := .type "tuple", data := .seq [.int g.1 t1, .int g.2.1 t2, .int g.2.2 t3].toArray n } : Obj)) ∈ core → DatIn core (.ref a) (hD g) → P) : P :=
  hs_cases (P := fun vs' hs' => vs = vs' → hs = hs' → P) d (fun _ e1 e2 => t e1 e2) (fun us q g a t1 t2 t3 n h1 h2 h3 e1 e2 => f us q g a t1 t2 t3 n e1 e2 h1 h2 h3) rfl rfl
theorem my_eq_split {core : List (Addr × Obj)} {vs : List Value} {hs : List (Int × Int × Int)} {l b : Addr} {n n' : Nat} (N : News h₀ L s.heap news) (hm : (l, listOf vs.toArray n) ∈ news) (hb : (b, listOf (List.toArray []) n') ∈ news) (hu : A.units < cLine)
    (d : DatAll core vs (hs.map hD)) (t : vs = [] → hs = [] → Q (.bool true) s)
    (f : ∀ us q g a t1 t2 t3 n, vs = us ++ [.ref a] → hs = q ++ [g] → DatAll core us (q.map hD) → (a, ({ cls := .type "tuple", data := .seq [.int g.1 t1, .int g.2.1 t2, .int g.2.2 t3].toArray n } : Obj)) ∈ core → DatIn core (.ref a) (hD g) → Q (.bool false) s) :
    wpAny (model prog w) A (compareOp .Eq (.ref l) (.ref b)) Q E s :=
  my_split d (fun e1 e2 => my_eq_nil_t N (e1 ▸ hm) hb hu (t e1 e2)) fun us q g a t1 t2 t3 n e1 e2 h1 h2 h3 => my_eq_nil_f N hm hb (by simp [e1]) hu (f us q g a t1 t2 t3 n e1 e2 h1 h2 h3)
theorem my_ne_split {core : List (Addr × Obj)} {vs : List Value} {hs : List (Int × Int × Int)} {l b : Addr} {n n' : Nat} (N : News h₀ L s.heap news) (hm : (l, listOf vs.toArray n) ∈ news) (hb : (b, listOf (List.toArray []) n') ∈ news) (hu : A.units < cLine)
    (d : DatAll core vs (hs.map hD)) (t : vs = [] → hs = [] → Q (.bool false) s)
    (f : ∀ us q g a t1 t2 t3 n, vs = us ++ [.ref a] → hs = q ++ [g] → DatAll core us (q.map hD) → (a, ({ cls := .type "tuple", data := .seq [.int g.1 t1, .int g.2.1 t2, .int g.2.2 t3].toArray n } : Obj)) ∈ core → DatIn core (.ref a) (hD g) → Q (.bool true) s) :
    wpAny (model prog w) A (compareOp .NotEq (.ref l) (.ref b)) Q E s :=
  my_split d (fun e1 e2 => my_ne_nil_f N (e1 ▸ hm) hb hu (t e1 e2)) fun us q g a t1 t2 t3 n e1 e2 h1 h2 h3 => my_ne_nil_t N hm hb (by simp [e1]) hu (f us q g a t1 t2 t3 n e1 e2 h1 h2 h3)
theorem my_nz_of {vs us : List Value} {v : Value} (e : vs = us ++ [v]) : vs.toArray.size ≠ 0 := by simp [e]
theorem my_sz_of {vs us : List Value} {v : Value} (e : vs = us ++ [v]) : 0 < vs.toArray.size := by simp [e]
theorem my_at_of {vs us : List Value} {v : Value} (e : vs = us ++ [v]) : vs.toArray[vs.toArray.size - 1]? = some v := by subst e; simp
theorem standing_ret {v b : Int} {tv tb : Tok} {hl : Addr} (k : ∀ tl x dx t1 t2 t3 h' tk', Fr h₀ L h' m → News h₀ L h' (tl ++ news) → Above news tl → (x, instObj 266 dx) ∈ tl →
      (dx, dictOf [⟨PyData.keyHash w.params (Str.ofString "values"), .str (Str.ofString "values") t1, .int v tv⟩, ⟨PyData.keyHash w.params (Str.ofString "bindings"), .str (Str.ofString "bindings") t2, .int b tb⟩, ⟨PyData.keyHash w.params (Str.ofString "handlers"), .str (Str.ofString "handlers") t3, .ref hl⟩] 3) ∈ tl → Q (.ref x) { s with heap := h', toks := tk' }) :
    ∀ r news' h' tk', Fr h₀ L h' m → News h₀ L h' news' → (∃ tl x dx t1 t2 t3, news' = tl ++ news ∧ Above news tl ∧ (x, instObj 266 dx) ∈ tl ∧
      (dx, dictOf [⟨PyData.keyHash w.params (Str.ofString "values"), .str (Str.ofString "values") t1, .int v tv⟩, ⟨PyData.keyHash w.params (Str.ofString "bindings"), .str (Str.ofString "bindings") t2, .int b tb⟩, ⟨PyData.keyHash w.params (Str.ofString "handlers"), .str (Str.ofString "handlers") t3, .ref hl⟩] 3) ∈ tl ∧ r = .ref x) →
      Q r { s with heap := h', toks := tk' } := fun r news' h' tk' F N P => by
  obtain ⟨tl, x, dx, t1, t2, t3, rfl, h1, h2, h3, rfl⟩ := P
  exact k tl x dx t1 t2 t3 h' tk' F N h1 h2 h3
end
theorem linesC2_0 : True := by
  k_with_none
  (k_with "m compareOp Eq ref ref" => (k_here; (with_reducible show wpAny _ _ (compareOp CmpOp.Eq (Value.ref _) (Value.ref _)) _ _ _); k_dflt (refine' my_eq_split ?sN ?sa ?sb ?su ?sd (fun e1 e2 => ?_) (fun us q g ag tg1 tg2 tg3 ng e1 e2 h5 hmg hdg => have hmgn := hsub _ hmg; ?_); (case sN => k_asm); (case sa => k_mem); (case sb => k_mem); (case su => ktr_units); (case sd => assumption))))
  (k_with "m compareOp NotEq ref ref" => (k_here; (with_reducible show wpAny _ _ (compareOp CmpOp.NotEq (Value.ref _) (Value.ref _)) _ _ _); k_dflt (refine' my_ne_split ?sN ?sa ?sb ?su ?sd (fun e1 e2 => ?_) (fun us q g ag tg1 tg2 tg3 ng e1 e2 h5 hmg hdg => have hmgn := hsub _ hmg; ?_); (case sN => k_asm); (case sa => k_mem); (case sb => k_mem); (case su => ktr_units); (case sd => assumption))))
  (k_with "m subscriptTail" => (k_here; (with_reducible show wpAny _ _ (subscriptTail _ _ (Value.ref 90) (Value.str (Wd.str _) _)) _ _ _); k_dflt (refine' rows_item ?F ?X ?_; (case F => k_asm); (case X => k_asm)); intro a t0 t1 t2 t3 t4 hrow; dsimp only))
  (k_with "m subscriptTail" => (k_here; (with_reducible show wpAny _ _ (subscriptTail _ _ (Value.ref _) (Value.int _ _)) _ _ _); k_dflt (refine' topTup_K ?F ?X ?l ?a ?b ?c ?d ?_; (case F => k_asm); (case X => k_asm); (case l => assumption); (case a => decide); (case b => decide); (case c => rfl); (case d => rfl); k_whole)))
  (k_with "m subscriptTail" => (k_here; (with_reducible show wpAny _ _ (subscriptTail _ _ (Value.ref _) (Value.int (-1) _)) _ _ _); k_dflt (refine' my_last ?N ?m ?z ?x ?_; (case N => k_asm); (case m => k_mem); (case z => first | exact my_sz | exact my_sz_push | exact my_sz_of (by assumption)); (case x => first | exact my_at | exact my_at_push | exact my_at_of (by assumption)); k_whole)))
  (k_with "m subscriptTail Name UnaryOp ref int" => (k_here; (with_reducible show wpAny _ _ (subscriptTail _ _ (Value.ref _) (Value.int (-1) _)) _ _ _); k_dflt (refine' my_last ?N ?m ?z ?x ?_; (case N => k_asm); (case m => k_mem); (case z => first | exact my_sz | exact my_sz_push | exact my_sz_of (by assumption)); (case x => first | exact my_at | exact my_at_push | exact my_at_of (by assumption)); k_whole)))
  (k_with "m ite" => (refine ite_neg (wd_plain _) ?_))
  (k_with "m mem" => (first | exact List.mem_cons_self | (refine List.mem_cons_of_mem _ ?_; walk_at "mem") | (refine List.mem_append_left _ ?_; walk_at "mem") | (refine List.mem_append_right _ ?_; walk_at "mem") | ktr_member | assumption))
  (k_with "m room" => (ktr_room))
  (k_with "m sub" => (first | exact fun _ h => h | (refine fun p hp => List.mem_cons_of_mem _ ((?_ : ∀ p, _ → _) p hp); walk_at "sub") | (refine fun p hp => List.mem_append_right _ ((?_ : ∀ p, _ → _) p hp); walk_at "sub") | (refine fun p hp => List.mem_append_left _ ((?_ : ∀ p, _ → _) p hp); walk_at "sub")))
  (k_with "m con start" => (intro dp un gd cn cs a ccd cl outer A₀ base h₀ L m s mean mg mb Q E B F X N T hk hdp hun hret; (refine wpAny_call ?_); k_dflt ktr_enter))
  (k_with "m nz" => (first | exact my_nz | exact my_nz_push | exact my_nz_of (by assumption)))
  (k_with "m compareOp Eq ref ref" => (k_here; (with_reducible show wpAny _ _ (compareOp CmpOp.Eq (Value.ref _) (Value.ref _)) _ _ _); first | k_dflt (refine' my_eq_nil_t ?N ?a ?b ?u ?_; (case N => k_asm); (case a => k_mem); (case b => k_mem); (case u => ktr_units)) | k_dflt (refine' my_eq_nil_f ?N ?a ?b ?z ?u ?_; (case N => k_asm); (case a => k_mem); (case b => k_mem); (case z => walk_at "nz"); (case u => ktr_units))))
  (k_with "m compareOp NotEq ref ref" => (k_here; (with_reducible show wpAny _ _ (compareOp CmpOp.NotEq (Value.ref _) (Value.ref _)) _ _ _); first | k_dflt (refine' my_ne_nil_f ?N ?a ?b ?u ?_; (case N => k_asm); (case a => k_mem); (case b => k_mem); (case u => ktr_units)) | k_dflt (refine' my_ne_nil_t ?N ?a ?b ?z ?u ?_; (case N => k_asm); (case a => k_mem); (case b => k_mem); (case z => walk_at "nz"); (case u => ktr_units))))
  (k_with "m alllt" => (first | assumption | exact allLt_of (by assumption) | exact ⟨by assumption, AllLt.up (by assumption) (by walk_at "alllt")⟩))
  (k_with "m grow" => (first | exact Grow.refl _ | (refine Grow.cons ?_ ?_; (walk_at "grow"); (k_dflt walk_at "alllt")) | (refine Grow.app ?_ ?_; (walk_at "grow"); assumption) | assumption))
  (k_with "m grow2" => (first | exact Grow2.refl _ _ | (apply Grow2.cons; (walk_at "grow2"); (k_dflt walk_at "alllt")) | (apply Grow2.app; (walk_at "grow2"); assumption)))
  (k_with "m call ref" => (k_here; (with_reducible show wpAny _ _ (call (Value.ref 214) [Value.ref _]) _ _ _); k_dflt (refine' con_use ?k1 ?k2 ?k3 ?k4 ?k5 ?kK (popped _ _ _ _ _ _ _ ?km) ?kd ?ku (pure_ret ?_); (case k1 => k_asm); (case k2 => k_asm); (case k3 => k_asm); (case k4 => k_asm); (case k5 => k_asm); (case kK => first | exact rfl | assumption); (case km => k_mem); (case kd => ktr_room); (case ku => ktr_units); intro t9 h9 tk9 F9 N9; (try dsimp only))))
  (k_with "m call ref" => (k_here; (with_reducible show wpAny _ _ (call (Value.ref 221) [Value.ref _]) _ _ _); k_dflt (refine' con_use ?k1 ?k2 ?k3 ?k4 ?k5 ?kK (pushed _ _ _ _ _ _ _ ?km) ?kd ?ku (pure_ret ?_); (case k1 => k_asm); (case k2 => k_asm); (case k3 => k_asm); (case k4 => k_asm); (case k5 => k_asm); (case kK => first | exact rfl | assumption); (case km => k_mem); (case kd => ktr_room); (case ku => ktr_units); intro t9 h9 tk9 F9 N9; (try dsimp only))))
  (k_with "m call ref" => (k_here; (with_reducible show wpAny _ _ (call (Value.ref 228) [Value.ref _]) _ _ _); k_dflt (refine' con_use ?k1 ?k2 ?k3 ?k4 ?k5 ?kK (needed _ _ _ _ _ _ _ ?km) ?kd ?ku (pure_ret ?_); (case k1 => k_asm); (case k2 => k_asm); (case k3 => k_asm); (case k4 => k_asm); (case k5 => k_asm); (case kK => first | exact rfl | assumption); (case km => k_mem); (case kd => ktr_room); (case ku => ktr_units); intro t9 h9 tk9 F9 N9; (try dsimp only))))
  (k_with "m call ref" => (k_here; (with_reducible show wpAny _ _ (call (Value.ref 235) [Value.ref _]) _ _ _); k_dflt (refine' con_use ?k1 ?k2 ?k3 ?k4 ?k5 ?kK (bindings_made _ _ _ _ _ _ _ ?km) ?kd ?ku (pure_ret ?_); (case k1 => k_asm); (case k2 => k_asm); (case k3 => k_asm); (case k4 => k_asm); (case k5 => k_asm); (case kK => first | exact rfl | assumption); (case km => k_mem); (case kd => ktr_room); (case ku => ktr_units); intro t9 h9 tk9 F9 N9; (try dsimp only))))
  (k_with "m call ref" => (k_here; (with_reducible show wpAny _ _ (call (Value.ref 242) [Value.ref _]) _ _ _); k_dflt (refine' con_use ?k1 ?k2 ?k3 ?k4 ?k5 ?kK (handlers_made _ _ _ _ _ _ _ ?km) ?kd ?ku (pure_ret ?_); (case k1 => k_asm); (case k2 => k_asm); (case k3 => k_asm); (case k4 => k_asm); (case k5 => k_asm); (case kK => first | exact rfl | assumption); (case km => k_mem); (case kd => ktr_room); (case ku => ktr_units); intro t9 h9 tk9 F9 N9; (try dsimp only))))
  (k_with "m size" => first | kl_room | ((have : sizeLine = 16777216 := rfl); (try simp only [List.size_toArray, List.length_append, List.length_cons, List.length_nil]); omega))
  (k_with "m sizel" => ((have : sizeLine = 16777216 := rfl); omega))
  (k_with "m call type:list" => (k_here; (with_reducible show wpAny _ _ (call (Value.type "list") [Value.ref _]) _ _ _); k_dflt (refine' list_copyK ?k1 ?k2 ?k3 ?_ ?z; (case k1 => k_asm); (case k2 => k_asm); (case k3 => exact ⟨_, (News.get (by k_asm) (by k_mem)), rfl, _, rfl⟩); (case z => walk_at "size")); intro D' c' h' F' N' l1; (try k_lt l1); (try k_sweep)))
  (k_with "m call builtin:list.pop" => (k_here; (with_reducible show wpAny _ _ (call (Value.builtin "list.pop") [Value.ref _]) _ _ _); k_dflt (refine' my_popE ?pe ?F ?N ?U ?z ?_; (case pe => assumption); (case F => k_asm); (case N => k_asm); (case U => k_upd); (case z => first | kl_room | walk_at "sizel")); intro h' F' N'))
  (k_with "m fact" => with_reducible assumption)
  (k_with "m aft" => first | exact aft1 (by walk_at "fact") | exact aft2 (by walk_at "fact") | exact aft3 (by walk_at "fact") (by walk_at "fact") (by walk_at "fact") (by walk_at "fact") | exact aft4 (by walk_at "fact") (by walk_at "fact") (by walk_at "fact") (by walk_at "fact") | exact aft5 (by walk_at "fact") (by walk_at "fact") (by walk_at "fact") (by walk_at "fact") | exact aft7 (by walk_at "fact") (by walk_at "fact") (by walk_at "fact") (by walk_at "fact") (by walk_at "fact") (by walk_at "fact") | exact aft9 (by walk_at "fact") (by walk_at "fact") (by walk_at "fact") (by walk_at "fact") (by walk_at "fact") (by walk_at "fact") (by walk_at "fact") | exact aft8 (by walk_at "fact") (by walk_at "fact") (by walk_at "fact") (by walk_at "fact") (by walk_at "fact") (by walk_at "fact") (by walk_at "fact") | exact aft6 (by walk_at "fact") (by walk_at "fact") (by walk_at "fact") (by walk_at "fact") (by walk_at "fact") | exact aft10 (by walk_at "fact") (by walk_at "fact") (by walk_at "fact") (by walk_at "fact") (by walk_at "fact") | exact aft12 (by walk_at "fact") (by walk_at "fact") (by walk_at "fact") (by walk_at "fact") (by walk_at "fact") (by walk_at "fact") | exact aft11 (by walk_at "fact") (by walk_at "fact") (by walk_at "fact") (by walk_at "fact") (by walk_at "fact") (by walk_at "fact"))
  (k_with "m dmono" => (refine' DatAll.mono ?ds ?dh; (case dh => assumption); (case ds => walk_at "sub")))
  (k_with "m datall" => first | exact DatAll.nil | walk_at "dmono" | (refine' DatAll.snocR ?dp ?dq; (case dq => exact hs_of (by k_mem)); (case dp => walk_at "datall")) | (refine' DatAll.cons ?dp ?dq; (case dp => exact hs_of (by k_mem)); (case dq => walk_at "datall")))
  (k_with "m stin" => (refine' StIn.mk rfl ?m1 ?m2 ?m3 ?m4; (case m1 => k_mem); (case m2 => k_mem); (case m3 => k_mem); (case m4 => walk_at "datall")))
  (k_with "m aftend" => first | exact hret _ _ _ _ (by k_asm) (by k_asm) ⟨_, by walk_at "grow2", .none (by walk_at "aft") rfl⟩ | exact hret _ _ _ _ (by k_asm) (by k_asm) ⟨_, by walk_at "grow2", .some _ (by walk_at "aft") (by walk_at "stin")⟩)
  trivial
theorem above2 {news : List (Addr × Obj)} {x d : Addr} {o o' : Obj} (h : AllLt d news) (l : @LT.lt Nat _ d x) : Above news [(x, o), (d, o')] := by
  intro q hq p hp
  have e := ktn_ltOf h q hq
  rcases List.mem_cons.mp hp with rfl | hp
  · exact Nat.lt_trans e l
  · rw [List.mem_singleton.mp hp]; exact e
theorem standing_new (w : World) (news : List (Addr × Obj)) (v b : Int) (tv tb : Tok) (hl : Addr) :
    Con w 3 266 [.int v tv, .int b tb, .ref hl] news (fun r news' => ∃ tl x dx t1 t2 t3, news' = tl ++ news ∧ Above news tl ∧ (x, instObj 266 dx) ∈ tl ∧
      (dx, dictOf [⟨PyData.keyHash w.params (Str.ofString "values"), .str (Str.ofString "values") t1, .int v tv⟩, ⟨PyData.keyHash w.params (Str.ofString "bindings"), .str (Str.ofString "bindings") t2, .int b tb⟩, ⟨PyData.keyHash w.params (Str.ofString "handlers"), .str (Str.ofString "handlers") t3, .ref hl⟩] 3) ∈ tl ∧ r = .ref x) := by
  intro dp un gd cn cs a ccd cl outer A₀ base h₀ L m s mean mg mb Q E B F X N T hk hdp hun hret
  k_dflt (refine' call_cls ?k1 ?k2 ?k3 ?k4 ?k5 ?k6 ?_; (case k1 => k_asm); (case k2 => k_asm); (case k3 => k_asm); (case k4 => k_is); (case k5 => k_is); (case k6 => k_is); k_whole; intro x' d' h' F' N' l1 l2; (try k_lt l1); (try k_lt2 l2); ktr_enter)
  k_steps
  exact hret _ _ _ _ (by k_asm) (by k_asm) ⟨[_, _], x', d', _, _, _, rfl, above2 (by walk_at "alllt") (by assumption), .head _, .tail _ (.head _), rfl⟩
theorem linesC2_1 : True := by
  (k_with "m call ref" => (k_here; (with_reducible show wpAny _ _ (call (Value.ref 266) [Value.int _ _, Value.int _ _, Value.ref _]) _ _ _); k_dflt (refine' con_use ?k1 ?k2 ?k3 ?k4 ?k5 ?kK (standing_new _ _ _ _ _ _ _) ?kd ?ku (standing_ret ?_); (case k1 => k_asm); (case k2 => k_asm); (case k3 => k_asm); (case k4 => k_asm); (case k5 => k_asm); (case kK => first | exact rfl | assumption); (case kd => ktr_room); (case ku => ktr_units); intro tl6 x6 dx6 t61 t62 t63 h9 tk9 F9 N9 ha6 hx6 hdx6; skip)))
  trivial
theorem after_ (w : World) (news core : List (Addr × Obj)) (hsub : ∀ p ∈ core, p ∈ news) (i : Addr) (x : Ins) (t u : Tok) (n : Nat) (hm : (i, insObj x t u n) ∈ news) (v : Value) (st : St) (hst : StIn w core v st) (hlen : st.hs.length < 1000) :
    Con w 8 291 [.ref i, v] news (fun r news' => ∃ core', Grow2 core news core' news' ∧ StOut w (afterF x st) r core') := by
  obtain ⟨v0, b0, hs⟩ := st
  obtain @⟨a1, dx, hl, vs, nn, tv, tb, t1, t2, t3, rfl, h1, h2, h3, h4⟩ := hst
  have hl9 : vs.length < 1000 := by have e := h4.length; simp only [List.length_map] at e; simp only at hlen; omega
  clear hlen
  dsimp only at h2 h4
  have h1n := hsub _ h1
  have h2n := hsub _ h2
  have h3n := hsub _ h3
  walk_at "con start"
  k_steps
  all_goals walk_at "aftend"
section
variable {w : World} {s : Shared} {h₀ : Heap} {L : Addr} {m : Str → Option Value} {news core : List (Addr × Obj)} {Q : Value → Shared → Prop}
/-- the two ends of a call of after -/
theorem after_ret {o : Option St} (N : Nat) (hsub : ∀ p ∈ core, p ∈ news) (hN : ∀ l, o = some l → l.hs.length ≤ N)
    (kn : ∀ tl h' tk', Fr h₀ L h' m → News h₀ L h' (tl ++ news) → Above news tl → o = none → Q .none { s with heap := h', toks := tk' })
    (ks : ∀ tl v b hs x dx hl vs n tv tb t1 t2 t3 h' tk', Fr h₀ L h' m → News h₀ L h' (tl ++ news) → Above news tl → o = some ⟨v, b, hs⟩ → StIn w (tl ++ core) (.ref x) ⟨v, b, hs⟩ → StIn w (tl ++ news) (.ref x) ⟨v, b, hs⟩ → (x, instObj 266 dx) ∈ tl ++ news →
      (dx, dictOf [⟨PyData.keyHash w.params (Str.ofString "values"), .str (Str.ofString "values") t1, .int v tv⟩, ⟨PyData.keyHash w.params (Str.ofString "bindings"), .str (Str.ofString "bindings") t2, .int b tb⟩, ⟨PyData.keyHash w.params (Str.ofString "handlers"), .str (Str.ofString "handlers") t3, .ref hl⟩] 3) ∈ tl ++ news →
      (hl, listOf vs.toArray n) ∈ tl ++ core → (hl, listOf vs.toArray n) ∈ tl ++ news → DatAll (tl ++ core) vs (hs.map hD) → hs.length ≤ N → Q (.ref x) { s with heap := h', toks := tk' }) :
    ∀ r news' h' tk', Fr h₀ L h' m → News h₀ L h' news' → (∃ core', Grow2 core news core' news' ∧ StOut w o r core') → Q r { s with heap := h', toks := tk' } := fun r news' h' tk' F N P => by
  obtain ⟨c, ⟨tl, rfl, rfl, ha⟩, h⟩ := P
  have hs8 : ∀ p ∈ tl ++ core, p ∈ tl ++ news := fun p hp => (List.mem_append.mp hp).elim (fun h => List.mem_append_left _ h) (fun h => List.mem_append_right _ (hsub p h))
  rcases h with ⟨h, rfl⟩ | ⟨⟨v, b, hs⟩, h, hr⟩
  · exact kn tl h' tk' F N ha h
  · have hr' := hr
    obtain ⟨rfl, g1, g2, g3, g4⟩ := hr
    exact ks tl v b hs _ _ _ _ _ _ _ _ _ _ h' tk' F N ha h hr' (hr'.mono hs8) (hs8 _ g1) (hs8 _ g2) g3 (hs8 _ g3) g4 (hN _ h)
end
-- C3
set_option maxRecDepth 100000
set_option maxHeartbeats 8000000
theorem reset3 : True := by
  w_top off
  trivial

theorem linesC3_0 : True := by
  k_with_none
  (k_with "m subscriptTail" => (k_here; (with_reducible show wpAny _ _ (subscriptTail _ _ (Value.ref 90) (Value.str (Wd.str _) _)) _ _ _); k_dflt (refine' rows_item ?F ?X ?_; (case F => k_asm); (case X => k_asm)); intro a t0 t1 t2 t3 t4 hrow; dsimp only))
  (k_with "m subscriptTail" => (k_here; (with_reducible show wpAny _ _ (subscriptTail _ _ (Value.ref _) (Value.int _ _)) _ _ _); k_dflt (refine' topTup_K ?F ?X ?l ?a ?b ?c ?d ?_; (case F => k_asm); (case X => k_asm); (case l => assumption); (case a => decide); (case b => decide); (case c => rfl); (case d => rfl); k_whole)))
  (k_with "m subscriptTail" => (k_here; (with_reducible show wpAny _ _ (subscriptTail _ _ (Value.ref _) (Value.int (-1) _)) _ _ _); k_dflt (refine' my_last ?N ?m ?z ?x ?_; (case N => k_asm); (case m => k_mem); (case z => first | exact my_sz | exact my_sz_push); (case x => first | exact my_at | exact my_at_push); k_whole)))
  (k_with "m subscriptTail Name UnaryOp ref int" => (k_here; (with_reducible show wpAny _ _ (subscriptTail _ _ (Value.ref _) (Value.int (-1) _)) _ _ _); k_dflt (refine' my_last ?N ?m ?z ?x ?_; (case N => k_asm); (case m => k_mem); (case z => first | exact my_sz | exact my_sz_push); (case x => first | exact my_at | exact my_at_push); k_whole)))
  (k_with "m ite" => (refine ite_neg (wd_plain _) ?_))
  (k_with "m mem" => (first | exact List.mem_cons_self | (refine List.mem_cons_of_mem _ ?_; walk_at "mem") | (refine List.mem_append_left _ ?_; walk_at "mem") | (refine List.mem_append_right _ ?_; walk_at "mem") | ktr_member | assumption))
  (k_with "m room" => (ktr_room))
  (k_with "m sub" => (first | exact fun _ h => h | (refine fun p hp => List.mem_cons_of_mem _ ((?_ : ∀ p, _ → _) p hp); walk_at "sub") | (refine fun p hp => List.mem_append_right _ ((?_ : ∀ p, _ → _) p hp); walk_at "sub") | (refine fun p hp => List.mem_append_left _ ((?_ : ∀ p, _ → _) p hp); walk_at "sub")))
  (k_with "m con start" => (intro dp un gd cn cs a ccd cl outer A₀ base h₀ L m s mean mg mb Q E B F X N T hk hdp hun hret; (refine wpAny_call ?_); k_dflt ktr_enter))
  (k_with "m nz" => (first | exact my_nz | exact my_nz_push))
  (k_with "m compareOp Eq ref ref" => (k_here; (with_reducible show wpAny _ _ (compareOp CmpOp.Eq (Value.ref _) (Value.ref _)) _ _ _); first | k_dflt (refine' my_eq_nil_t ?N ?a ?b ?u ?_; (case N => k_asm); (case a => k_mem); (case b => k_mem); (case u => ktr_units)) | k_dflt (refine' my_eq_nil_f ?N ?a ?b ?z ?u ?_; (case N => k_asm); (case a => k_mem); (case b => k_mem); (case z => walk_at "nz"); (case u => ktr_units))))
  (k_with "m compareOp NotEq ref ref" => (k_here; (with_reducible show wpAny _ _ (compareOp CmpOp.NotEq (Value.ref _) (Value.ref _)) _ _ _); first | k_dflt (refine' my_ne_nil_f ?N ?a ?b ?u ?_; (case N => k_asm); (case a => k_mem); (case b => k_mem); (case u => ktr_units)) | k_dflt (refine' my_ne_nil_t ?N ?a ?b ?z ?u ?_; (case N => k_asm); (case a => k_mem); (case b => k_mem); (case z => walk_at "nz"); (case u => ktr_units))))
  (k_with "m alllt" => (first | assumption | exact allLt_of (by assumption) | exact ⟨by assumption, AllLt.up (by assumption) (by walk_at "alllt")⟩))
  (k_with "m grow" => (first | exact Grow.refl _ | (refine Grow.cons ?_ ?_; (walk_at "grow"); (k_dflt walk_at "alllt")) | (refine Grow.app ?_ ?_; (walk_at "grow"); assumption) | assumption))
  (k_with "m grow2" => (first | exact Grow2.refl _ _ | (apply Grow2.cons; (walk_at "grow2"); (k_dflt walk_at "alllt")) | (apply Grow2.app; (walk_at "grow2"); assumption)))
  (k_with "m call ref" => (k_here; (with_reducible show wpAny _ _ (call (Value.ref 214) [Value.ref _]) _ _ _); k_dflt (refine' con_use ?k1 ?k2 ?k3 ?k4 ?k5 ?kK (popped _ _ _ _ _ _ _ ?km) ?kd ?ku (pure_ret ?_); (case k1 => k_asm); (case k2 => k_asm); (case k3 => k_asm); (case k4 => k_asm); (case k5 => k_asm); (case kK => first | exact rfl | assumption); (case km => k_mem); (case kd => ktr_room); (case ku => ktr_units); intro t9 h9 tk9 F9 N9; (try dsimp only))))
  (k_with "m call ref" => (k_here; (with_reducible show wpAny _ _ (call (Value.ref 221) [Value.ref _]) _ _ _); k_dflt (refine' con_use ?k1 ?k2 ?k3 ?k4 ?k5 ?kK (pushed _ _ _ _ _ _ _ ?km) ?kd ?ku (pure_ret ?_); (case k1 => k_asm); (case k2 => k_asm); (case k3 => k_asm); (case k4 => k_asm); (case k5 => k_asm); (case kK => first | exact rfl | assumption); (case km => k_mem); (case kd => ktr_room); (case ku => ktr_units); intro t9 h9 tk9 F9 N9; (try dsimp only))))
  (k_with "m call ref" => (k_here; (with_reducible show wpAny _ _ (call (Value.ref 228) [Value.ref _]) _ _ _); k_dflt (refine' con_use ?k1 ?k2 ?k3 ?k4 ?k5 ?kK (needed _ _ _ _ _ _ _ ?km) ?kd ?ku (pure_ret ?_); (case k1 => k_asm); (case k2 => k_asm); (case k3 => k_asm); (case k4 => k_asm); (case k5 => k_asm); (case kK => first | exact rfl | assumption); (case km => k_mem); (case kd => ktr_room); (case ku => ktr_units); intro t9 h9 tk9 F9 N9; (try dsimp only))))
  (k_with "m call ref" => (k_here; (with_reducible show wpAny _ _ (call (Value.ref 235) [Value.ref _]) _ _ _); k_dflt (refine' con_use ?k1 ?k2 ?k3 ?k4 ?k5 ?kK (bindings_made _ _ _ _ _ _ _ ?km) ?kd ?ku (pure_ret ?_); (case k1 => k_asm); (case k2 => k_asm); (case k3 => k_asm); (case k4 => k_asm); (case k5 => k_asm); (case kK => first | exact rfl | assumption); (case km => k_mem); (case kd => ktr_room); (case ku => ktr_units); intro t9 h9 tk9 F9 N9; (try dsimp only))))
  (k_with "m call ref" => (k_here; (with_reducible show wpAny _ _ (call (Value.ref 242) [Value.ref _]) _ _ _); k_dflt (refine' con_use ?k1 ?k2 ?k3 ?k4 ?k5 ?kK (handlers_made _ _ _ _ _ _ _ ?km) ?kd ?ku (pure_ret ?_); (case k1 => k_asm); (case k2 => k_asm); (case k3 => k_asm); (case k4 => k_asm); (case k5 => k_asm); (case kK => first | exact rfl | assumption); (case km => k_mem); (case kd => ktr_room); (case ku => ktr_units); intro t9 h9 tk9 F9 N9; (try dsimp only))))
  (k_with "m call type:tuple" => (k_here; (with_reducible show wpAny _ _ (call (Value.type "tuple") [Value.ref _]) _ _ _); k_dflt (refine' kde_tupleOf ?k1 ?k2 ?k3 ?k4 ?k5 ?_; (case k1 => k_asm); (case k2 => k_asm); (case k3 => exact ⟨_, (News.get (by k_asm) (by k_mem)), rfl, _, rfl⟩); (case k4 => (simp only [List.size_toArray]; omega)); (case k5 => exact rfl)); intro D' h' F' N' l1; (try k_lt l1); (try k_sweep)))
  trivial
theorem told_ (w : World) (news : List (Addr × Obj)) (v : Value) (st : St) (hst : StIn w news v st) (hlen : st.hs.length < 1000) :
    Con w 2 263 [v] news (fun r news' => Grow news news' ∧ ∃ D, r = .ref D ∧ DatIn news' (.ref D) (sD st)) := by
  obtain ⟨v0, b0, hs⟩ := st
  obtain @⟨a1, dx, hl, vs, nn, tv, tb, t1, t2, t3, rfl, h1, h2, h3, h4⟩ := hst
  have hl9 : vs.length < 1000 := by have e := h4.length; simp only [List.length_map] at e; simp only at hlen; omega
  clear hlen
  dsimp only at h2 h4
  walk_at "con start"
  k_steps
  exact hret _ _ _ _ (by k_asm) (by k_asm) ⟨by walk_at "grow", _, rfl, .tuple (by k_mem) (.cons (.int _ _) (.cons (.int _ _) (.cons (.tuple (by k_mem) (h4.mono (by walk_at "sub"))) .nil)))⟩
-- C4
set_option maxRecDepth 100000
set_option maxHeartbeats 8000000
theorem reset4 : True := by
  w_top off
  trivial


def Wd.other : Wd → Bool
  | .ret | .goto | .gotoifnil | .gotoifnilelsepop | .pushcatch => false
  | _ => true
/-- the first test of a word parts all six ways -/
theorem ite_six {x : Wd} {A B : Prop} (a1 : x = .ret → A) (a2 : x = .goto → B) (a3 : x = .gotoifnil → B) (a4 : x = .gotoifnilelsepop → B) (a5 : x = .pushcatch → B) (a6 : x.other = true → B) :
    if (x.str == Str.ofString "return") = true then A else B := by
  cases x
  case ret => exact ite_pos (by decide +kernel) (a1 rfl)
  case goto => exact ite_neg (by decide +kernel) (a2 rfl)
  case gotoifnil => exact ite_neg (by decide +kernel) (a3 rfl)
  case gotoifnilelsepop => exact ite_neg (by decide +kernel) (a4 rfl)
  case pushcatch => exact ite_neg (by decide +kernel) (a5 rfl)
  all_goals exact ite_neg (by decide +kernel) (a6 rfl)
section
variable {x y : Wd} (e : x = y) {z : Str} {l : List Str}
include e
theorem wd_is (h : (y.str == z) = true) : (x.str == z) = true := e ▸ h
theorem wd_isn (h : ¬ (y.str == z) = true) : ¬ (x.str == z) = true := e ▸ h
theorem wd_any (h : (l.any fun u => u == y.str) = true) : (l.any fun u => u == x.str) = true := e ▸ h
theorem wd_anyn (h : ¬ (l.any fun u => u == y.str) = true) : ¬ (l.any fun u => u == x.str) = true := e ▸ h
end
section
variable {x : Wd} (h : x.other = true)
include h
theorem wd_o1 : ¬ ((x.str == Str.ofString "return") = true) := by cases x <;> first | (exact absurd h (by decide)) | decide +kernel
theorem wd_o2 : ¬ ((x.str == Str.ofString "goto") = true) := by cases x <;> first | (exact absurd h (by decide)) | decide +kernel
theorem wd_o3 : ¬ (([Str.ofString "gotoifnil", Str.ofString "gotoifnonnil"].any fun y => y == x.str) = true) := by cases x <;> first | (exact absurd h (by decide)) | decide +kernel
theorem wd_o4 : ¬ (([Str.ofString "gotoifnilelsepop", Str.ofString "gotoifnonnilelsepop"].any fun y => y == x.str) = true) := by cases x <;> first | (exact absurd h (by decide)) | decide +kernel
theorem wd_o5 : ¬ (([Str.ofString "pushcatch", Str.ofString "pushcondition"].any fun y => y == x.str) = true) := by cases x <;> first | (exact absurd h (by decide)) | decide +kernel
theorem waysF_other {k p : Int} {st l : St} (o : afterF ⟨x, k⟩ st = some l) : waysF ⟨x, k⟩ p st = some [(p + 1, l)] := by
  unfold waysF
  rw [o]
  cases x <;> first | (exact absurd h (by decide)) | rfl
end
theorem afterF_len {x : Ins} {st l : St} (h : afterF x st = some l) : l.hs.length ≤ st.hs.length + 1 := by
  have hd : ∀ l : List (Int × Int × Int), l.dropLast.length ≤ l.length := fun l => by simp
  unfold afterF at h
  dsimp only at h
  split at h
  · exact absurd h (by simp)
  · split at h
    · exact absurd h (by simp)
    · rename_i hs he
      have h2 : hs.length ≤ st.hs.length + 1 := by
        split at he
        · split at he
          · exact absurd he (by simp)
          · split at he
            · exact absurd he (by simp)
            · obtain rfl := Option.some.inj he
              refine Nat.le_trans (hd _) ?_
              split <;> simp
        · obtain rfl := Option.some.inj he
          split <;> simp
      split at h
      · obtain rfl := Option.some.inj h; exact h2
      · split at h
        · exact absurd h (by simp)
        · obtain rfl := Option.some.inj h; exact h2
section
variable {xw : Wd} {k p v b : Int} {hs : List (Int × Int × Int)} {st : St}
theorem waysF_goto (e : xw = .goto) (o : afterF ⟨xw, k⟩ st = some ⟨v, b, hs⟩) : waysF ⟨xw, k⟩ p st = some [(k, ⟨v, b, hs⟩)] := by subst e; unfold waysF; rw [o]
theorem waysF_nil (e : xw = .gotoifnil) (o : afterF ⟨xw, k⟩ st = some ⟨v, b, hs⟩) : waysF ⟨xw, k⟩ p st = some [(p + 1, ⟨v, b, hs⟩), (k, ⟨v, b, hs⟩)] := by subst e; unfold waysF; rw [o]
theorem waysF_pop (e : xw = .gotoifnilelsepop) (o : afterF ⟨xw, k⟩ st = some ⟨v, b, hs⟩) : waysF ⟨xw, k⟩ p st = some [(p + 1, ⟨v, b, hs⟩), (k, ⟨v + 1, b, hs⟩)] := by subst e; unfold waysF; rw [o]
theorem waysF_catch (e : xw = .pushcatch) (o : afterF ⟨xw, k⟩ st = some ⟨v, b, hs⟩) : waysF ⟨xw, k⟩ p st = some [(p + 1, ⟨v, b, hs⟩), (k, ⟨v + 1, b, st.hs⟩)] := by subst e; unfold waysF; rw [o]
open Classical in
theorem waysF_ret (e : xw = .ret) (o : afterF ⟨xw, k⟩ st = some ⟨v, b, hs⟩) (h : (⟨v, b, hs⟩ : St) = ⟨0, 0, []⟩) : waysF ⟨xw, k⟩ p st = some [] := by subst e; unfold waysF; rw [o]; simp only; exact if_pos h
open Classical in
theorem waysF_ret' (e : xw = .ret) (o : afterF ⟨xw, k⟩ st = some ⟨v, b, hs⟩) (h : ¬ (⟨v, b, hs⟩ : St) = ⟨0, 0, []⟩) : waysF ⟨xw, k⟩ p st = none := by subst e; unfold waysF; rw [o]; simp only; exact if_neg h
end
theorem waysF_none {x : Ins} {p : Int} {st : St} (o : afterF x st = none) : waysF x p st = none := by
  unfold waysF
  rw [o]
theorem linesC4_0 : True := by
  k_with_none
  (k_with "m subscriptTail" => (k_here; (with_reducible show wpAny _ _ (subscriptTail _ _ (Value.ref 90) (Value.str (Wd.str _) _)) _ _ _); k_dflt (refine' rows_item ?F ?X ?_; (case F => k_asm); (case X => k_asm)); intro a t0 t1 t2 t3 t4 hrow; dsimp only))
  (k_with "m subscriptTail" => (k_here; (with_reducible show wpAny _ _ (subscriptTail _ _ (Value.ref _) (Value.int _ _)) _ _ _); k_dflt (refine' topTup_K ?F ?X ?l ?a ?b ?c ?d ?_; (case F => k_asm); (case X => k_asm); (case l => assumption); (case a => decide); (case b => decide); (case c => rfl); (case d => rfl); k_whole)))
  (k_with "m subscriptTail" => (k_here; (with_reducible show wpAny _ _ (subscriptTail _ _ (Value.ref _) (Value.int (-1) _)) _ _ _); k_dflt (refine' my_last ?N ?m ?z ?x ?_; (case N => k_asm); (case m => k_mem); (case z => first | exact my_sz | exact my_sz_push); (case x => first | exact my_at | exact my_at_push); k_whole)))
  (k_with "m subscriptTail Name UnaryOp ref int" => (k_here; (with_reducible show wpAny _ _ (subscriptTail _ _ (Value.ref _) (Value.int (-1) _)) _ _ _); k_dflt (refine' my_last ?N ?m ?z ?x ?_; (case N => k_asm); (case m => k_mem); (case z => first | exact my_sz | exact my_sz_push); (case x => first | exact my_at | exact my_at_push); k_whole)))
  (k_with "m ite" => (refine ite_neg (wd_plain _) ?_))
  (k_with "m mem" => (first | exact List.mem_cons_self | (refine List.mem_cons_of_mem _ ?_; walk_at "mem") | (refine List.mem_append_left _ ?_; walk_at "mem") | (refine List.mem_append_right _ ?_; walk_at "mem") | ktr_member | assumption))
  (k_with "m room" => (ktr_room))
  (k_with "m sub" => (first | exact fun _ h => h | (refine fun p hp => List.mem_cons_of_mem _ ((?_ : ∀ p, _ → _) p hp); walk_at "sub") | (refine fun p hp => List.mem_append_right _ ((?_ : ∀ p, _ → _) p hp); walk_at "sub") | (refine fun p hp => List.mem_append_left _ ((?_ : ∀ p, _ → _) p hp); walk_at "sub")))
  (k_with "m con start" => (intro dp un gd cn cs a ccd cl outer A₀ base h₀ L m s mean mg mb Q E B F X N T hk hdp hun hret; (refine wpAny_call ?_); k_dflt ktr_enter))
  (k_with "m nz" => (first | exact my_nz | exact my_nz_push))
  (k_with "m compareOp Eq ref ref" => (k_here; (with_reducible show wpAny _ _ (compareOp CmpOp.Eq (Value.ref _) (Value.ref _)) _ _ _); first | k_dflt (refine' my_eq_nil_t ?N ?a ?b ?u ?_; (case N => k_asm); (case a => k_mem); (case b => k_mem); (case u => ktr_units)) | k_dflt (refine' my_eq_nil_f ?N ?a ?b ?z ?u ?_; (case N => k_asm); (case a => k_mem); (case b => k_mem); (case z => walk_at "nz"); (case u => ktr_units))))
  (k_with "m compareOp NotEq ref ref" => (k_here; (with_reducible show wpAny _ _ (compareOp CmpOp.NotEq (Value.ref _) (Value.ref _)) _ _ _); first | k_dflt (refine' my_ne_nil_f ?N ?a ?b ?u ?_; (case N => k_asm); (case a => k_mem); (case b => k_mem); (case u => ktr_units)) | k_dflt (refine' my_ne_nil_t ?N ?a ?b ?z ?u ?_; (case N => k_asm); (case a => k_mem); (case b => k_mem); (case z => walk_at "nz"); (case u => ktr_units))))
  (k_with "m alllt" => (first | assumption | exact allLt_of (by assumption) | exact ⟨by assumption, AllLt.up (by assumption) (by walk_at "alllt")⟩))
  (k_with "m grow" => (first | exact Grow.refl _ | (refine Grow.cons ?_ ?_; (walk_at "grow"); (k_dflt walk_at "alllt")) | (refine Grow.app ?_ ?_; (walk_at "grow"); assumption) | assumption))
  (k_with "m grow2" => (first | exact Grow2.refl _ _ | (apply Grow2.cons; (walk_at "grow2"); (k_dflt walk_at "alllt")) | (apply Grow2.app; (walk_at "grow2"); assumption)))
  (k_with "m call ref" => (k_here; (with_reducible show wpAny _ _ (call (Value.ref 214) [Value.ref _]) _ _ _); k_dflt (refine' con_use ?k1 ?k2 ?k3 ?k4 ?k5 ?kK (popped _ _ _ _ _ _ _ ?km) ?kd ?ku (pure_ret ?_); (case k1 => k_asm); (case k2 => k_asm); (case k3 => k_asm); (case k4 => k_asm); (case k5 => k_asm); (case kK => first | exact rfl | assumption); (case km => k_mem); (case kd => ktr_room); (case ku => ktr_units); intro t9 h9 tk9 F9 N9; (try dsimp only))))
  (k_with "m call ref" => (k_here; (with_reducible show wpAny _ _ (call (Value.ref 221) [Value.ref _]) _ _ _); k_dflt (refine' con_use ?k1 ?k2 ?k3 ?k4 ?k5 ?kK (pushed _ _ _ _ _ _ _ ?km) ?kd ?ku (pure_ret ?_); (case k1 => k_asm); (case k2 => k_asm); (case k3 => k_asm); (case k4 => k_asm); (case k5 => k_asm); (case kK => first | exact rfl | assumption); (case km => k_mem); (case kd => ktr_room); (case ku => ktr_units); intro t9 h9 tk9 F9 N9; (try dsimp only))))
  (k_with "m call ref" => (k_here; (with_reducible show wpAny _ _ (call (Value.ref 228) [Value.ref _]) _ _ _); k_dflt (refine' con_use ?k1 ?k2 ?k3 ?k4 ?k5 ?kK (needed _ _ _ _ _ _ _ ?km) ?kd ?ku (pure_ret ?_); (case k1 => k_asm); (case k2 => k_asm); (case k3 => k_asm); (case k4 => k_asm); (case k5 => k_asm); (case kK => first | exact rfl | assumption); (case km => k_mem); (case kd => ktr_room); (case ku => ktr_units); intro t9 h9 tk9 F9 N9; (try dsimp only))))
  (k_with "m call ref" => (k_here; (with_reducible show wpAny _ _ (call (Value.ref 235) [Value.ref _]) _ _ _); k_dflt (refine' con_use ?k1 ?k2 ?k3 ?k4 ?k5 ?kK (bindings_made _ _ _ _ _ _ _ ?km) ?kd ?ku (pure_ret ?_); (case k1 => k_asm); (case k2 => k_asm); (case k3 => k_asm); (case k4 => k_asm); (case k5 => k_asm); (case kK => first | exact rfl | assumption); (case km => k_mem); (case kd => ktr_room); (case ku => ktr_units); intro t9 h9 tk9 F9 N9; (try dsimp only))))
  (k_with "m call ref" => (k_here; (with_reducible show wpAny _ _ (call (Value.ref 242) [Value.ref _]) _ _ _); k_dflt (refine' con_use ?k1 ?k2 ?k3 ?k4 ?k5 ?kK (handlers_made _ _ _ _ _ _ _ ?km) ?kd ?ku (pure_ret ?_); (case k1 => k_asm); (case k2 => k_asm); (case k3 => k_asm); (case k4 => k_asm); (case k5 => k_asm); (case kK => first | exact rfl | assumption); (case km => k_mem); (case kd => ktr_room); (case ku => ktr_units); intro t9 h9 tk9 F9 N9; (try dsimp only))))
  (k_with "m smono" => (refine' StIn.mono ?ss ?sh; (case sh => assumption); (case ss => walk_at "sub")))
  (k_with "m dmono" => (refine' DatAll.mono ?ds ?dh; (case dh => assumption); (case ds => walk_at "sub")))
  (k_with "m datall" => first | exact DatAll.nil | walk_at "dmono")
  (k_with "m stin" => (refine' StIn.mk rfl ?m1 ?m2 ?m3 ?m4; (case m1 => k_mem); (case m2 => k_mem); (case m3 => k_mem); (case m4 => walk_at "datall")))
  (k_with "m smono" => first | exact StIn.mono (by walk_at "sub") hr8 | exact StIn.mono (by walk_at "sub") hr7)
  (k_with "m len" => first | assumption | ((try dsimp only); omega))
  (k_with "m dinm" => (refine' DatIn.mono ?dis ?dih; (case dih => assumption); (case dis => walk_at "sub")))
  (k_with "m win" => exact ⟨_, _, _, _, rfl, by k_mem, by first | walk_at "smono" | walk_at "stin"⟩)
  (k_with "m call ref" => (k_here; (with_reducible show wpAny _ _ (call (Prod.fst _) _) _ _ _); k_dflt (show wpAny _ _ (call (Value.ref 263) [Value.ref _]) _ _ _); k_dflt (refine' con_use ?k1 ?k2 ?k3 ?k4 ?k5 ?kK (told_ _ _ _ _ ?ks ?kl) ?kd ?ku ?_; (case k1 => k_asm); (case k2 => k_asm); (case k3 => k_asm); (case k4 => k_asm); (case k5 => k_asm); (case kK => first | exact rfl | assumption); (case ks => walk_at "smono"); (case kl => walk_at "len"); (case kd => ktr_room); (case ku => ktr_units); intro r9 n9 h9 tk9 F9 N9 P9; obtain ⟨⟨tl9, rfl, ha9⟩, D9, rfl, hd9⟩ := P9)))
  (k_with "m call ref" => (k_here; (with_reducible show wpAny _ _ (call (Value.ref 291) [Value.ref _, Value.ref _]) _ _ _); k_dflt (refine' con_use ?k1 ?k2 ?k3 ?k4 ?k5 ?kK (after_ _ _ _ ?kb _ _ _ _ _ ?km _ _ ?ks ?kl) ?kd ?ku (after_ret (hs.length + 1) hsub ?aN (fun tl8 h9 tk9 F9 N9 ha8 o9 => ?_) (fun tl8 v9 b9 hs9 x9 dx9 hl9 vs9 n9 tv9 tb9 t91 t92 t93 h9 tk9 F9 N9 ha8 o9 hr8 hr7 g1n g2n g3 g3n g4 hlen3 => ?_)); (case k1 => k_asm); (case k2 => k_asm); (case k3 => k_asm); (case k4 => k_asm); (case k5 => k_asm); (case kK => first | exact rfl | assumption); (case km => k_mem); (case ks => assumption); (case kb => assumption); (case kl => walk_at "len"); (case aN => exact fun _ e => afterF_len e); (case kd => ktr_room); (case ku => ktr_units); skip)))
  (k_with "m ite" => first | refine ite_pos (by ((try dsimp only); decide +kernel)) ?_ | refine ite_neg (by ((try dsimp only); decide +kernel)) ?_ | refine ite_pos (wd_is (by assumption) (by decide +kernel)) ?_ | refine ite_neg (wd_isn (by assumption) (by decide +kernel)) ?_ | refine ite_pos (wd_any (by assumption) (by decide +kernel)) ?_ | refine ite_neg (wd_anyn (by assumption) (by decide +kernel)) ?_ | refine ite_neg (wd_o1 (by assumption)) ?_ | refine ite_neg (wd_o2 (by assumption)) ?_ | refine ite_neg (wd_o3 (by assumption)) ?_ | refine ite_neg (wd_o4 (by assumption)) ?_ | refine ite_neg (wd_o5 (by assumption)) ?_ | refine ite_six (fun hxw => ?_) (fun hxw => ?_) (fun hxw => ?_) (fun hxw => ?_) (fun hxw => ?_) (fun hxw => ?_))
  (k_with "m compareOp Eq ref ref" => (k_here; (with_reducible show wpAny _ _ (compareOp CmpOp.Eq (Value.ref _) (Value.ref _)) _ _ _); k_dflt (refine' my_sD_eq (y := ⟨0, 0, []⟩) ?N ?a ?b ?u ?_; (case N => k_asm); (case a => walk_at "dinm"); (case b => exact .tuple (by k_mem) (.cons (.int _ _) (.cons (.int _ _) (.cons (.tuple (by k_mem) .nil) .nil)))); (case u => ktr_units))))
  (k_with "m none" => exact hret _ _ _ _ (by k_asm) (by k_asm) ⟨_, by walk_at "grow2", .none (waysF_none (by assumption)) rfl⟩)
  (k_with "m one" => exact hret _ _ _ _ (by k_asm) (by k_asm) ⟨_, by walk_at "grow2", .some (by first | exact waysF_goto (by assumption) (by assumption) | exact waysF_other (by assumption) (by assumption)) rfl (by k_mem) (.cons (by walk_at "win") .nil)⟩)
  (k_with "m two" => exact hret _ _ _ _ (by k_asm) (by k_asm) ⟨_, by walk_at "grow2", .some (by first | exact waysF_nil (by assumption) (by assumption) | exact waysF_pop (by assumption) (by assumption) | exact waysF_catch (by assumption) (by assumption)) rfl (by k_mem) (.cons (by walk_at "win") (.cons (by walk_at "win") .nil))⟩)
  trivial
theorem ways_ (w : World) (news core : List (Addr × Obj)) (hsub : ∀ p ∈ core, p ∈ news) (i : Addr) (x : Ins) (t u : Tok) (n : Nat) (hm : (i, insObj x t u n) ∈ news) (p : Int) (pt : Tok) (v : Value) (st : St) (hst : StIn w core v st) (hlen : st.hs.length < 999) :
    Con w 12 298 [.ref i, .int p pt, v] news (fun r news' => ∃ core', Grow2 core news core' news' ∧ WaysOut w (waysF x p st) r core') := by
  obtain ⟨v0, b0, hs⟩ := st
  have hst0 := hst
  obtain @⟨a1, dx, hl, vs, nn, tv, tb, t1, t2, t3, rfl, h1, h2, h3, h4⟩ := hst
  dsimp only at h2 h4 hlen
  have h1n := hsub _ h1
  have h2n := hsub _ h2
  have h3n := hsub _ h3
  have hlen2 : hs.length < 1000 := by omega
  obtain ⟨xw, xk⟩ := x
  walk_at "con start"
  k_steps
  · walk_at "none"
  · exact hret _ _ _ _ (by k_asm) (by k_asm) ⟨_, by walk_at "grow2", .some (waysF_ret (by assumption) (by assumption) (by first | assumption | exact @of_decide_eq_true _ (Classical.propDecidable _) (by assumption))) rfl (by k_mem) .nil⟩
  · exact hret _ _ _ _ (by k_asm) (by k_asm) ⟨_, by walk_at "grow2", .none (waysF_ret' (by assumption) (by assumption) (by first | assumption | exact @of_decide_eq_false _ (Classical.propDecidable _) (by assumption))) rfl⟩
  · walk_at "one"
  · walk_at "two"
  · walk_at "two"
  · walk_at "two"
  · walk_at "one"
-- C5
set_option maxRecDepth 100000
set_option maxHeartbeats 8000000
theorem reset5 : True := by
  w_top off
  trivial


section
variable {w : World} {A : Around} {E : Value → Shared → Prop} {s : Shared} {h₀ : Heap} {L : Addr} {m : Str → Option Value}
theorem topNotIn_K {K : Frag} {prog : Program} {a : Addr} {es : Array DictEntry} {n : Nat} {x : Str} {t : Tok} {r : Option Value} {Q : Value → Shared → Prop} (F : Fr h₀ L s.heap m) (X₀ : K.In h₀) (hl : K.lookup a = some ⟨.type "dict", none, .dict es n, #[]⟩) (hk : KeysLit w.params es.toList) (e : nsIn K a x = some r) (lo : (a == sysModules) = false)
    (h : Q (.bool (!r.isSome)) { s with toks := s.toks + 1 }) : wpAny (model prog w) A (compareOp .NotIn (.str x t) (.ref a)) Q E s :=
  wpAny_notIn_of (strKind_is prog w x t) lo (mapOf_K (prog := prog) (X₀.keeps F.keep) hl hk) (by rw [find_K hl e]; exact h)
theorem rows_notin {x : Wd} {t : Tok} {Q : Value → Shared → Prop} (F : Fr h₀ L s.heap m) (X₀ : (hd.heap_1 w.params).In h₀) (h : Q (.bool false) { s with toks := s.toks + 1 }) :
    wpAny (model PySem.Challenge.rw_np0044_01.row.prog w) A (compareOp .NotIn (.str x.str t) (.ref 90)) Q E s := by
  obtain ⟨a, t0, t1, t2, t3, t4, h1, h2⟩ := row_K w x
  refine' topNotIn_K F X₀ ?l ?k h1 ?o h
  (case l => k_is)
  (case k => k_keys)
  (case o => decide)
end
section
variable {prog : Program} {w : World} {A : Around} {E : Value → Shared → Prop} {s : Shared} {h₀ : Heap} {L l : Addr} {news : List (Addr × Obj)} {Q : Value → Shared → Prop}
theorem my_len {us : List Value} {n k : Nat} (N : News h₀ L s.heap news) (hm : (l, listOf us.toArray n) ∈ news) (he : us.length = k) (hfit : (k : Int) < 2 ^ 63)
    (h : Q (.int (k : Int) (s.toks + 1)) { s with toks := s.toks + 1 + 1 }) : wpAny (model prog w) A (call (.builtin "len") [.ref l]) Q E s := by
  have hl : s.heap.IsList l us.toArray := ⟨_, (N _ hm).1, rfl, n, rfl⟩
  have e : us.toArray.size = k := by rw [List.size_toArray, he]
  exact len_list hl (by rw [e]; exact hfit) (by rw [e]; exact h)
end
theorem gen_toks {M : Model} {A : Around} {α : Type} {x : Sem α} {Q : α → Shared → Prop} {E : Value → Shared → Prop} {h : Heap} {g : _} {d : _} {o : _} {X : Nat} (H : ∀ t, wpAny M A x Q E { heap := h, gens := g, drawn := d, toks := t, os := o }) : wpAny M A x Q E { heap := h, gens := g, drawn := d, toks := X, os := o } := H X
def Ins.bad (x : Ins) (m : Int) : Prop := x.w.sort = Str.ofString "place" ∧ m ≤ x.k
def Ins.ok (x : Ins) (m : Int) : Prop :=
  match x.w with
  | .ret | .discard | .dup | .pophandler => x.k = -1
  | .const | .varbind | .unbind | .call | .stackref => 0 ≤ x.k ∧ x.k < 3
  | _ => 0 ≤ x.k ∧ x.k ≤ m
inductive FnIn (w : World) (news : List (Addr × Obj)) (v : Value) (xs : List Ins) (d : Int) : Prop where
  | mk {fx fd cl kl : Addr} {nd nc nk : Nat} {vs ks : List Value} {t1 t2 t3 t4 t5 t6 tf td : Tok} (hv : v = .ref fx) (h1 : (fx, instObj 198 fd) ∈ news)
    (h2 : (fd, dictOf [⟨PyData.keyHash w.params (Str.ofString "title"), .str (Str.ofString "title") t1, .str (Str.ofString "f") tf⟩, ⟨PyData.keyHash w.params (Str.ofString "told"), .str (Str.ofString "told") t2, .none⟩, ⟨PyData.keyHash w.params (Str.ofString "code"), .str (Str.ofString "code") t3, .ref cl⟩, ⟨PyData.keyHash w.params (Str.ofString "constants"), .str (Str.ofString "constants") t4, .ref kl⟩, ⟨PyData.keyHash w.params (Str.ofString "depth"), .str (Str.ofString "depth") t5, .int d td⟩, ⟨PyData.keyHash w.params (Str.ofString "interactive"), .str (Str.ofString "interactive") t6, .none⟩] nd) ∈ news)
    (h3 : (cl, listOf vs.toArray nc) ∈ news) (h4 : A2 (IIn news) vs xs) (h5 : (kl, listOf ks.toArray nk) ∈ news) (h6 : ks.length = 3) : FnIn w news v xs d
theorem FnIn.mono {w : World} {news news' : List (Addr × Obj)} {v : Value} {xs : List Ins} {d : Int} (hs : ∀ p ∈ news, p ∈ news') (h : FnIn w news v xs d) : FnIn w news' v xs d := by
  obtain ⟨hv, h1, h2, h3, h4, h5, h6⟩ := h
  exact ⟨hv, hs _ h1, hs _ h2, hs _ h3, h4.mono (fun _ _ h => h.mono hs), hs _ h5, h6⟩
theorem linesC5_0 : True := by
  k_with_none
  (k_with "m subscriptTail" => (k_here; (with_reducible show wpAny _ _ (subscriptTail _ _ (Value.ref 90) (Value.str (Wd.str _) _)) _ _ _); k_dflt (refine' rows_item ?F ?X ?_; (case F => k_asm); (case X => k_asm)); intro a t0 t1 t2 t3 t4 hrow; dsimp only))
  (k_with "m subscriptTail" => (k_here; (with_reducible show wpAny _ _ (subscriptTail _ _ (Value.ref _) (Value.int _ _)) _ _ _); k_dflt (refine' topTup_K ?F ?X ?l ?a ?b ?c ?d ?_; (case F => k_asm); (case X => k_asm); (case l => assumption); (case a => decide); (case b => decide); (case c => rfl); (case d => rfl); k_whole)))
  (k_with "m subscriptTail" => (k_here; (with_reducible show wpAny _ _ (subscriptTail _ _ (Value.ref _) (Value.int (-1) _)) _ _ _); k_dflt (refine' my_last ?N ?m ?z ?x ?_; (case N => k_asm); (case m => k_mem); (case z => first | exact my_sz | exact my_sz_push); (case x => first | exact my_at | exact my_at_push); k_whole)))
  (k_with "m subscriptTail Name UnaryOp ref int" => (k_here; (with_reducible show wpAny _ _ (subscriptTail _ _ (Value.ref _) (Value.int (-1) _)) _ _ _); k_dflt (refine' my_last ?N ?m ?z ?x ?_; (case N => k_asm); (case m => k_mem); (case z => first | exact my_sz | exact my_sz_push); (case x => first | exact my_at | exact my_at_push); k_whole)))
  (k_with "m ite" => (refine ite_neg (wd_plain _) ?_))
  (k_with "m mem" => (first | exact List.mem_cons_self | (refine List.mem_cons_of_mem _ ?_; walk_at "mem") | (refine List.mem_append_left _ ?_; walk_at "mem") | (refine List.mem_append_right _ ?_; walk_at "mem") | ktr_member | assumption))
  (k_with "m room" => (ktr_room))
  (k_with "m sub" => (first | exact fun _ h => h | (refine fun p hp => List.mem_cons_of_mem _ ((?_ : ∀ p, _ → _) p hp); walk_at "sub") | (refine fun p hp => List.mem_append_right _ ((?_ : ∀ p, _ → _) p hp); walk_at "sub") | (refine fun p hp => List.mem_append_left _ ((?_ : ∀ p, _ → _) p hp); walk_at "sub")))
  (k_with "m con start" => (intro dp un gd cn cs a ccd cl outer A₀ base h₀ L m s mean mg mb Q E B F X N T hk hdp hun hret; (refine wpAny_call ?_); k_dflt ktr_enter))
  (k_with "m nz" => (first | exact my_nz | exact my_nz_push))
  (k_with "m compareOp Eq ref ref" => (k_here; (with_reducible show wpAny _ _ (compareOp CmpOp.Eq (Value.ref _) (Value.ref _)) _ _ _); first | k_dflt (refine' my_eq_nil_t ?N ?a ?b ?u ?_; (case N => k_asm); (case a => k_mem); (case b => k_mem); (case u => ktr_units)) | k_dflt (refine' my_eq_nil_f ?N ?a ?b ?z ?u ?_; (case N => k_asm); (case a => k_mem); (case b => k_mem); (case z => walk_at "nz"); (case u => ktr_units))))
  (k_with "m compareOp NotEq ref ref" => (k_here; (with_reducible show wpAny _ _ (compareOp CmpOp.NotEq (Value.ref _) (Value.ref _)) _ _ _); first | k_dflt (refine' my_ne_nil_f ?N ?a ?b ?u ?_; (case N => k_asm); (case a => k_mem); (case b => k_mem); (case u => ktr_units)) | k_dflt (refine' my_ne_nil_t ?N ?a ?b ?z ?u ?_; (case N => k_asm); (case a => k_mem); (case b => k_mem); (case z => walk_at "nz"); (case u => ktr_units))))
  (k_with "m alllt" => (first | assumption | exact allLt_of (by assumption) | exact ⟨by assumption, AllLt.up (by assumption) (by walk_at "alllt")⟩))
  (k_with "m grow" => (first | exact Grow.refl _ | (refine Grow.cons ?_ ?_; (walk_at "grow"); (k_dflt walk_at "alllt")) | (refine Grow.app ?_ ?_; (walk_at "grow"); assumption) | assumption))
  (k_with "m grow2" => (first | exact Grow2.refl _ _ | (apply Grow2.cons; (walk_at "grow2"); (k_dflt walk_at "alllt")) | (apply Grow2.app; (walk_at "grow2"); assumption)))
  (k_with "m call ref" => (k_here; (with_reducible show wpAny _ _ (call (Value.ref 214) [Value.ref _]) _ _ _); k_dflt (refine' con_use ?k1 ?k2 ?k3 ?k4 ?k5 ?kK (popped _ _ _ _ _ _ _ ?km) ?kd ?ku (pure_ret ?_); (case k1 => k_asm); (case k2 => k_asm); (case k3 => k_asm); (case k4 => k_asm); (case k5 => k_asm); (case kK => first | exact rfl | assumption); (case km => k_mem); (case kd => ktr_room); (case ku => ktr_units); intro t9 h9 tk9 F9 N9; (try dsimp only))))
  (k_with "m call ref" => (k_here; (with_reducible show wpAny _ _ (call (Value.ref 221) [Value.ref _]) _ _ _); k_dflt (refine' con_use ?k1 ?k2 ?k3 ?k4 ?k5 ?kK (pushed _ _ _ _ _ _ _ ?km) ?kd ?ku (pure_ret ?_); (case k1 => k_asm); (case k2 => k_asm); (case k3 => k_asm); (case k4 => k_asm); (case k5 => k_asm); (case kK => first | exact rfl | assumption); (case km => k_mem); (case kd => ktr_room); (case ku => ktr_units); intro t9 h9 tk9 F9 N9; (try dsimp only))))
  (k_with "m call ref" => (k_here; (with_reducible show wpAny _ _ (call (Value.ref 228) [Value.ref _]) _ _ _); k_dflt (refine' con_use ?k1 ?k2 ?k3 ?k4 ?k5 ?kK (needed _ _ _ _ _ _ _ ?km) ?kd ?ku (pure_ret ?_); (case k1 => k_asm); (case k2 => k_asm); (case k3 => k_asm); (case k4 => k_asm); (case k5 => k_asm); (case kK => first | exact rfl | assumption); (case km => k_mem); (case kd => ktr_room); (case ku => ktr_units); intro t9 h9 tk9 F9 N9; (try dsimp only))))
  (k_with "m call ref" => (k_here; (with_reducible show wpAny _ _ (call (Value.ref 235) [Value.ref _]) _ _ _); k_dflt (refine' con_use ?k1 ?k2 ?k3 ?k4 ?k5 ?kK (bindings_made _ _ _ _ _ _ _ ?km) ?kd ?ku (pure_ret ?_); (case k1 => k_asm); (case k2 => k_asm); (case k3 => k_asm); (case k4 => k_asm); (case k5 => k_asm); (case kK => first | exact rfl | assumption); (case km => k_mem); (case kd => ktr_room); (case ku => ktr_units); intro t9 h9 tk9 F9 N9; (try dsimp only))))
  (k_with "m call ref" => (k_here; (with_reducible show wpAny _ _ (call (Value.ref 242) [Value.ref _]) _ _ _); k_dflt (refine' con_use ?k1 ?k2 ?k3 ?k4 ?k5 ?kK (handlers_made _ _ _ _ _ _ _ ?km) ?kd ?ku (pure_ret ?_); (case k1 => k_asm); (case k2 => k_asm); (case k3 => k_asm); (case k4 => k_asm); (case k5 => k_asm); (case kK => first | exact rfl | assumption); (case km => k_mem); (case kd => ktr_room); (case ku => ktr_units); intro t9 h9 tk9 F9 N9; (try dsimp only))))
  (k_with "m call builtin:len" => (k_here; (with_reducible show wpAny _ _ (call (Value.builtin "len") [Value.ref _]) _ _ _); k_dflt (refine' my_len ?N ?m ?e ?f ?_; (case N => k_asm); (case m => k_mem); (case e => first | assumption | exact A2.length (by assumption)); (case f => first | decide | omega))))
  (k_with "m execs cons" => (k_here; (with_reducible show wpAny _ _ _ _ _ { heap := _, gens := _, drawn := _, toks := _ + _, os := _ }); refine gen_toks ?_; intro tk))
  (k_with "m execs nil" => (k_here; (with_reducible show wpAny _ _ _ _ _ { heap := _, gens := _, drawn := _, toks := _ + _, os := _ }); refine gen_toks ?_; intro tk))
  (k_with "m compareOp NotIn str ref" => (k_here; (with_reducible show wpAny _ _ (compareOp CmpOp.NotIn (Value.str (Wd.str _) _) (Value.ref 90)) _ _ _); k_dflt (refine' rows_notin ?F ?X ?_; (case F => k_asm); (case X => k_asm))))
  (k_with "m eval Dict" => (k_here; (with_reducible show wpAny _ _ (eval (PySem.Expr.Dict (some (PySem.Expr.Name _ _) :: _) _ _) _) _ _ _); k_dflt (refine' kdn_eval (knd := PySem.strKind _ _) ?F ?N ?b ?a ?l ?e ?n ?_; (case F => k_asm); (case N => first | k_asm | exact News.nil); (case b => exact Top.nolimit (by k_asm)); (case a => rfl); (case l => rfl); (case e => exact List.cons_ne_nil _ _); (case n => exact Nat.le_of_ble_eq_true rfl)); intro d' h' o' F' N' l1 lo' hd'; (try k_lt l1)))
  (k_with "m call ref" => (k_here; (with_reducible show wpAny _ _ (call (Value.ref 207) [Value.str _ _]) _ _ _); k_dflt (refine' con_use ?k1 ?k2 ?k3 ?k4 ?k5 ?kK (sort_of _ _ _ _) ?kd ?ku (pure_ret ?_); (case k1 => k_asm); (case k2 => k_asm); (case k3 => k_asm); (case k4 => k_asm); (case k5 => k_asm); (case kK => first | exact rfl | assumption); (case kd => ktr_room); (case ku => ktr_units); intro t9 h9 tk9 F9 N9; rw [hsort])))
  trivial
theorem operand_word (w : World) (news : List (Addr × Obj)) (i f : Addr) (x : Ins) (t u : Tok) (n : Nat) (hm : (i, insObj x t u n) ∈ news) (xs : List Ins) (d : Int) (hf : FnIn w news (.ref f) xs d) (hok : x.ok xs.length) (hx : xs.length < 1000) :
    Con w 5 277 [.ref f, .ref i] news (fun r news' => Grow news news' ∧ ((x.bad xs.length ∧ ∃ t, r = .str (Str.ofString "operand") t) ∨ (¬ x.bad xs.length ∧ r = .none))) := by
  obtain @⟨fx, fd, cl, kl, nd, nc, nk, vs, ks, t1, t2, t3, t4, t5, t6, tf, td, hv, h1, h2, h3, h4, h5, h6⟩ := hf
  cases hv
  have h7 := h4.length
  obtain ⟨xw, xk⟩ := x
  have hs : xw.sort = Str.ofString "none" ∨ xw.sort = Str.ofString "place" ∨ xw.sort = Str.ofString "count" ∨ xw.sort = Str.ofString "constant" ∨ xw.sort = Str.ofString "symbol" := by cases xw <;> simp [Wd.sort]
  have hb : ∀ m, Ins.bad ⟨xw, xk⟩ m ↔ xw.sort = Str.ofString "place" ∧ m ≤ xk := fun _ => Iff.rfl
  rcases hs with hsort | hsort | hsort | hsort | hsort
  · have hk : xk = -1 := by revert hok hsort; cases xw <;> first | exact fun h _ => h | exact fun _ h => absurd h (by decide +kernel)
    walk_at "con start"
    k_steps
    all_goals first | omega | exact hret _ _ _ _ (by k_asm) (by k_asm) ⟨by walk_at "grow", .inr ⟨by rw [hb, hsort]; exact fun h => absurd h.1 (by decide +kernel), rfl⟩⟩
  · have hk : 0 ≤ xk ∧ xk ≤ (xs.length : Int) := by revert hok hsort; cases xw <;> first | exact fun h _ => h | exact fun _ h => absurd h (by decide +kernel)
    walk_at "con start"
    k_steps
    · exact hret _ _ _ _ (by k_asm) (by k_asm) ⟨by walk_at "grow", .inl ⟨(hb _).mpr ⟨hsort, by omega⟩, _, rfl⟩⟩
    · exact hret _ _ _ _ (by k_asm) (by k_asm) ⟨by walk_at "grow", .inr ⟨fun h => by have h9 := ((hb _).mp h).2; omega, rfl⟩⟩
  · have hk : 0 ≤ xk ∧ xk < 3 := by revert hok hsort; cases xw <;> first | exact fun h _ => h | exact fun _ h => absurd h (by decide +kernel)
    walk_at "con start"
    k_steps
    all_goals first | omega | exact hret _ _ _ _ (by k_asm) (by k_asm) ⟨by walk_at "grow", .inr ⟨by rw [hb, hsort]; exact fun h => absurd h.1 (by decide +kernel), rfl⟩⟩
  · have hk : 0 ≤ xk ∧ xk < 3 := by revert hok hsort; cases xw <;> first | exact fun h _ => h | exact fun _ h => absurd h (by decide +kernel)
    walk_at "con start"
    k_steps
    all_goals first | omega | exact hret _ _ _ _ (by k_asm) (by k_asm) ⟨by walk_at "grow", .inr ⟨by rw [hb, hsort]; exact fun h => absurd h.1 (by decide +kernel), rfl⟩⟩
  · have hk : 0 ≤ xk ∧ xk < 3 := by revert hok hsort; cases xw <;> first | exact fun h _ => h | exact fun _ h => absurd h (by decide +kernel)
    walk_at "con start"
    k_steps
    all_goals first | omega | exact hret _ _ _ _ (by k_asm) (by k_asm) ⟨by walk_at "grow", .inr ⟨by rw [hb, hsort]; exact fun h => absurd h.1 (by decide +kernel), rfl⟩⟩
-- C6
set_option maxRecDepth 100000
set_option maxHeartbeats 8000000
theorem reset6 : True := by
  w_top off
  trivial

theorem linesC6_0 : True := by
  k_with_none
  (k_with "m subscriptTail" => (k_here; (with_reducible show wpAny _ _ (subscriptTail _ _ (Value.ref 90) (Value.str (Wd.str _) _)) _ _ _); k_dflt (refine' rows_item ?F ?X ?_; (case F => k_asm); (case X => k_asm)); intro a t0 t1 t2 t3 t4 hrow; dsimp only))
  (k_with "m subscriptTail" => (k_here; (with_reducible show wpAny _ _ (subscriptTail _ _ (Value.ref _) (Value.int _ _)) _ _ _); k_dflt (refine' topTup_K ?F ?X ?l ?a ?b ?c ?d ?_; (case F => k_asm); (case X => k_asm); (case l => assumption); (case a => decide); (case b => decide); (case c => rfl); (case d => rfl); k_whole)))
  (k_with "m subscriptTail" => (k_here; (with_reducible show wpAny _ _ (subscriptTail _ _ (Value.ref _) (Value.int (-1) _)) _ _ _); k_dflt (refine' my_last ?N ?m ?z ?x ?_; (case N => k_asm); (case m => k_mem); (case z => first | exact my_sz | exact my_sz_push); (case x => first | exact my_at | exact my_at_push); k_whole)))
  (k_with "m subscriptTail Name UnaryOp ref int" => (k_here; (with_reducible show wpAny _ _ (subscriptTail _ _ (Value.ref _) (Value.int (-1) _)) _ _ _); k_dflt (refine' my_last ?N ?m ?z ?x ?_; (case N => k_asm); (case m => k_mem); (case z => first | exact my_sz | exact my_sz_push); (case x => first | exact my_at | exact my_at_push); k_whole)))
  (k_with "m ite" => (refine ite_neg (wd_plain _) ?_))
  (k_with "m mem" => (first | exact List.mem_cons_self | (refine List.mem_cons_of_mem _ ?_; walk_at "mem") | (refine List.mem_append_left _ ?_; walk_at "mem") | (refine List.mem_append_right _ ?_; walk_at "mem") | ktr_member | assumption))
  (k_with "m room" => (ktr_room))
  (k_with "m sub" => (first | exact fun _ h => h | (refine fun p hp => List.mem_cons_of_mem _ ((?_ : ∀ p, _ → _) p hp); walk_at "sub") | (refine fun p hp => List.mem_append_right _ ((?_ : ∀ p, _ → _) p hp); walk_at "sub") | (refine fun p hp => List.mem_append_left _ ((?_ : ∀ p, _ → _) p hp); walk_at "sub")))
  (k_with "m con start" => (intro dp un gd cn cs a ccd cl outer A₀ base h₀ L m s mean mg mb Q E B F X N T hk hdp hun hret; (refine wpAny_call ?_); k_dflt ktr_enter))
  (k_with "m nz" => (first | exact my_nz | exact my_nz_push))
  (k_with "m compareOp Eq ref ref" => (k_here; (with_reducible show wpAny _ _ (compareOp CmpOp.Eq (Value.ref _) (Value.ref _)) _ _ _); first | k_dflt (refine' my_eq_nil_t ?N ?a ?b ?u ?_; (case N => k_asm); (case a => k_mem); (case b => k_mem); (case u => ktr_units)) | k_dflt (refine' my_eq_nil_f ?N ?a ?b ?z ?u ?_; (case N => k_asm); (case a => k_mem); (case b => k_mem); (case z => walk_at "nz"); (case u => ktr_units))))
  (k_with "m compareOp NotEq ref ref" => (k_here; (with_reducible show wpAny _ _ (compareOp CmpOp.NotEq (Value.ref _) (Value.ref _)) _ _ _); first | k_dflt (refine' my_ne_nil_f ?N ?a ?b ?u ?_; (case N => k_asm); (case a => k_mem); (case b => k_mem); (case u => ktr_units)) | k_dflt (refine' my_ne_nil_t ?N ?a ?b ?z ?u ?_; (case N => k_asm); (case a => k_mem); (case b => k_mem); (case z => walk_at "nz"); (case u => ktr_units))))
  (k_with "m alllt" => (first | assumption | exact allLt_of (by assumption) | exact ⟨by assumption, AllLt.up (by assumption) (by walk_at "alllt")⟩))
  (k_with "m grow" => (first | exact Grow.refl _ | (refine Grow.cons ?_ ?_; (walk_at "grow"); (k_dflt walk_at "alllt")) | (refine Grow.app ?_ ?_; (walk_at "grow"); assumption) | assumption))
  (k_with "m grow2" => (first | exact Grow2.refl _ _ | (apply Grow2.cons; (walk_at "grow2"); (k_dflt walk_at "alllt")) | (apply Grow2.app; (walk_at "grow2"); assumption)))
  (k_with "m call ref" => (k_here; (with_reducible show wpAny _ _ (call (Value.ref 214) [Value.ref _]) _ _ _); k_dflt (refine' con_use ?k1 ?k2 ?k3 ?k4 ?k5 ?kK (popped _ _ _ _ _ _ _ ?km) ?kd ?ku (pure_ret ?_); (case k1 => k_asm); (case k2 => k_asm); (case k3 => k_asm); (case k4 => k_asm); (case k5 => k_asm); (case kK => first | exact rfl | assumption); (case km => k_mem); (case kd => ktr_room); (case ku => ktr_units); intro t9 h9 tk9 F9 N9; (try dsimp only))))
  (k_with "m call ref" => (k_here; (with_reducible show wpAny _ _ (call (Value.ref 221) [Value.ref _]) _ _ _); k_dflt (refine' con_use ?k1 ?k2 ?k3 ?k4 ?k5 ?kK (pushed _ _ _ _ _ _ _ ?km) ?kd ?ku (pure_ret ?_); (case k1 => k_asm); (case k2 => k_asm); (case k3 => k_asm); (case k4 => k_asm); (case k5 => k_asm); (case kK => first | exact rfl | assumption); (case km => k_mem); (case kd => ktr_room); (case ku => ktr_units); intro t9 h9 tk9 F9 N9; (try dsimp only))))
  (k_with "m call ref" => (k_here; (with_reducible show wpAny _ _ (call (Value.ref 228) [Value.ref _]) _ _ _); k_dflt (refine' con_use ?k1 ?k2 ?k3 ?k4 ?k5 ?kK (needed _ _ _ _ _ _ _ ?km) ?kd ?ku (pure_ret ?_); (case k1 => k_asm); (case k2 => k_asm); (case k3 => k_asm); (case k4 => k_asm); (case k5 => k_asm); (case kK => first | exact rfl | assumption); (case km => k_mem); (case kd => ktr_room); (case ku => ktr_units); intro t9 h9 tk9 F9 N9; (try dsimp only))))
  (k_with "m call ref" => (k_here; (with_reducible show wpAny _ _ (call (Value.ref 235) [Value.ref _]) _ _ _); k_dflt (refine' con_use ?k1 ?k2 ?k3 ?k4 ?k5 ?kK (bindings_made _ _ _ _ _ _ _ ?km) ?kd ?ku (pure_ret ?_); (case k1 => k_asm); (case k2 => k_asm); (case k3 => k_asm); (case k4 => k_asm); (case k5 => k_asm); (case kK => first | exact rfl | assumption); (case km => k_mem); (case kd => ktr_room); (case ku => ktr_units); intro t9 h9 tk9 F9 N9; (try dsimp only))))
  (k_with "m call ref" => (k_here; (with_reducible show wpAny _ _ (call (Value.ref 242) [Value.ref _]) _ _ _); k_dflt (refine' con_use ?k1 ?k2 ?k3 ?k4 ?k5 ?kK (handlers_made _ _ _ _ _ _ _ ?km) ?kd ?ku (pure_ret ?_); (case k1 => k_asm); (case k2 => k_asm); (case k3 => k_asm); (case k4 => k_asm); (case k5 => k_asm); (case kK => first | exact rfl | assumption); (case km => k_mem); (case kd => ktr_room); (case ku => ktr_units); intro t9 h9 tk9 F9 N9; (try dsimp only))))
  (k_with "m exec For Tuple Call cons nil" => (k_here; (rename Fr _ _ _ _ => lF'); (with_unfolding_all refine' For_turns lF' ?_; k_whole)))
  (k_with "m exec For Tuple Call" => (k_here; (rename Fr _ _ _ _ => lF'); (with_unfolding_all refine' For_turns lF' ?_; k_whole)))
  (k_with "m exec For Tuple Attribute cons nil" => (k_here; (rename Fr _ _ _ _ => lF'); (with_unfolding_all refine' For_turns lF' ?_; k_whole)))
  (k_with "m exec For Tuple Name cons nil" => (k_here; (rename Fr _ _ _ _ => lF'); (with_unfolding_all refine' For_turns lF' ?_; k_whole)))
  (k_with "m TurnPost" => (dsimp only [TurnPost]))
  (k_with "m TurnEnd" => (k_here; (refine' turn_end ?te0 ?teF ?teN ?tek ?ter ?_); (case teF => k_asm); (case teN => exact cb_drop (by k_asm) (by walk_at "sub")); (case te0 => first | exact () | skip); (case tek => kst_all); (case ter => walk_at "same")))
  (k_with "m same" => first | (intro z hz2 hz3; (simp only [List.contains_cons, List.contains_nil, Bool.or_false, Bool.or_eq_false_iff, beq_eq_false_iff_ne, ne_eq] at hz3); (simp [kstB, hz3]; done)) | (intro z hz2 hz3; (simp only [List.contains_cons, List.contains_nil, Bool.or_false, Bool.or_eq_false_iff, beq_eq_false_iff_ne, ne_eq] at hz3); (simp only [List.forall_mem_cons, List.not_mem_nil, false_implies, implies_true, and_true, ne_eq] at hz2); (simp [kstB, hz2, hz3]; done)) | ksw_same)
  (k_with "m fmono" => (refine' FnIn.mono ?fs ?fh; (case fh => assumption); (case fs => walk_at "sub")))
  (k_with "m call ref" => (k_here; (with_reducible show wpAny _ _ (call (Value.ref 277) [Value.ref _, Value.ref _]) _ _ _); k_dflt (refine' con_use ?k1 ?k2 ?k3 ?k4 ?k5 ?kK (operand_word _ _ _ _ _ _ _ _ ?km _ _ ?kf ?ko ?kx) ?kd ?ku ?_; (case k1 => k_asm); (case k2 => k_asm); (case k3 => k_asm); (case k4 => k_asm); (case k5 => k_asm); (case kK => first | exact rfl | assumption); (case km => k_mem); (case kf => walk_at "fmono"); (case ko => assumption); (case kx => assumption); (case kd => ktr_room); (case ku => ktr_units); intro r9 n9 h9 tk9 F9 N9 P9; rcases P9 with ⟨⟨tl8, rfl, ha8⟩, ⟨hbad, t9, rfl⟩ | ⟨hbad, rfl⟩⟩)))
  (k_with "m call type:enumerate" => (k_here; k_dflt (refine' my_enum (σ := Unit) (fun _ => []) [Str.ofString "place", Str.ofString "instruction", Str.ofString "word"] (fun i _ => ∀ j, j < i → ∀ x, xs[j]? = some x → ¬ x.bad xs.length) () ?hxH ?hxF ?hxN ?hxm ?hxk ?hxp ?hxt ?hxd; (case hxH => exact rfl); (case hxF => k_asm); (case hxN => k_asm); (case hxm => k_mem); (case hxk => exact List.forall_mem_nil _); (case hxp => exact fun j hj => absurd hj (Nat.not_lt_zero _))); (case' hxt => (intro c9 i9 v9 u9 h9 tk9 own9 T9 t9 hv9 hc9 hT9 F9 N9; obtain ⟨x9, hx9, i8, t8, u8, n8, rfl, hmi9⟩ := A2.getL h4 hv9; have hok9 := hok x9 (List.mem_of_getElem? hx9))); (case' hxd => intro c9 u9 h9 tk9 F9 N9 hc9)))
  trivial
theorem bounds_error (w : World) (news : List (Addr × Obj)) (f : Addr) (xs : List Ins) (d : Int) (hf : FnIn w news (.ref f) xs d) (hok : ∀ x ∈ xs, x.ok xs.length) (hx : xs.length < 1000) :
    Con w 8 284 [.ref f] news (fun r news' => news' = news ∧ ((r = .none ∧ ∀ x ∈ xs, ¬ x.bad xs.length) ∨ ∃ a, r = .ref a ∧ ∃ x ∈ xs, x.bad xs.length)) := by
  have hf0 := hf
  obtain @⟨fx, fd, cl, kl, nd, nc, nk, vs, ks, t1, t2, t3, t4, t5, t6, tf, td, hv, h1, h2, h3, h4, h5, h6⟩ := hf
  cases hv
  have h7 := h4.length
  walk_at "con start"
  k_steps
  · refine hret _ _ _ _ (by k_asm) (by k_asm) ⟨rfl, .inl ⟨rfl, fun x hx => ?_⟩⟩
    obtain ⟨j, hj, e⟩ := List.getElem_of_mem hx
    exact hc9 j (by omega) x (by rw [List.getElem?_eq_getElem hj, e])
  · exact hret _ news _ _ (by k_asm) (cb_drop (by k_asm) (by walk_at "sub")) ⟨rfl, .inr ⟨_, rfl, x9, List.mem_of_getElem? hx9, hbad⟩⟩
  · rename_i j hj x hx
    rcases Nat.lt_succ_iff_lt_or_eq.mp hj with h | rfl
    · exact hc9 j h x hx
    · rw [hx9] at hx
      cases hx
      exact hbad
-- P1
set_option maxRecDepth 100000
set_option maxHeartbeats 8000000
def free (known : List (Option St)) : Nat := known.countP (·.isNone)
theorem free_set {known : List (Option St)} {i : Nat} {st : St} (h : known[i]? = some none) : free (known.set i (some st)) + 1 = free known := by
  induction known generalizing i with
  | nil => simp at h
  | cons a r ih =>
    cases i with
    | zero =>
      simp at h
      subst h
      simp [free]
    | succ i =>
      have := ih (i := i) (by simpa using h)
      simp only [free, List.set_cons_succ, List.countP_cons] at this ⊢
      omega
section
variable {xs : List Ins} {n : Nat} {known : List (Option St)} {q : List (Int × St)} {p : Int} {st st' : St}
theorem runS_nil : runS xs n known [] = (known, true) := by cases n <;> rfl
theorem runS_end (h : (known.length : Int) ≤ p) : runS xs (n + 1) known (q ++ [(p, st)]) = (known, false) := by
  rw [runS]; simp [h]
theorem runS_eq (h : ¬ (known.length : Int) ≤ p) (hk : known[p.toNat]? = some (some st)) : runS xs (n + 1) known (q ++ [(p, st)]) = runS xs n known q := by
  rw [runS]; simp [h, hk]
theorem runS_ne (h : ¬ (known.length : Int) ≤ p) (hk : known[p.toNat]? = some (some st')) (hn : ¬ st' = st) : runS xs (n + 1) known (q ++ [(p, st)]) = (known, false) := by
  rw [runS]; simp [h, hk, hn]
theorem runS_stack {x : Ins} (h : ¬ (known.length : Int) ≤ p) (hk : known[p.toNat]? = some none) (hx : xs[p.toNat]? = some x) (hw : waysF x p st = none) : runS xs (n + 1) known (q ++ [(p, st)]) = (known.set p.toNat (some st), false) := by
  rw [runS]; simp [h, hk, hx, hw]
theorem runS_new {x : Ins} {fd : List (Int × St)} (h : ¬ (known.length : Int) ≤ p) (hk : known[p.toNat]? = some none) (hx : xs[p.toNat]? = some x) (hw : waysF x p st = some fd) : runS xs (n + 1) known (q ++ [(p, st)]) = runS xs n (known.set p.toNat (some st)) (q ++ fd) := by
  rw [runS]; simp [h, hk, hx, hw]
end
theorem waysF_props {x : Ins} {p : Int} {st : St} {fd : List (Int × St)} {m : Int} (h : waysF x p st = some fd) (hp : 0 ≤ p) (hk : x.w.sort = Str.ofString "place" → 0 ≤ x.k) : fd.length ≤ 2 ∧ ∀ r ∈ fd, 0 ≤ r.1 ∧ r.2.hs.length ≤ st.hs.length + 1 := by
  unfold waysF at h
  split at h
  · cases h
  · rename_i l hl
    have h1 := afterF_len hl
    obtain ⟨xw, xk⟩ := x
    cases xw <;> simp only at h hk
    case ret =>
      split at h
      · cases h; simp
      · cases h
    case goto => cases h; simp; exact ⟨hk rfl, h1⟩
    case gotoifnil => cases h; simp; exact ⟨⟨by omega, h1⟩, hk rfl, h1⟩
    case gotoifnilelsepop => cases h; simp; exact ⟨⟨by omega, h1⟩, hk rfl, h1⟩
    case pushcatch => cases h; simp; exact ⟨⟨by omega, h1⟩, hk rfl⟩
    all_goals (cases h; simp; exact ⟨by omega, h1⟩)

structure SS where
  n : Nat
  known : List (Option St)
  ws : List (Int × St)
  kvs : List Value
  wvs : List Value
  ck : Nat
  cw : Nat
  rest : List (Addr × Obj)
def SLed (kn wl : Addr) (c : SS) : List (Addr × Obj) := (kn, listOf c.kvs.toArray c.ck) :: (wl, listOf c.wvs.toArray c.cw) :: c.rest
structure SFacts (w : World) (news : List (Addr × Obj)) (kn wl : Addr) (c : SS) : Prop where
  hk : A2 (KIn w c.rest) c.kvs c.known
  hw : A2 (WIn w c.rest) c.wvs c.ws
  h1 : ∀ p ∈ c.rest, p.1 ≠ kn
  h2 : ∀ p ∈ c.rest, p.1 ≠ wl
  hg : Grow news c.rest
structure SInv (xs : List Ins) (R : List (Option St) × Bool) (N : Nat) (c : SS) : Prop where
  run : runS xs c.n c.known c.ws = R
  ms : free c.known * 2 + c.ws.length ≤ c.n
  le : c.n ≤ N
  ln : ∀ q ∈ c.ws, 0 ≤ q.1 ∧ q.2.hs.length + c.n ≤ N
  lk : ∀ st, some st ∈ c.known → st.hs.length ≤ N
  len : c.known.length = xs.length

/-- how a turn of standings stands -/
inductive STurn (w : World) (news : List (Addr × Obj)) (kn wl : Addr) (xs : List Ins) (vs : List Value) (R : List (Option St) × Bool) (N : Nat) (n : Nat) (known : List (Option St)) (kvs : List Value) (ck cw : Nat) (rest : List (Addr × Obj)) : List Value → List (Int × St) → Prop where
  | nil (hR : R = (known, true)) : STurn w news kn wl xs vs R N n known kvs ck cw rest [] []
  | last {us : List Value} {q : List (Int × St)} {a : Addr} {t : Tok} {sv : Value} {m : Nat} {p : Int} {st : St} (ha : (a, ({ cls := .type "tuple", data := .seq [.int p t, sv].toArray m } : Obj)) ∈ rest) (hst : StIn w rest sv st) (hp : 0 ≤ p) (hl : (xs.length : Int) ≤ p)
      (hR : R = (known, false)) : STurn w news kn wl xs vs R N n known kvs ck cw rest (us ++ [.ref a]) (q ++ [(p, st)])
  | met {us : List Value} {q : List (Int × St)} {a : Addr} {t : Tok} {sv kv : Value} {m : Nat} {p : Int} {st st' : St} (ha : (a, ({ cls := .type "tuple", data := .seq [.int p t, sv].toArray m } : Obj)) ∈ rest) (hst : StIn w rest sv st) (hp : 0 ≤ p) (hl : p < (xs.length : Int))
      (hkv : kvs[p.toNat]? = some kv) (hst' : StIn w rest kv st') (hs : st.hs.length ≤ N) (hs' : st'.hs.length ≤ N) (h0 : ¬ st' = st → R = (known, false))
      (h1 : st' = st → ∀ kvs us ck cw rest, SInv xs R N ⟨n - 1, known, q, kvs, us, ck, cw, rest⟩) (h2 : ∀ cw', SFacts w news kn wl ⟨n - 1, known, q, kvs, us, ck, cw', rest⟩) (hn : n - 1 < n) : STurn w news kn wl xs vs R N n known kvs ck cw rest (us ++ [.ref a]) (q ++ [(p, st)])
  | new {us : List Value} {q : List (Int × St)} {a : Addr} {t : Tok} {sv : Value} {m : Nat} {p : Int} {st : St} {x : Ins} {i : Addr} {t1 u1 : Tok} {m1 : Nat} (ha : (a, ({ cls := .type "tuple", data := .seq [.int p t, sv].toArray m } : Obj)) ∈ rest) (hst : StIn w rest sv st) (hp : 0 ≤ p) (hl : p < (xs.length : Int))
      (hkv : kvs[p.toNat]? = some .none) (hv : vs[p.toNat]? = some (.ref i)) (hi : (i, insObj x t1 u1 m1) ∈ news) (hs : st.hs.length ≤ N) (hul : us.length ≤ N)
      (hk : A2 (KIn w rest) (kvs.set p.toNat sv) (known.set p.toNat (some st))) (hlk : ∀ s', some s' ∈ known.set p.toNat (some st) → s'.hs.length ≤ N) (hw : A2 (WIn w rest) us q)
      (h0 : waysF x p st = none → R = (known.set p.toNat (some st), false))
      (h1 : ∀ fd, waysF x p st = some fd → ∀ kvs us ck cw rest, SInv xs R N ⟨n - 1, known.set p.toNat (some st), q ++ fd, kvs, us, ck, cw, rest⟩) (h2 : ∀ fd, waysF x p st = some fd → fd.length ≤ 2) (hn : n - 1 < n) : STurn w news kn wl xs vs R N n known kvs ck cw rest (us ++ [.ref a]) (q ++ [(p, st)])
theorem sTurn {w : World} {news : List (Addr × Obj)} {kn wl : Addr} {xs : List Ins} {vs : List Value} {R : List (Option St) × Bool} {N : Nat} {c : SS} (hf : SFacts w news kn wl c) (hp : SInv xs R N c) (h4 : A2 (IIn news) vs xs) (hok : ∀ x ∈ xs, x.w.sort = Str.ofString "place" → 0 ≤ x.k) :
    STurn w news kn wl xs vs R N c.n c.known c.kvs c.ck c.cw c.rest c.wvs c.ws := by
  obtain ⟨n, known, ws, kvs, wvs, ck, cw, rest⟩ := c
  obtain ⟨f1, f2, f3, f4, f5⟩ := hf
  obtain ⟨run, ms, le, ln, lk, len⟩ := hp
  dsimp only at *
  rcases List.eq_nil_or_concat wvs with rfl | ⟨us, v, rfl⟩
  · have e := f2.nil_left
    subst e
    rw [runS_nil] at run
    exact .nil run.symm
  · rw [List.concat_eq_append] at f2 ⊢
    obtain ⟨q, ⟨p, st⟩, rfl, hq, a, t, sv, m, rfl, ha, hst⟩ := f2.snoc
    have hl0 := ln (p, st) (by simp)
    dsimp only at ha hst hl0
    obtain ⟨n, rfl⟩ : ∃ k, n = k + 1 := ⟨n - 1, by simp at ms; omega⟩
    have hn : n + 1 - 1 = n := rfl
    by_cases hl : (xs.length : Int) ≤ p
    · rw [runS_end (by rw [len]; exact hl)] at run
      exact .last ha hst hl0.1 hl run.symm
    · have hl' : ¬ (known.length : Int) ≤ p := by rw [len]; exact hl
      have hi : p.toNat < known.length := by omega
      obtain ⟨kv, hkv, hK⟩ := f1.get hi
      have hko : known[p.toNat]? = some known[p.toNat] := List.getElem?_eq_getElem hi
      have hqn : ∀ r ∈ q, 0 ≤ r.1 ∧ r.2.hs.length + n ≤ N := fun r hr => by have := ln r (by simp [hr]); omega
      cases hk : known[p.toNat] with
      | some st' =>
        rw [hk] at hK hko
        refine .met ha hst hl0.1 (by omega) hkv hK (by omega) (lk st' (hk ▸ List.getElem_mem hi)) (fun hne => ?_) (fun he _ _ _ _ _ => ?_) (fun cw' => ⟨f1, hq, f3, f4, f5⟩) (by omega)
        · rw [runS_ne hl' hko hne] at run
          exact run.symm
        · subst he
          rw [runS_eq hl' hko] at run
          refine ⟨run, ?_, by simp only; omega, hqn, lk, len⟩
          simp at ms ⊢
          omega
      | none =>
        rw [hk] at hK hko
        have e : kv = .none := hK
        subst e
        have hx : p.toNat < xs.length := by omega
        obtain ⟨iv, hiv, i, t1, u1, m1, rfl, hi1⟩ := h4.get hx
        have hxe : xs[p.toNat]? = some xs[p.toNat] := List.getElem?_eq_getElem hx
        have hfs := free_set (st := st) hko
        have hlk : ∀ s', some s' ∈ known.set p.toNat (some st) → s'.hs.length ≤ N := fun s' hs' => by
          rcases List.mem_or_eq_of_mem_set hs' with h | h
          · exact lk s' h
          · cases h; omega
        have hlq : q.length + 1 ≤ n + 1 := by simp at ms; omega
        refine .new ha hst hl0.1 (by omega) hkv hiv hi1 (by omega) ?_ (f1.set (b := some st) (show KIn w rest sv (some st) from hst) _) hlk hq (fun hwf => ?_) (fun fd hwf _ _ _ _ _ => ?_) (fun fd hwf => ?_) (by omega)
        · rw [hq.length]; omega
        · rw [runS_stack hl' hko hxe hwf] at run
          exact run.symm
        · rw [runS_new hl' hko hxe hwf] at run
          have hpr := waysF_props (m := 0) hwf hl0.1 (hok _ (List.getElem_mem hx))
          refine ⟨run, ?_, by simp only; omega, fun r hr => ?_, hlk, by simpa using len⟩
          · have := hpr.1
            simp at ms ⊢
            omega
          · rcases List.mem_append.mp hr with hr | hr
            · exact hqn r hr
            · have := hpr.2 r hr
              simp only
              omega
        · exact (waysF_props (m := 0) hwf hl0.1 (hok _ (List.getElem_mem hx))).1
-- P2
set_option maxRecDepth 100000
set_option maxHeartbeats 8000000
def fuelS (xs : List Ins) : Nat := 2 * xs.length + 2
inductive SOut (w : World) (xs : List Ins) (r : Value) (l : List (Addr × Obj)) : Prop where
  | mk {a kn : Addr} {v : Value} {kvs : List Value} {n nk : Nat} {known : List (Option St)} {ok : Bool} (hr : r = .ref a) (h1 : (a, ({ cls := .type "tuple", data := .seq [.ref kn, v].toArray n } : Obj)) ∈ l)
    (h2 : (kn, listOf kvs.toArray nk) ∈ l) (h3 : A2 (KIn w l) kvs known) (h4 : runS xs (fuelS xs) (List.replicate xs.length none) [(0, ⟨0, 0, []⟩)] = (known, ok)) (h5 : (ok = true ∧ v = .none) ∨ (ok = false ∧ ∃ z, v = .ref z))
    (h6 : known.length = xs.length) (h7 : ∀ st, some st ∈ known → st.hs.length ≤ fuelS xs) : SOut w xs r l
theorem a2_rep {w : World} {l : List (Addr × Obj)} (k : Nat) : A2 (KIn w l) (List.replicate k Value.none) (List.replicate k none) := by
  induction k with
  | zero => exact .nil
  | succ k ih => exact .cons rfl ih
theorem free_rep (k : Nat) : free (List.replicate k none) = k := by
  simp [free, List.countP_replicate]
section
variable {prog : Program} {w : World} {A : Around} {E : Value → Shared → Prop} {Q : Flow → Shared → Prop} {s : Shared} {env : Env} {h₀ : Heap} {L : Addr} {news led : List (Addr × Obj)} {xs : List Ins}
theorem s_while {test : Expr} {body : List Stmt} {pos : Pos} {m₀ : Str → Option Value} {kn wl a x dx hl : Addr} {ck cw m nn : Nat} {t tv tb t1 t2 t3 : Tok}
    (hkn : m₀ (Str.ofString "known") = some (.ref kn)) (hwl : m₀ (Str.ofString "waiting") = some (.ref wl)) (F : Fr h₀ L s.heap m₀) (N : News h₀ L s.heap led)
    (m1 : (kn, listOf (List.replicate xs.length Value.none).toArray ck) ∈ led) (m2 : (wl, listOf #[.ref a] cw) ∈ led) (m3 : (a, ({ cls := .type "tuple", data := .seq #[.int 0 t, .ref x] m } : Obj)) ∈ led)
    (m4 : (x, instObj 266 dx) ∈ led) (m5 : (dx, dictOf [⟨PyData.keyHash w.params (Str.ofString "values"), .str (Str.ofString "values") t1, .int 0 tv⟩, ⟨PyData.keyHash w.params (Str.ofString "bindings"), .str (Str.ofString "bindings") t2, .int 0 tb⟩, ⟨PyData.keyHash w.params (Str.ofString "handlers"), .str (Str.ofString "handlers") t3, .ref hl⟩] 3) ∈ led)
    (m6 : (hl, listOf #[] nn) ∈ led) (m7 : ∀ p ∈ news, p ∈ led)
    (n1 : a ≠ kn ∧ x ≠ kn ∧ dx ≠ kn ∧ hl ≠ kn) (n2 : a ≠ wl ∧ x ≠ wl ∧ dx ≠ wl ∧ hl ≠ wl) (n3 : kn ≠ wl)
    (l1 : AllLt kn news) (l2 : AllLt wl news) (l3 : AllLt a news) (l4 : AllLt x news) (l5 : AllLt dx news) (l6 : AllLt hl news)
    (turn : ∀ (c : SS) (u : Str → Option Value) h tk, SFacts w news kn wl c → SInv xs (runS xs (fuelS xs) (List.replicate xs.length none) [(0, ⟨0, 0, []⟩)]) (fuelS xs) c → AllLt kn news → AllLt wl news → kn ≠ wl →
      Fr h₀ L h (kstB (fun z => if [Str.ofString "place", Str.ofString "standing", Str.ofString "found"].contains z then u z else m₀ z) []) → News h₀ L h (SLed kn wl c) →
      wpAny (model prog w) A (isTrue test env (eval test env)) (fun b s₂ =>
        if b = true then wpAny (model prog w) A (execs body env) (KswPost h₀ L s (SLed kn wl) (fun _ => []) (SFacts w news kn wl) [Str.ofString "place", Str.ofString "standing", Str.ofString "found"] m₀ (SInv xs (runS xs (fuelS xs) (List.replicate xs.length none) [(0, ⟨0, 0, []⟩)]) (fuelS xs)) (fun c => c.n) Q c) E s₂ else Q .next s₂) E { s with heap := h, toks := tk })
    (hE : PassesOwn (model prog w) A env E := by passes_own) :
    wpAny (model prog w) A (exec (.While test body [] pos) env) Q E s := by
  have hx1 : ∀ p ∈ news, p.1 ≠ kn := AllLt.ne l1
  have hx2 : ∀ p ∈ news, p.1 ≠ wl := AllLt.ne l2
  refine ksw_while (SLed kn wl) (fun _ => []) (SFacts w news kn wl) [Str.ofString "place", Str.ofString "standing", Str.ofString "found"] (SInv xs (runS xs (fuelS xs) (List.replicate xs.length none) [(0, ⟨0, 0, []⟩)]) (fuelS xs)) (fun c => c.n)
    ⟨fuelS xs, List.replicate xs.length none, [(0, ⟨0, 0, []⟩)], List.replicate xs.length .none, [.ref a], ck, cw, (a, { cls := .type "tuple", data := .seq #[.int 0 t, .ref x] m }) :: (x, instObj 266 dx) :: (dx, dictOf [⟨PyData.keyHash w.params (Str.ofString "values"), .str (Str.ofString "values") t1, .int 0 tv⟩, ⟨PyData.keyHash w.params (Str.ofString "bindings"), .str (Str.ofString "bindings") t2, .int 0 tb⟩, ⟨PyData.keyHash w.params (Str.ofString "handlers"), .str (Str.ofString "handlers") t3, .ref hl⟩] 3) :: (hl, listOf #[] nn) :: news⟩
    F (kst_newsOf N fun p hp => ?_) ?_ (List.forall_mem_nil _) ?_ (fun c u h tk a b F₁ N₁ => turn c u h tk a b l1 l2 n3 F₁ N₁) hE
  · simp only [SLed, List.mem_cons] at hp
    rcases hp with rfl | rfl | rfl | rfl | rfl | rfl | hp
    · exact m1
    · exact m2
    · exact m3
    · exact m4
    · exact m5
    · exact m6
    · exact m7 _ hp
  · refine ⟨a2_rep _, .cons ⟨a, t, .ref x, m, rfl, .head _, ⟨rfl, .tail _ (.head _), .tail _ (.tail _ (.head _)), .tail _ (.tail _ (.tail _ (.head _))), .nil⟩⟩ .nil, ?_, ?_, ?_⟩
    · intro p hp
      simp only [List.mem_cons] at hp
      rcases hp with rfl | rfl | rfl | rfl | hp
      · exact n1.1
      · exact n1.2.1
      · exact n1.2.2.1
      · exact n1.2.2.2
      · exact hx1 p hp
    · intro p hp
      simp only [List.mem_cons] at hp
      rcases hp with rfl | rfl | rfl | rfl | hp
      · exact n2.1
      · exact n2.2.1
      · exact n2.2.2.1
      · exact n2.2.2.2
      · exact hx2 p hp
    · exact (((Grow.refl news).up l6).up l5 |>.up l4).up l3
  · refine ⟨rfl, ?_, Nat.le_refl _, ?_, ?_, ?_⟩
    · simp only [free_rep, fuelS, List.length_cons, List.length_nil]; omega
    · intro q hq
      simp only [List.mem_singleton] at hq
      subst hq
      simp
    · intro st hst
      have := List.eq_of_mem_replicate hst
      cases this
    · simp
theorem s_after {h : Heap} {kn wl : Addr} {o1 o2 : Obj} {q : Addr × Obj} {tl rest : List (Addr × Obj)} (N : News h₀ L h (tl ++ q :: (kn, o1) :: (wl, o2) :: rest)) (ha : Above (q :: (kn, o1) :: (wl, o2) :: rest) tl) (h1 : ∀ p ∈ rest, p.1 ≠ kn) (h2 : ∀ p ∈ rest, p.1 ≠ wl) (hg : Grow news rest) :
    News h₀ L h ((kn, o1) :: (wl, o2) :: (tl ++ rest)) ∧ (∀ p ∈ tl ++ rest, p.1 ≠ kn) ∧ (∀ p ∈ tl ++ rest, p.1 ≠ wl) ∧ Grow news (tl ++ rest) := by
  refine ⟨kst_newsOf N fun p hp => ?_, fun p hp => ?_, fun p hp => ?_, ?_⟩
  · simp only [List.mem_cons, List.mem_append] at hp ⊢
    rcases hp with h | h | h | h <;> simp [h]
  · rcases List.mem_append.mp hp with hp | hp
    · exact Nat.ne_of_gt (ha (kn, o1) (.tail _ (.head _)) p hp)
    · exact h1 p hp
  · rcases List.mem_append.mp hp with hp | hp
    · exact Nat.ne_of_gt (ha (wl, o2) (.tail _ (.tail _ (.head _))) p hp)
    · exact h2 p hp
  · exact hg.app fun x hx p hp => ha x (.tail _ (.tail _ (.tail _ hx))) p hp
theorem s_out {h : Heap} {T kn : Addr} {v : Value} {kvs : List Value} {n ck : Nat} {rest : List (Addr × Obj)} {known : List (Option St)} {ok : Bool} (N : News h₀ L h led) (mT : (T, ({ cls := .type "tuple", data := .seq #[.ref kn, v] n } : Obj)) ∈ led) (mk : (kn, listOf kvs.toArray ck) ∈ led)
    (mr : ∀ p ∈ rest, p ∈ led) (lT : AllLt T news) (l1 : AllLt kn news) (hg : Grow news rest) (hk : A2 (KIn w rest) kvs known) (hR : runS xs (fuelS xs) (List.replicate xs.length none) [(0, ⟨0, 0, []⟩)] = (known, ok)) (h5 : (ok = true ∧ v = .none) ∨ (ok = false ∧ ∃ z, v = .ref z))
    (h6 : known.length = xs.length) (h7 : ∀ st, some st ∈ known → st.hs.length ≤ fuelS xs) : ∃ news', News h₀ L h news' ∧ Grow news news' ∧ SOut w xs (.ref T) news' := by
  refine ⟨(T, { cls := .type "tuple", data := .seq #[.ref kn, v] n }) :: (kn, listOf kvs.toArray ck) :: rest, kst_newsOf N fun p hp => ?_, (hg.up l1).up lT, ⟨rfl, .head _, .tail _ (.head _), hk.mono fun _ _ h => h.mono fun p hp => .tail _ (.tail _ hp), hR, h5, h6, h7⟩⟩
  simp only [List.mem_cons] at hp
  rcases hp with rfl | rfl | hp
  · exact mT
  · exact mk
  · exact mr p hp
theorem s_met {h : Heap} {kn wl : Addr} {m' m₀ : Str → Option Value} {tk n ck cw : Nat} {c : SS} {rest : List (Addr × Obj)} {known : List (Option St)} {q : List (Int × St)} {kvs us : List Value} {R : List (Option St) × Bool} {N : Nat} {stored : List Str} (F : Fr h₀ L h m') (N' : News h₀ L h led) (mk : (kn, listOf kvs.toArray ck) ∈ led) (mw : (wl, listOf us.toArray cw) ∈ led) (mr : ∀ p ∈ rest, p ∈ led)
    (hf : SFacts w news kn wl ⟨n, known, q, kvs, us, ck, cw, rest⟩) (hp : SInv xs R N ⟨n, known, q, kvs, us, ck, cw, rest⟩) (hn : n < c.n) (hr : ∀ z, (∀ p ∈ ([] : List (Str × Value)), z ≠ p.1) → stored.contains z = false → m' z = m₀ z) :
    KswEnd h₀ L s (SLed kn wl) (fun _ => []) (SFacts w news kn wl) stored m₀ (SInv xs R N) (fun c => c.n) c { s with heap := h, toks := tk } := by
  refine ksw_end ⟨n, known, q, kvs, us, ck, cw, rest⟩ F N' (fun p hp => ?_) hf (List.forall_mem_nil _) hr hp hn
  simp only [SLed, List.mem_cons] at hp
  rcases hp with rfl | rfl | hp
  · exact mk
  · exact mw
  · exact mr p hp
theorem sLed_grow {kn wl : Addr} {c : SS} (hf : SFacts w news kn wl c) (l1 : AllLt kn news) (l2 : AllLt wl news) : Grow news (SLed kn wl c) := (hf.hg.up l2).up l1
end

theorem con_mono {w : World} {need : Nat} {f : Addr} {vs : List Value} {news : List (Addr × Obj)} {P P' : Value → List (Addr × Obj) → Prop} (C : Con w need f vs news P) (h : ∀ r n, P r n → P' r n) : Con w need f vs news P' :=
  fun _ _ _ _ _ _ _ _ _ _ _ _ _ _ _ _ _ _ _ _ B F X N T hk hd hu ret => C _ _ _ _ _ _ _ _ _ _ _ _ _ _ _ _ _ _ _ _ B F X N T hk hd hu fun r n' h' tk' F' N' p => ret r n' h' tk' F' N' (h _ _ p)
theorem ways2 (w : World) (news core : List (Addr × Obj)) (hsub : ∀ p ∈ core, p ∈ news) (i : Addr) (x : Ins) (t u : Tok) (n : Nat) (hm : (i, insObj x t u n) ∈ news) (p : Int) (pt : Tok) (v : Value) (st : St) (hst : StIn w core v st) (hlen : st.hs.length < 999) :
    Con w 12 298 [.ref i, .int p pt, v] news (fun r news' => ∃ tl, news' = tl ++ news ∧ Above news tl ∧ ((waysF x p st = none ∧ r = .none) ∨ ∃ D n2 qs, waysF x p st = some qs ∧ r = .ref D ∧ ∃ vs : List Value, (D, listOf vs.toArray n2) ∈ tl ++ core ∧ A2 (WIn w (tl ++ core)) vs qs)) := by
  refine con_mono (ways_ w news core hsub i x t u n hm p pt v st hst hlen) ?_
  rintro r n' ⟨c', ⟨tl, rfl, rfl, ha⟩, o⟩
  refine ⟨tl, rfl, ha, ?_⟩
  cases o with
  | none h hr => exact .inl ⟨h, hr⟩
  | some h hr hm hv =>
    exact .inr ⟨_, _, _, h, hr, _, hm, hv⟩

theorem s_hret {w : World} {h₀ h : Heap} {L : Addr} {s : Shared} {m : Str → Option Value} {news led : List (Addr × Obj)} {xs : List Ins} {Q : Value → Shared → Prop} {T kn : Addr} {v : Value} {kvs : List Value} {n ck tk : Nat} {rest : List (Addr × Obj)} {known : List (Option St)} {ok : Bool}
    (hret : ∀ r news' h' tk', Fr h₀ L h' m → News h₀ L h' news' → (Grow news news' ∧ SOut w xs r news') → Q r { s with heap := h', toks := tk' }) (F : Fr h₀ L h m) (N : News h₀ L h led) (mT : (T, ({ cls := .type "tuple", data := .seq #[.ref kn, v] n } : Obj)) ∈ led) (mk : (kn, listOf kvs.toArray ck) ∈ led)
    (mr : ∀ p ∈ rest, p ∈ led) (lT : AllLt T news) (l1 : AllLt kn news) (hg : Grow news rest) (hk : A2 (KIn w rest) kvs known) (hR : runS xs (fuelS xs) (List.replicate xs.length none) [(0, ⟨0, 0, []⟩)] = (known, ok)) (h5 : (ok = true ∧ v = .none) ∨ (ok = false ∧ ∃ z, v = .ref z))
    (h6 : known.length = xs.length) (h7 : ∀ st, some st ∈ known → st.hs.length ≤ fuelS xs) : Q (.ref T) { s with heap := h, toks := tk } := by
  obtain ⟨n9, N9, P9⟩ := s_out N mT mk mr lT l1 hg hk hR h5 h6 h7
  exact hret _ _ _ _ F N9 P9

theorem AllLt.of_sub {T : Addr} {news big : List (Addr × Obj)} (l : AllLt T big) (h : ∀ p ∈ news, p ∈ big) : AllLt T news := allLt_of fun p hp => ktn_ltOf l p (h p hp)
-- C7
set_option maxRecDepth 100000
set_option maxHeartbeats 8000000
theorem reset7 : True := by
  w_top off
  trivial

theorem linesC7_0 : True := by
  k_with_none
  (k_with "m subscriptTail" => (k_here; (with_reducible show wpAny _ _ (subscriptTail _ _ (Value.ref 90) (Value.str (Wd.str _) _)) _ _ _); k_dflt (refine' rows_item ?F ?X ?_; (case F => k_asm); (case X => k_asm)); intro a t0 t1 t2 t3 t4 hrow; dsimp only))
  (k_with "m subscriptTail" => (k_here; (with_reducible show wpAny _ _ (subscriptTail _ _ (Value.ref _) (Value.int _ _)) _ _ _); k_dflt (refine' topTup_K ?F ?X ?l ?a ?b ?c ?d ?_; (case F => k_asm); (case X => k_asm); (case l => assumption); (case a => decide); (case b => decide); (case c => rfl); (case d => rfl); k_whole)))
  (k_with "m subscriptTail" => (k_here; (with_reducible show wpAny _ _ (subscriptTail _ _ (Value.ref _) (Value.int (-1) _)) _ _ _); k_dflt (refine' my_last ?N ?m ?z ?x ?_; (case N => k_asm); (case m => k_mem); (case z => first | exact my_sz | exact my_sz_push); (case x => first | exact my_at | exact my_at_push); k_whole)))
  (k_with "m subscriptTail Name UnaryOp ref int" => (k_here; (with_reducible show wpAny _ _ (subscriptTail _ _ (Value.ref _) (Value.int (-1) _)) _ _ _); k_dflt (refine' my_last ?N ?m ?z ?x ?_; (case N => k_asm); (case m => k_mem); (case z => first | exact my_sz | exact my_sz_push); (case x => first | exact my_at | exact my_at_push); k_whole)))
  (k_with "m ite" => (refine ite_neg (wd_plain _) ?_))
  (k_with "m mem" => (first | exact List.mem_cons_self | (refine List.mem_cons_of_mem _ ?_; walk_at "mem") | (refine List.mem_append_left _ ?_; walk_at "mem") | (refine List.mem_append_right _ ?_; walk_at "mem") | ktr_member | assumption))
  (k_with "m room" => (ktr_room))
  (k_with "m sub" => (first | exact fun _ h => h | (refine fun p hp => List.mem_cons_of_mem _ ((?_ : ∀ p, _ → _) p hp); walk_at "sub") | (refine fun p hp => List.mem_append_right _ ((?_ : ∀ p, _ → _) p hp); walk_at "sub") | (refine fun p hp => List.mem_append_left _ ((?_ : ∀ p, _ → _) p hp); walk_at "sub")))
  (k_with "m con start" => (intro dp un gd cn cs a ccd cl outer A₀ base h₀ L m s mean mg mb Q E B F X N T hk hdp hun hret; (refine wpAny_call ?_); k_dflt ktr_enter))
  (k_with "m nz" => (first | exact my_nz | exact my_nz_push))
  (k_with "m compareOp Eq ref ref" => (k_here; (with_reducible show wpAny _ _ (compareOp CmpOp.Eq (Value.ref _) (Value.ref _)) _ _ _); first | k_dflt (refine' my_eq_nil_t ?N ?a ?b ?u ?_; (case N => k_asm); (case a => k_mem); (case b => k_mem); (case u => ktr_units)) | k_dflt (refine' my_eq_nil_f ?N ?a ?b ?z ?u ?_; (case N => k_asm); (case a => k_mem); (case b => k_mem); (case z => walk_at "nz"); (case u => ktr_units))))
  (k_with "m compareOp NotEq ref ref" => (k_here; (with_reducible show wpAny _ _ (compareOp CmpOp.NotEq (Value.ref _) (Value.ref _)) _ _ _); first | k_dflt (refine' my_ne_nil_f ?N ?a ?b ?u ?_; (case N => k_asm); (case a => k_mem); (case b => k_mem); (case u => ktr_units)) | k_dflt (refine' my_ne_nil_t ?N ?a ?b ?z ?u ?_; (case N => k_asm); (case a => k_mem); (case b => k_mem); (case z => walk_at "nz"); (case u => ktr_units))))
  (k_with "m alllt" => (first | assumption | exact allLt_of (by assumption) | exact ⟨by assumption, AllLt.up (by assumption) (by walk_at "alllt")⟩))
  (k_with "m grow" => (first | exact Grow.refl _ | (refine Grow.cons ?_ ?_; (walk_at "grow"); (k_dflt walk_at "alllt")) | (refine Grow.app ?_ ?_; (walk_at "grow"); assumption) | assumption))
  (k_with "m grow2" => (first | exact Grow2.refl _ _ | (apply Grow2.cons; (walk_at "grow2"); (k_dflt walk_at "alllt")) | (apply Grow2.app; (walk_at "grow2"); assumption)))
  (k_with "m call ref" => (k_here; (with_reducible show wpAny _ _ (call (Value.ref 214) [Value.ref _]) _ _ _); k_dflt (refine' con_use ?k1 ?k2 ?k3 ?k4 ?k5 ?kK (popped _ _ _ _ _ _ _ ?km) ?kd ?ku (pure_ret ?_); (case k1 => k_asm); (case k2 => k_asm); (case k3 => k_asm); (case k4 => k_asm); (case k5 => k_asm); (case kK => first | exact rfl | assumption); (case km => k_mem); (case kd => ktr_room); (case ku => ktr_units); intro t9 h9 tk9 F9 N9; (try dsimp only))))
  (k_with "m call ref" => (k_here; (with_reducible show wpAny _ _ (call (Value.ref 221) [Value.ref _]) _ _ _); k_dflt (refine' con_use ?k1 ?k2 ?k3 ?k4 ?k5 ?kK (pushed _ _ _ _ _ _ _ ?km) ?kd ?ku (pure_ret ?_); (case k1 => k_asm); (case k2 => k_asm); (case k3 => k_asm); (case k4 => k_asm); (case k5 => k_asm); (case kK => first | exact rfl | assumption); (case km => k_mem); (case kd => ktr_room); (case ku => ktr_units); intro t9 h9 tk9 F9 N9; (try dsimp only))))
  (k_with "m call ref" => (k_here; (with_reducible show wpAny _ _ (call (Value.ref 228) [Value.ref _]) _ _ _); k_dflt (refine' con_use ?k1 ?k2 ?k3 ?k4 ?k5 ?kK (needed _ _ _ _ _ _ _ ?km) ?kd ?ku (pure_ret ?_); (case k1 => k_asm); (case k2 => k_asm); (case k3 => k_asm); (case k4 => k_asm); (case k5 => k_asm); (case kK => first | exact rfl | assumption); (case km => k_mem); (case kd => ktr_room); (case ku => ktr_units); intro t9 h9 tk9 F9 N9; (try dsimp only))))
  (k_with "m call ref" => (k_here; (with_reducible show wpAny _ _ (call (Value.ref 235) [Value.ref _]) _ _ _); k_dflt (refine' con_use ?k1 ?k2 ?k3 ?k4 ?k5 ?kK (bindings_made _ _ _ _ _ _ _ ?km) ?kd ?ku (pure_ret ?_); (case k1 => k_asm); (case k2 => k_asm); (case k3 => k_asm); (case k4 => k_asm); (case k5 => k_asm); (case kK => first | exact rfl | assumption); (case km => k_mem); (case kd => ktr_room); (case ku => ktr_units); intro t9 h9 tk9 F9 N9; (try dsimp only))))
  (k_with "m call ref" => (k_here; (with_reducible show wpAny _ _ (call (Value.ref 242) [Value.ref _]) _ _ _); k_dflt (refine' con_use ?k1 ?k2 ?k3 ?k4 ?k5 ?kK (handlers_made _ _ _ _ _ _ _ ?km) ?kd ?ku (pure_ret ?_); (case k1 => k_asm); (case k2 => k_asm); (case k3 => k_asm); (case k4 => k_asm); (case k5 => k_asm); (case kK => first | exact rfl | assumption); (case km => k_mem); (case kd => ktr_room); (case ku => ktr_units); intro t9 h9 tk9 F9 N9; (try dsimp only))))
  (k_with "m call builtin:list.pop" => (k_here; (with_reducible show wpAny _ _ (call (Value.builtin "list.pop") [Value.ref _]) _ _ _); k_dflt (refine' my_pop ?F ?N ?U ?z ?_; (case F => k_asm); (case N => k_asm); (case U => k_upd); (case z => ((have : sizeLine = 16777216 := rfl); omega))); intro h' F' N'))
  (k_with "m call builtin:len" => (k_here; (with_reducible show wpAny _ _ (call (Value.builtin "len") [Value.ref _]) _ _ _); k_dflt (refine' my_len ?N ?m ?e ?f ?_; (case N => k_asm); (case m => k_mem); (case e => first | assumption | exact A2.length (by assumption)); (case f => first | decide | omega))))
  (k_with "m smono" => (refine' StIn.mono ?ss ?sh; (case sh => assumption); (case ss => walk_at "sub")))
  (k_with "m dmono" => (refine' DatAll.mono ?ds ?dh; (case dh => assumption); (case ds => walk_at "sub")))
  (k_with "m datall" => first | exact DatAll.nil | walk_at "dmono")
  (k_with "m stin" => (refine' StIn.mk rfl ?m1 ?m2 ?m3 ?m4; (case m1 => k_mem); (case m2 => k_mem); (case m3 => k_mem); (case m4 => walk_at "datall")))
  (k_with "m len" => first | assumption | ((try dsimp only); omega))
  (k_with "m dinm" => (refine' DatIn.mono ?dis ?dih; (case dih => assumption); (case dis => walk_at "sub")))
  (k_with "m win" => exact ⟨_, _, _, _, rfl, by k_mem, by first | walk_at "smono" | walk_at "stin"⟩)
  (k_with "m call ref" => (k_here; (with_reducible show wpAny _ _ (call (Prod.fst _) _) _ _ _); k_dflt (show wpAny _ _ (call (Value.ref 263) [Value.ref _]) _ _ _); k_dflt (refine' con_use ?k1 ?k2 ?k3 ?k4 ?k5 ?kK (told_ _ _ _ _ ?ks ?kl) ?kd ?ku ?_; (case k1 => k_asm); (case k2 => k_asm); (case k3 => k_asm); (case k4 => k_asm); (case k5 => k_asm); (case kK => first | exact rfl | assumption); (case ks => walk_at "smono"); (case kl => walk_at "len"); (case kd => ktr_room); (case ku => ktr_units); intro r9 n9 h9 tk9 F9 N9 P9; obtain ⟨⟨tl9, rfl, ha9⟩, D9, rfl, hd9⟩ := P9)))
  (k_with "m all" => first | exact List.forall_mem_nil _ | (refine List.forall_mem_cons.mpr ⟨?_, ?_⟩; (k_ne); (k_all)) | assumption | exact AllLt.ne (by walk_at "alltail"))
  (k_with "m alltail" => first | assumption | exact allLt_of (by assumption) | exact And.right (by assumption) | exact And.right (And.right (by assumption)) | exact And.right (And.right (And.right (by assumption))) | exact And.right (And.right (And.right (And.right (by assumption)))) | exact And.right (And.right (And.right (And.right (And.right (by assumption))))) | exact And.right (And.right (And.right (And.right (And.right (And.right (by assumption)))))) | exact And.right (And.right (And.right (And.right (And.right (And.right (And.right (by assumption))))))) | exact And.right (And.right (And.right (And.right (And.right (And.right (And.right (And.right (by assumption)))))))) | exact And.right (And.right (And.right (And.right (And.right (And.right (And.right (And.right (And.right (by assumption))))))))) | exact And.right (And.right (And.right (And.right (And.right (And.right (And.right (And.right (And.right (And.right (by assumption)))))))))) | exact And.right (And.right (And.right (And.right (And.right (And.right (And.right (And.right (And.right (And.right (And.right (by assumption))))))))))) | exact And.right (And.right (And.right (And.right (And.right (And.right (And.right (And.right (And.right (And.right (And.right (And.right (by assumption)))))))))))) | exact And.right (And.right (And.right (And.right (And.right (And.right (And.right (And.right (And.right (And.right (And.right (And.right (And.right (by assumption))))))))))))) | exact And.right (And.right (And.right (And.right (And.right (And.right (And.right (And.right (And.right (And.right (And.right (And.right (And.right (And.right (by assumption)))))))))))))) | exact And.right (And.right (And.right (And.right (And.right (And.right (And.right (And.right (And.right (And.right (And.right (And.right (And.right (And.right (And.right (by assumption))))))))))))))) | exact And.right (And.right (And.right (And.right (And.right (And.right (And.right (And.right (And.right (And.right (And.right (And.right (And.right (And.right (And.right (And.right (by assumption)))))))))))))))) | exact AllLt.up (by assumption) (by walk_at "alltail"))
  (k_with "m binaryOp Mult ref int" => (k_here; (with_reducible show wpAny _ _ (binaryOp Operator.Mult (Value.ref _) (Value.int _ _)) _ _ _); k_dflt (refine' my_times ?tN ?tF ?tM ?tZ ?_; (case tN => k_asm); (case tF => k_asm); (case tM => k_mem); (case tZ => omega)); intro kn h8 F8 N8 l1; (try k_lt l1)))
  (k_with "m same" => (first | (intro z hz2 hz3; (simp only [List.contains_cons, List.contains_nil, Bool.or_false, Bool.or_eq_false_iff, beq_eq_false_iff_ne, ne_eq] at hz3); (simp [kstB, hz3]; done))))
  (k_with "m exec While Compare cons nil" => (k_here; k_dflt (refine' s_while (news := news) (xs := xs) ?s1 ?s2 ?sF ?sN ?m1 ?m2 ?m3 ?m4 ?m5 ?m6 ?m7 ?n1 ?n2 ?n3 ?l1 ?l2 ?l3 ?l4 ?l5 ?l6 ?sT); (case sF => k_asm); (case sN => k_asm); (case s1 => exact rfl); (case s2 => exact rfl); (case m1 => k_mem); (case m2 => k_mem); (case m3 => k_mem); (case m4 => k_mem); (case m5 => k_mem); (case m6 => k_mem); (case m7 => walk_at "sub"); (case n1 => exact ⟨by k_ne, by k_ne, by k_ne, by k_ne⟩); (case n2 => exact ⟨by k_ne, by k_ne, by k_ne, by k_ne⟩); (case n3 => k_ne); (case l1 => walk_at "alltail"); (case l2 => walk_at "alltail"); (case l3 => walk_at "alltail"); (case l4 => walk_at "alltail"); (case l5 => walk_at "alltail"); (case l6 => walk_at "alltail"); (case' sT => intro c9 u9 h9 tk9 hf9 hp9 L1 L2 hkw F9 N9; have hT9 := sTurn hf9 hp9 h4 hok; obtain ⟨n8, known8, ws8, kvs8, wvs8, ck8, cw8, rest8⟩ := c9; dsimp only [SLed] at N9; dsimp only at hT9; have hr1 := hf9.h1; have hr2 := hf9.h2; have hg9 := hf9.hg; have hk9 := hf9.hk; have hkl : kvs8.length = xs.length := hf9.hk.length.trans hp9.len; have hwl9 : wvs8.length ≤ fuelS xs := (by have e1 := hf9.hw.length; have e2 := hp9.ms; have e3 := hp9.le; dsimp only at e1 e2 e3; omega); have hlen9 := hp9.len; have hlk9 := hp9.lk; dsimp only at hr1 hr2 hg9 hk9 hlen9 hlk9; have h1r := hg9.sub _ h1; have h2r := hg9.sub _ h2; have h3r := hg9.sub _ h3; rcases hT9 with ⟨hR⟩ | ⟨ha, hst, hp0, hl, hR⟩ | ⟨ha, hst, hp0, hl, hkv, hst', hs1, hs2, hR, hnx, hfx, hlt⟩ | ⟨ha, hst, hp0, hl, hkv, hv, hi, hs1, hul, hks, hlk, hwq, hR, hnx, hl2, hlt⟩ <;> (try (have hir := hg9.sub _ hi)) <;> (try (have hst9 := hst; obtain ⟨rfl, g1, g2, g3, g4⟩ := hst9)) <;> (try (have hst8 := hst'; obtain ⟨rfl, e1, e2, e3, e4⟩ := hst8)))))
  (k_with "m subscriptTail Name Name ref int" => (k_here; (with_reducible show wpAny _ _ (subscriptTail _ _ (Value.ref _) (Value.int _ _)) _ _ _); k_dflt (refine' my_item ?iN ?iM ?i0 ?iF ?iX ?_; (case iN => k_asm); (case iM => k_mem); (case i0 => first | assumption | omega); (case iF => omega); (case iX => assumption); k_whole)))
  (k_with "m subscriptTail Attribute Name ref int" => (k_here; (with_reducible show wpAny _ _ (subscriptTail _ _ (Value.ref _) (Value.int _ _)) _ _ _); k_dflt (refine' my_item ?iN ?iM ?i0 ?iF ?iX ?_; (case iN => k_asm); (case iM => k_mem); (case i0 => first | assumption | omega); (case iF => omega); (case iX => assumption); k_whole)))
  (k_with "m setItem ref int" => (k_here; (with_reducible show wpAny _ _ (setItem (Value.ref _) (Value.int _ _) _) _ _ _); k_dflt (refine' my_setItem ?sF ?sN ?sU ?s0 ?s1 ?sf ?_; (case sF => k_asm); (case sN => k_asm); (case sU => k_upd); (case s0 => assumption); (case s1 => omega); (case sf => omega)); intro h' F' N'))
  (k_with "m compareOp NotEq ref ref" => (k_here; (with_reducible show wpAny _ _ (compareOp CmpOp.NotEq (Value.ref _) (Value.ref _)) _ _ _); k_dflt (refine' my_sD_ne ?N ?a ?b ?u ?_; (case N => k_asm); (case a => walk_at "dinm"); (case b => walk_at "dinm"); (case u => ktr_units))))
  (k_with "m call ref" => (k_here; (with_reducible show wpAny _ _ (call (Value.ref 298) [Value.ref _, Value.int _ _, Value.ref _]) _ _ _); k_dflt (refine' con_use ?k1 ?k2 ?k3 ?k4 ?k5 ?kK (ways2 _ _ _ ?wb _ _ _ _ _ ?wm _ _ _ _ ?ws ?wl) ?kd ?ku ?_; (case k1 => k_asm); (case k2 => k_asm); (case k3 => k_asm); (case k4 => k_asm); (case k5 => k_asm); (case kK => first | exact rfl | assumption); (case ws => assumption); (case wb => walk_at "sub"); (case wm => k_mem); (case wl => omega); (case kd => ktr_room); (case ku => ktr_units); intro r9 n9 h9 tk9 F9 N9 P9; obtain ⟨tl8, rfl, ha8, o8⟩ := P9; obtain ⟨N7, hr1', hr2', hg8⟩ := s_after N9 ha8 hr1 hr2 hg9; clear N9; rcases o8 with ⟨o9, rfl⟩ | ⟨D8, n9, qs9, o9, rfl, vs9, hm8, hv8⟩ <;> (try (have hql := hl2 _ o9; have hvl := hv8.length; rcases vs9 with _ | ⟨v9, vs9⟩ <;> simp only [List.length_cons, List.length_nil] at hvl)))))
  (k_with "m call builtin:list.extend" => ((k_here; (with_reducible show wpAny _ _ (call (Value.builtin "list.extend") [Value.ref _, Value.ref _]) _ _ _); first | k_dflt (refine' my_extend0 ?F ?N ?b ?U ?z ?_; (case F => k_asm); (case N => k_asm); (case b => k_mem); (case U => k_upd); (case z => omega)) | k_dflt (refine' my_extend1 ?F ?N ?b ?U ?z ?_; (case F => k_asm); (case N => k_asm); (case b => k_mem); (case U => k_upd); (case z => omega))); intro h' F' N'))
  trivial
theorem standings_ (w : World) (news : List (Addr × Obj)) (f : Addr) (xs : List Ins) (d : Int) (hf : FnIn w news (.ref f) xs d) (hx : xs.length < 400) (hok : ∀ x ∈ xs, x.w.sort = Str.ofString "place" → 0 ≤ x.k) :
    Con w 20 305 [.ref f] news (fun r news' => Grow news news' ∧ SOut w xs r news') := by
  have hf0 := hf
  obtain @⟨fx, fd, cl, kl, nd, nc, nk, vs, ks, t1, t2, t3, t4, t5, t6, tf, td, hv, h1, h2, h3, h4, h5, h6⟩ := hf
  cases hv
  have h7 := h4.length
  have hN9 : fuelS xs ≤ 900 := by unfold fuelS; omega
  walk_at "con start"
  k_steps
  · exact s_hret hret (by k_asm) (by k_asm) (by k_mem) (by k_mem) (by walk_at "sub") (AllLt.of_sub (big := rest8) (by walk_at "alltail") hg9.sub) L1 hg9 hk9 hR (.inl ⟨rfl, rfl⟩) hlen9 hlk9
  · exact s_hret hret (by k_asm) (by k_asm) (by k_mem) (by k_mem) (by walk_at "sub") (AllLt.of_sub (big := rest8) (by walk_at "alltail") hg9.sub) L1 hg9 hk9 hR (.inr ⟨rfl, _, rfl⟩) hlen9 hlk9
  · exact s_met (by k_asm) (by k_asm) (by k_mem) (by k_mem) (by walk_at "sub") (hfx _) (hnx (by first | assumption | exact @of_decide_eq_true _ (Classical.propDecidable _) (by assumption)) _ _ _ _ _) hlt (by walk_at "same")
  · exact s_hret hret (by k_asm) (by k_asm) (by k_mem) (by k_mem) (by walk_at "sub") (AllLt.of_sub (by walk_at "alltail") (fun p hp => (by walk_at "sub" : ∀ p ∈ rest8, p ∈ _) p (hg9.sub p hp))) L1 hg9 hk9 (hR (by first | assumption | exact @of_decide_eq_false _ (Classical.propDecidable _) (by assumption))) (.inr ⟨rfl, _, rfl⟩) hlen9 hlk9
  · exact s_hret hret (by k_asm) (by k_asm) (by k_mem) (by k_mem) (by walk_at "sub") (AllLt.of_sub (big := tl8 ++ rest8) (by walk_at "alltail") hg8.sub) L1 hg9 hks (hR o9) (.inr ⟨rfl, _, rfl⟩) (by simpa using hlen9) hlk
  · have hsb : ∀ p ∈ rest8, p ∈ tl8 ++ rest8 := fun p hp => List.mem_append_right _ hp
    have e9 := hv8.nil_left
    subst e9
    exact s_met (by k_asm) (by k_asm) (by k_mem) (by k_mem) (by walk_at "sub") ⟨hks.mono (fun _ _ h => h.mono hsb), by simpa using hwq.mono (fun _ _ h => h.mono hsb), hr1', hr2', hg8⟩ (hnx _ o9 _ _ _ _ _) hlt (by walk_at "same")
  · have hsb : ∀ p ∈ rest8, p ∈ tl8 ++ rest8 := fun p hp => List.mem_append_right _ hp
    exact s_met (by k_asm) (by k_asm) (by k_mem) (by k_mem) (by walk_at "sub") ⟨hks.mono (fun _ _ h => h.mono hsb), (hwq.mono (fun _ _ h => h.mono hsb)).append hv8, hr1', hr2', hg8⟩ (hnx _ o9 _ _ _ _ _) hlt (by walk_at "same")
-- P3
section
variable {prog : Program} {w : World} {A : Around} {E : Value → Shared → Prop} {s : Shared} {env : Env} {h₀ : Heap} {body : List Stmt} {Q : Flow → Shared → Prop} {l : Addr} {vs : List Value} {n : Nat} {m₀ : Str → Option Value} {news : List (Addr × Obj)}
theorem my_enumI {x : Str} {z : Int} {tz : Tok} {elts : List Expr} {k : Nat} {pos : Pos} (stored : List Str) (P : Nat → Int × Tok → Prop)
    (hh : A.handled = none) (F : Fr h₀ env.locals s.heap m₀) (N : News h₀ env.locals s.heap news) (hm : (l, listOf vs.toArray n) ∈ news) (hk : m₀ x = some (.int z tz)) (hp0 : P 0 (z, tz))
    (turn : ∀ (c : Int × Tok) (i : Nat) v (u : Str → Option Value) h₁ tk₁ own T t, vs[i]? = some v → P i c → IsTup h₁ T #[.int (i : Int) t, v] →
      Fr h₀ env.locals h₁ (kstB (fun z => if stored.contains z then u z else m₀ z) [(x, .int c.1 c.2)]) → News h₀ env.locals h₁ (own ++ news) →
      wpAny (model prog w) A (assign (.Tuple elts k pos) env (.ref T)) (fun _ s₃ => wpAny (model prog w) A (execs body env) (TurnPost h₀ env.locals (own ++ news) (fun c => [(x, .int c.1 c.2)]) stored m₀ (P (i + 1)) s Q) E s₃) E { s with heap := h₁, toks := tk₁ })
    (done : ∀ (c : Int × Tok) (u : Str → Option Value) h' tk, Fr h₀ env.locals h' (kstB (fun z => if stored.contains z then u z else m₀ z) [(x, .int c.1 c.2)]) → News h₀ env.locals h' news → P vs.length c → Q .next { s with heap := h', toks := tk }) :
    wpAny (model prog w) A (call (.type "enumerate") [.ref l]) (fun xv s₁ => wpAny (model prog w) A (pyIter xv) (fun it s₂ => TurnsAt prog w A h₀ env (.Tuple elts k pos) body Q E it s₂) E s₁) E s :=
  my_enum (fun c : Int × Tok => [(x, .int c.1 c.2)]) stored P (z, tz) hh F N hm (by intro p hp; rw [List.mem_singleton.mp hp]; exact hk) hp0 turn done
end
theorem my_max3 {prog : Program} {w : World} {A : Around} {E : Value → Shared → Prop} {s : Shared} {h₀ : Heap} {L : Addr} {m : Str → Option Value} {news : List (Addr × Obj)} {a b c : Int} {t u x : Tok} {Q : Value → Shared → Prop} (hh : A.handled = none) (F : Fr h₀ L s.heap m) (N : News h₀ L s.heap news)
    (h : ∀ h' tk tv, Fr h₀ L h' m → News h₀ L h' news → Q (.int (max (max a b) c) tv) { s with heap := h', toks := tk }) :
    wpAny (model prog w) A (call (.builtin "max") [.int a t, .int b u, .int c x]) Q E s := by
  refine max_three_ints hh fun h' tk hk => ?_
  have key := fun tv => h h' tk tv (F.grownK hk) (N.grown hk)
  by_cases h1 : b > a <;> by_cases h2 : c > b <;> by_cases h3 : c > a <;> simp only [h1, h2, h3, if_true, if_false]
  · have e : max (max a b) c = c := by omega
    rw [e] at key; exact key _
  · omega
  · have e : max (max a b) c = b := by omega
    rw [e] at key; exact key _
  · have e : max (max a b) c = b := by omega
    rw [e] at key; exact key _
  · have e : max (max a b) c = c := by omega
    rw [e] at key; exact key _
  · have e : max (max a b) c = a := by omega
    rw [e] at key; exact key _
  · have e : max (max a b) c = c := by omega
    rw [e] at key; exact key _
  · have e : max (max a b) c = a := by omega
    rw [e] at key; exact key _
theorem turn_endI {h₀ h' : Heap} {L : Addr} {led : List (Addr × Obj)} {x : Str} {z : Int} {t : Tok} {stored : List Str} {m₀ m' : Str → Option Value} {P : Int × Tok → Prop} {s : Shared} {tk : Nat}
    (F : Fr h₀ L h' m') (N : News h₀ L h' led) (hk : m' x = some (.int z t)) (hr : ∀ y, (∀ p ∈ [(x, Value.int z t)], y ≠ p.1) → stored.contains y = false → m' y = m₀ y) (hp : P (z, t)) :
    TurnEnd h₀ L led (fun c : Int × Tok => [(x, .int c.1 c.2)]) stored m₀ P s { s with heap := h', toks := tk } :=
  turn_end (z, t) F N (by intro p hp; rw [List.mem_singleton.mp hp]; exact hk) hr hp
theorem mem_over {tl core led : List (Addr × Obj)} {p : Addr × Obj} (h : p ∈ tl ++ core) (s : ∀ p ∈ core, p ∈ led) : p ∈ tl ++ led := by
  rcases List.mem_append.mp h with h | h
  · exact List.mem_append_left _ h
  · exact List.mem_append_right _ (s _ h)
/-- what greatest_depth has found after k places -/
def lateV (o : Option St) : Int := match o with | none => 0 | some l => l.v
noncomputable def depthTo (xs : List Ins) (known : List (Option St)) : Nat → Int
  | 0 => 0
  | k + 1 => match known[k]?, xs[k]? with
    | some (some st), some x => max (max (depthTo xs known k) st.v) (lateV (afterF x st))
    | _, _ => depthTo xs known k
theorem depthTo_none {xs : List Ins} {known : List (Option St)} {k : Nat} (h : known[k]? = some none) : depthTo xs known (k + 1) = depthTo xs known k := by
  rw [depthTo, h]
theorem depthTo_some {xs : List Ins} {known : List (Option St)} {k : Nat} {st : St} {x : Ins} (h : known[k]? = some (some st)) (hx : xs[k]? = some x) : depthTo xs known (k + 1) = max (max (depthTo xs known k) st.v) (lateV (afterF x st)) := by
  rw [depthTo, h, hx]
-- C8
set_option maxRecDepth 100000
set_option maxHeartbeats 8000000
theorem reset8 : True := by
  w_top off
  trivial

theorem linesC8_0 : True := by
  k_with_none
  (k_with "m subscriptTail" => (k_here; (with_reducible show wpAny _ _ (subscriptTail _ _ (Value.ref 90) (Value.str (Wd.str _) _)) _ _ _); k_dflt (refine' rows_item ?F ?X ?_; (case F => k_asm); (case X => k_asm)); intro a t0 t1 t2 t3 t4 hrow; dsimp only))
  (k_with "m subscriptTail" => (k_here; (with_reducible show wpAny _ _ (subscriptTail _ _ (Value.ref _) (Value.int _ _)) _ _ _); k_dflt (refine' topTup_K ?F ?X ?l ?a ?b ?c ?d ?_; (case F => k_asm); (case X => k_asm); (case l => assumption); (case a => decide); (case b => decide); (case c => rfl); (case d => rfl); k_whole)))
  (k_with "m subscriptTail" => (k_here; (with_reducible show wpAny _ _ (subscriptTail _ _ (Value.ref _) (Value.int (-1) _)) _ _ _); k_dflt (refine' my_last ?N ?m ?z ?x ?_; (case N => k_asm); (case m => k_mem); (case z => first | exact my_sz | exact my_sz_push); (case x => first | exact my_at | exact my_at_push); k_whole)))
  (k_with "m subscriptTail Name UnaryOp ref int" => (k_here; (with_reducible show wpAny _ _ (subscriptTail _ _ (Value.ref _) (Value.int (-1) _)) _ _ _); k_dflt (refine' my_last ?N ?m ?z ?x ?_; (case N => k_asm); (case m => k_mem); (case z => first | exact my_sz | exact my_sz_push); (case x => first | exact my_at | exact my_at_push); k_whole)))
  (k_with "m ite" => (refine ite_neg (wd_plain _) ?_))
  (k_with "m mem" => (first | exact List.mem_cons_self | (refine List.mem_cons_of_mem _ ?_; walk_at "mem") | (refine List.mem_append_left _ ?_; walk_at "mem") | (refine List.mem_append_right _ ?_; walk_at "mem") | ktr_member | assumption))
  (k_with "m room" => (ktr_room))
  (k_with "m sub" => (first | exact fun _ h => h | (refine fun p hp => List.mem_cons_of_mem _ ((?_ : ∀ p, _ → _) p hp); walk_at "sub") | (refine fun p hp => List.mem_append_right _ ((?_ : ∀ p, _ → _) p hp); walk_at "sub") | (refine fun p hp => List.mem_append_left _ ((?_ : ∀ p, _ → _) p hp); walk_at "sub")))
  (k_with "m con start" => (intro dp un gd cn cs a ccd cl outer A₀ base h₀ L m s mean mg mb Q E B F X N T hk hdp hun hret; (refine wpAny_call ?_); k_dflt ktr_enter))
  (k_with "m nz" => (first | exact my_nz | exact my_nz_push))
  (k_with "m compareOp Eq ref ref" => (k_here; (with_reducible show wpAny _ _ (compareOp CmpOp.Eq (Value.ref _) (Value.ref _)) _ _ _); first | k_dflt (refine' my_eq_nil_t ?N ?a ?b ?u ?_; (case N => k_asm); (case a => k_mem); (case b => k_mem); (case u => ktr_units)) | k_dflt (refine' my_eq_nil_f ?N ?a ?b ?z ?u ?_; (case N => k_asm); (case a => k_mem); (case b => k_mem); (case z => walk_at "nz"); (case u => ktr_units))))
  (k_with "m compareOp NotEq ref ref" => (k_here; (with_reducible show wpAny _ _ (compareOp CmpOp.NotEq (Value.ref _) (Value.ref _)) _ _ _); first | k_dflt (refine' my_ne_nil_f ?N ?a ?b ?u ?_; (case N => k_asm); (case a => k_mem); (case b => k_mem); (case u => ktr_units)) | k_dflt (refine' my_ne_nil_t ?N ?a ?b ?z ?u ?_; (case N => k_asm); (case a => k_mem); (case b => k_mem); (case z => walk_at "nz"); (case u => ktr_units))))
  (k_with "m alllt" => (first | assumption | exact allLt_of (by assumption) | exact ⟨by assumption, AllLt.up (by assumption) (by walk_at "alllt")⟩))
  (k_with "m grow" => (first | exact Grow.refl _ | (refine Grow.cons ?_ ?_; (walk_at "grow"); (k_dflt walk_at "alllt")) | (refine Grow.app ?_ ?_; (walk_at "grow"); assumption) | assumption))
  (k_with "m grow2" => (first | exact Grow2.refl _ _ | (apply Grow2.cons; (walk_at "grow2"); (k_dflt walk_at "alllt")) | (apply Grow2.app; (walk_at "grow2"); assumption)))
  (k_with "m call ref" => (k_here; (with_reducible show wpAny _ _ (call (Value.ref 214) [Value.ref _]) _ _ _); k_dflt (refine' con_use ?k1 ?k2 ?k3 ?k4 ?k5 ?kK (popped _ _ _ _ _ _ _ ?km) ?kd ?ku (pure_ret ?_); (case k1 => k_asm); (case k2 => k_asm); (case k3 => k_asm); (case k4 => k_asm); (case k5 => k_asm); (case kK => first | exact rfl | assumption); (case km => k_mem); (case kd => ktr_room); (case ku => ktr_units); intro t9 h9 tk9 F9 N9; (try dsimp only))))
  (k_with "m call ref" => (k_here; (with_reducible show wpAny _ _ (call (Value.ref 221) [Value.ref _]) _ _ _); k_dflt (refine' con_use ?k1 ?k2 ?k3 ?k4 ?k5 ?kK (pushed _ _ _ _ _ _ _ ?km) ?kd ?ku (pure_ret ?_); (case k1 => k_asm); (case k2 => k_asm); (case k3 => k_asm); (case k4 => k_asm); (case k5 => k_asm); (case kK => first | exact rfl | assumption); (case km => k_mem); (case kd => ktr_room); (case ku => ktr_units); intro t9 h9 tk9 F9 N9; (try dsimp only))))
  (k_with "m call ref" => (k_here; (with_reducible show wpAny _ _ (call (Value.ref 228) [Value.ref _]) _ _ _); k_dflt (refine' con_use ?k1 ?k2 ?k3 ?k4 ?k5 ?kK (needed _ _ _ _ _ _ _ ?km) ?kd ?ku (pure_ret ?_); (case k1 => k_asm); (case k2 => k_asm); (case k3 => k_asm); (case k4 => k_asm); (case k5 => k_asm); (case kK => first | exact rfl | assumption); (case km => k_mem); (case kd => ktr_room); (case ku => ktr_units); intro t9 h9 tk9 F9 N9; (try dsimp only))))
  (k_with "m call ref" => (k_here; (with_reducible show wpAny _ _ (call (Value.ref 235) [Value.ref _]) _ _ _); k_dflt (refine' con_use ?k1 ?k2 ?k3 ?k4 ?k5 ?kK (bindings_made _ _ _ _ _ _ _ ?km) ?kd ?ku (pure_ret ?_); (case k1 => k_asm); (case k2 => k_asm); (case k3 => k_asm); (case k4 => k_asm); (case k5 => k_asm); (case kK => first | exact rfl | assumption); (case km => k_mem); (case kd => ktr_room); (case ku => ktr_units); intro t9 h9 tk9 F9 N9; (try dsimp only))))
  (k_with "m call ref" => (k_here; (with_reducible show wpAny _ _ (call (Value.ref 242) [Value.ref _]) _ _ _); k_dflt (refine' con_use ?k1 ?k2 ?k3 ?k4 ?k5 ?kK (handlers_made _ _ _ _ _ _ _ ?km) ?kd ?ku (pure_ret ?_); (case k1 => k_asm); (case k2 => k_asm); (case k3 => k_asm); (case k4 => k_asm); (case k5 => k_asm); (case kK => first | exact rfl | assumption); (case km => k_mem); (case kd => ktr_room); (case ku => ktr_units); intro t9 h9 tk9 F9 N9; (try dsimp only))))
  (k_with "m call builtin:len" => (k_here; (with_reducible show wpAny _ _ (call (Value.builtin "len") [Value.ref _]) _ _ _); k_dflt (refine' my_len ?N ?m ?e ?f ?_; (case N => k_asm); (case m => k_mem); (case e => first | assumption | exact A2.length (by assumption)); (case f => first | decide | omega))))
  (k_with "m smono" => (refine' StIn.mono ?ss ?sh; (case sh => assumption); (case ss => walk_at "sub")))
  (k_with "m dmono" => (refine' DatAll.mono ?ds ?dh; (case dh => assumption); (case ds => walk_at "sub")))
  (k_with "m datall" => first | exact DatAll.nil | walk_at "dmono")
  (k_with "m stin" => (refine' StIn.mk rfl ?m1 ?m2 ?m3 ?m4; (case m1 => k_mem); (case m2 => k_mem); (case m3 => k_mem); (case m4 => walk_at "datall")))
  (k_with "m len" => first | assumption | ((try dsimp only); omega))
  (k_with "m dinm" => (refine' DatIn.mono ?dis ?dih; (case dih => assumption); (case dis => walk_at "sub")))
  (k_with "m win" => exact ⟨_, _, _, _, rfl, by k_mem, by first | walk_at "smono" | walk_at "stin"⟩)
  (k_with "m all" => first | exact List.forall_mem_nil _ | (refine List.forall_mem_cons.mpr ⟨?_, ?_⟩; (k_ne); (k_all)) | assumption | exact AllLt.ne (by walk_at "alltail"))
  (k_with "m alltail" => first | assumption | exact allLt_of (by assumption) | exact And.right (by assumption) | exact And.right (And.right (by assumption)) | exact And.right (And.right (And.right (by assumption))) | exact And.right (And.right (And.right (And.right (by assumption)))) | exact And.right (And.right (And.right (And.right (And.right (by assumption))))) | exact And.right (And.right (And.right (And.right (And.right (And.right (by assumption)))))) | exact And.right (And.right (And.right (And.right (And.right (And.right (And.right (by assumption))))))) | exact And.right (And.right (And.right (And.right (And.right (And.right (And.right (And.right (by assumption)))))))) | exact And.right (And.right (And.right (And.right (And.right (And.right (And.right (And.right (And.right (by assumption))))))))) | exact And.right (And.right (And.right (And.right (And.right (And.right (And.right (And.right (And.right (And.right (by assumption)))))))))) | exact And.right (And.right (And.right (And.right (And.right (And.right (And.right (And.right (And.right (And.right (And.right (by assumption))))))))))) | exact And.right (And.right (And.right (And.right (And.right (And.right (And.right (And.right (And.right (And.right (And.right (And.right (by assumption)))))))))))) | exact And.right (And.right (And.right (And.right (And.right (And.right (And.right (And.right (And.right (And.right (And.right (And.right (And.right (by assumption))))))))))))) | exact And.right (And.right (And.right (And.right (And.right (And.right (And.right (And.right (And.right (And.right (And.right (And.right (And.right (And.right (by assumption)))))))))))))) | exact And.right (And.right (And.right (And.right (And.right (And.right (And.right (And.right (And.right (And.right (And.right (And.right (And.right (And.right (And.right (by assumption))))))))))))))) | exact And.right (And.right (And.right (And.right (And.right (And.right (And.right (And.right (And.right (And.right (And.right (And.right (And.right (And.right (And.right (And.right (by assumption)))))))))))))))) | exact AllLt.up (by assumption) (by walk_at "alltail"))
  (k_with "m exec For Tuple Call cons nil" => (k_here; (rename Fr _ _ _ _ => lF'); (with_unfolding_all refine' For_turns lF' ?_; k_whole)))
  (k_with "m exec For Tuple Call" => (k_here; (rename Fr _ _ _ _ => lF'); (with_unfolding_all refine' For_turns lF' ?_; k_whole)))
  (k_with "m exec For Tuple Attribute cons nil" => (k_here; (rename Fr _ _ _ _ => lF'); (with_unfolding_all refine' For_turns lF' ?_; k_whole)))
  (k_with "m exec For Tuple Name cons nil" => (k_here; (rename Fr _ _ _ _ => lF'); (with_unfolding_all refine' For_turns lF' ?_; k_whole)))
  (k_with "m TurnPost" => (dsimp only [TurnPost]))
  (k_with "m TurnEnd" => (k_here; (refine' turn_end ?te0 ?teF ?teN ?tek ?ter ?_); (case teF => k_asm); (case teN => exact cb_drop (by k_asm) (by walk_at "sub")); (case te0 => first | exact () | skip); (case tek => kst_all); (case ter => walk_at "same")))
  (k_with "m same" => first | (intro z hz2 hz3; (simp only [List.contains_cons, List.contains_nil, Bool.or_false, Bool.or_eq_false_iff, beq_eq_false_iff_ne, ne_eq] at hz3); (simp [kstB, hz3]; done)) | (intro z hz2 hz3; (simp only [List.contains_cons, List.contains_nil, Bool.or_false, Bool.or_eq_false_iff, beq_eq_false_iff_ne, ne_eq] at hz3); (simp only [List.forall_mem_cons, List.not_mem_nil, false_implies, implies_true, and_true, ne_eq] at hz2); (simp [kstB, hz2, hz3]; done)) | ksw_same)
  (k_with "m fmono" => (refine' FnIn.mono ?fs ?fh; (case fh => assumption); (case fs => walk_at "sub")))
  (k_with "m TurnEnd" => (k_here; (refine' turn_endI ?teF ?teN ?tek ?ter ?_); (case teF => k_asm); (case teN => exact cb_drop (by k_asm) (by walk_at "sub")); (case tek => exact rfl); (case ter => walk_at "same")))
  (k_with "m call builtin:max" => (k_here; (with_reducible show wpAny _ _ (call (Value.builtin "max") [Value.int _ _, Value.int _ _, Value.int _ _]) _ _ _); k_dflt (refine' my_max3 ?xH ?xF ?xN ?_; (case xH => exact rfl); (case xF => k_asm); (case xN => k_asm)); intro h' tk' tv' F' N'))
  (k_with "m subscriptTail Name Name ref int" => (k_here; (with_reducible show wpAny _ _ (subscriptTail _ _ (Value.ref _) (Value.int _ _)) _ _ _); k_dflt (refine' my_item ?iN ?iM ?i0 ?iF ?iX ?_; (case iN => k_asm); (case iM => k_mem); (case i0 => first | assumption | omega); (case iF => omega); (case iX => assumption); k_whole)))
  (k_with "m subscriptTail Attribute Name ref int" => (k_here; (with_reducible show wpAny _ _ (subscriptTail _ _ (Value.ref _) (Value.int _ _)) _ _ _); k_dflt (refine' my_item ?iN ?iM ?i0 ?iF ?iX ?_; (case iN => k_asm); (case iM => k_mem); (case i0 => first | assumption | omega); (case iF => omega); (case iX => assumption); k_whole)))
  (k_with "m call ref" => (k_here; (with_reducible show wpAny _ _ (call (Value.ref 305) [Value.ref _]) _ _ _); k_dflt (refine' con_use ?k1 ?k2 ?k3 ?k4 ?k5 ?kK (standings_ _ _ _ _ _ ?sf ?sx ?so) ?kd ?ku ?_; (case k1 => k_asm); (case k2 => k_asm); (case k3 => k_asm); (case k4 => k_asm); (case k5 => k_asm); (case kK => first | exact rfl | assumption); (case sf => walk_at "fmono"); (case sx => assumption); (case so => assumption); (case kd => ktr_room); (case ku => ktr_units); intro r9 n9 h9 tk9 F9 N9 P9; obtain ⟨hg9, hs9⟩ := P9; obtain ⟨tl9, rfl, ha9⟩ := hg9; obtain @⟨aa9, kn9, vv9, kvs9, na9, nk9, known9, ok9, rfl, s1, s2, s3, s4, s5, s6, s7⟩ := hs9)))
  (k_with "m call ref" => (k_here; (with_reducible show wpAny _ _ (call (Value.ref 291) [Value.ref _, Value.ref _]) _ _ _); k_dflt (refine' con_use ?k1 ?k2 ?k3 ?k4 ?k5 ?kK (after_ _ _ _ ?kb _ _ _ _ _ ?km _ _ ?ks ?kl) ?kd ?ku ?_; (case k1 => k_asm); (case k2 => k_asm); (case k3 => k_asm); (case k4 => k_asm); (case k5 => k_asm); (case kK => first | exact rfl | assumption); (case ks => assumption); (case kb => walk_at "sub"); (case km => k_mem); (case kl => omega); (case kd => ktr_room); (case ku => ktr_units); intro r9 n9 h9 tk9 F9 N9 P9; rcases P9 with ⟨c8, ⟨tl8, rfl, rfl, ha8⟩, ⟨o9, rfl⟩ | ⟨⟨v9, b9, hs9⟩, o9, hr9⟩⟩ <;> (try (obtain ⟨rfl, g1, g2, g3, g4⟩ := hr9; (try dsimp only at g2 g4); have g1n := mem_over (led := own9 ++ (tl9 ++ news)) g1 (by walk_at "sub"); have g2n := mem_over (led := own9 ++ (tl9 ++ news)) g2 (by walk_at "sub"))))))
  (k_with "m call type:enumerate" => (k_here; k_dflt (refine' my_enumI (x := Str.ofString "found") [Str.ofString "place", Str.ofString "standing", Str.ofString "later"] (fun i c => c.1 = depthTo xs known9 i) ?hxH ?hxF ?hxN ?hxm ?hxk ?hxp ?hxt ?hxd; (case hxH => exact rfl); (case hxF => k_asm); (case hxN => k_asm); (case hxm => k_mem); (case hxk => exact rfl); (case hxp => exact rfl)); (case' hxt => (intro c9 i9 v9 u9 h9 tk9 own9 T9 t9 hv9 hc9 hT9 F9 N9; obtain ⟨o7, ho7, hK7⟩ := A2.getL s3 hv9; obtain ⟨iv7, hiv7, i7, t7, u7, m7, rfl, hi7⟩ := h4.get (show i9 < xs.length from s6 ▸ (List.getElem?_eq_some_iff.mp ho7).1); have hlt7 : i9 < xs.length := s6 ▸ (List.getElem?_eq_some_iff.mp ho7).1; have hx7 : xs[i9]? = some (xs[i9]'hlt7) := List.getElem?_eq_getElem hlt7; have hiv8 : vs[((i9 : Nat) : Int).toNat]? = some (.ref i7) := hiv7; have hi98 : (i9 : Int) < 1000 := (by have := (List.getElem?_eq_some_iff.mp ho7).1; omega); rcases o7 with _ | st7 <;> (try (have e7 : v9 = Value.none := hK7; subst e7)) <;> (try (have hst7 : StIn w (tl9 ++ news) v9 st7 := hK7; have hst6 := hst7; obtain ⟨rfl, e1, e2, e3, e4⟩ := hst6; have hln7 := s7 st7 (List.mem_of_getElem? ho7))))); (case' hxd => intro c9 u9 h9 tk9 F9 N9 hc9)))
  trivial
theorem greatest_depth (w : World) (news : List (Addr × Obj)) (f : Addr) (xs : List Ins) (d : Int) (hf : FnIn w news (.ref f) xs d) (hx : xs.length < 400) (hok : ∀ x ∈ xs, x.w.sort = Str.ofString "place" → 0 ≤ x.k) :
    Con w 32 312 [.ref f] news (fun r news' => news' = news ∧ ∃ t, r = .int (depthTo xs (runS xs (fuelS xs) (List.replicate xs.length none) [(0, ⟨0, 0, []⟩)]).1 xs.length) t) := by
  have hf0 := hf
  obtain @⟨fx, fd, cl, kl, nd, nc, nk, vs, ks, t1, t2, t3, t4, t5, t6, tf, td, hv, h1, h2, h3, h4, h5, h6⟩ := hf
  cases hv
  have h7 := h4.length
  have hN9 : fuelS xs ≤ 900 := by unfold fuelS; omega
  walk_at "con start"
  k_steps
  · refine hret _ news _ _ (by k_asm) (cb_drop (by k_asm) (by walk_at "sub")) ⟨rfl, c9.2, ?_⟩
    have e1 : kvs9.length = xs.length := s3.length.trans s6
    rw [s4, ← e1]
    exact congrArg (Value.int · c9.2) hc9
  · rw [depthTo_none ho7]
    exact hc9
  · rw [depthTo_some ho7 hx7, o9, ← hc9]; exact rfl
  · rw [depthTo_some ho7 hx7, o9, ← hc9]; exact rfl
-- C9
set_option maxRecDepth 100000
set_option maxHeartbeats 8000000
theorem reset9 : True := by
  w_top off
  trivial


def goodS (xs : List Ins) (d : Int) : Prop := (∀ x ∈ xs, ¬ x.bad xs.length) ∧ (runS xs (fuelS xs) (List.replicate xs.length none) [(0, ⟨0, 0, []⟩)]).2 = true ∧
  depthTo xs (runS xs (fuelS xs) (List.replicate xs.length none) [(0, ⟨0, 0, []⟩)]).1 xs.length ≤ d
theorem linesC9_0 : True := by
  k_with_none
  (k_with "m subscriptTail" => (k_here; (with_reducible show wpAny _ _ (subscriptTail _ _ (Value.ref 90) (Value.str (Wd.str _) _)) _ _ _); k_dflt (refine' rows_item ?F ?X ?_; (case F => k_asm); (case X => k_asm)); intro a t0 t1 t2 t3 t4 hrow; dsimp only))
  (k_with "m subscriptTail" => (k_here; (with_reducible show wpAny _ _ (subscriptTail _ _ (Value.ref _) (Value.int _ _)) _ _ _); k_dflt (refine' topTup_K ?F ?X ?l ?a ?b ?c ?d ?_; (case F => k_asm); (case X => k_asm); (case l => assumption); (case a => decide); (case b => decide); (case c => rfl); (case d => rfl); k_whole)))
  (k_with "m subscriptTail" => (k_here; (with_reducible show wpAny _ _ (subscriptTail _ _ (Value.ref _) (Value.int (-1) _)) _ _ _); k_dflt (refine' my_last ?N ?m ?z ?x ?_; (case N => k_asm); (case m => k_mem); (case z => first | exact my_sz | exact my_sz_push); (case x => first | exact my_at | exact my_at_push); k_whole)))
  (k_with "m subscriptTail Name UnaryOp ref int" => (k_here; (with_reducible show wpAny _ _ (subscriptTail _ _ (Value.ref _) (Value.int (-1) _)) _ _ _); k_dflt (refine' my_last ?N ?m ?z ?x ?_; (case N => k_asm); (case m => k_mem); (case z => first | exact my_sz | exact my_sz_push); (case x => first | exact my_at | exact my_at_push); k_whole)))
  (k_with "m ite" => (refine ite_neg (wd_plain _) ?_))
  (k_with "m mem" => (first | exact List.mem_cons_self | (refine List.mem_cons_of_mem _ ?_; walk_at "mem") | (refine List.mem_append_left _ ?_; walk_at "mem") | (refine List.mem_append_right _ ?_; walk_at "mem") | ktr_member | assumption))
  (k_with "m room" => (ktr_room))
  (k_with "m sub" => (first | exact fun _ h => h | (refine fun p hp => List.mem_cons_of_mem _ ((?_ : ∀ p, _ → _) p hp); walk_at "sub") | (refine fun p hp => List.mem_append_right _ ((?_ : ∀ p, _ → _) p hp); walk_at "sub") | (refine fun p hp => List.mem_append_left _ ((?_ : ∀ p, _ → _) p hp); walk_at "sub")))
  (k_with "m con start" => (intro dp un gd cn cs a ccd cl outer A₀ base h₀ L m s mean mg mb Q E B F X N T hk hdp hun hret; (refine wpAny_call ?_); k_dflt ktr_enter))
  (k_with "m nz" => (first | exact my_nz | exact my_nz_push))
  (k_with "m compareOp Eq ref ref" => (k_here; (with_reducible show wpAny _ _ (compareOp CmpOp.Eq (Value.ref _) (Value.ref _)) _ _ _); first | k_dflt (refine' my_eq_nil_t ?N ?a ?b ?u ?_; (case N => k_asm); (case a => k_mem); (case b => k_mem); (case u => ktr_units)) | k_dflt (refine' my_eq_nil_f ?N ?a ?b ?z ?u ?_; (case N => k_asm); (case a => k_mem); (case b => k_mem); (case z => walk_at "nz"); (case u => ktr_units))))
  (k_with "m compareOp NotEq ref ref" => (k_here; (with_reducible show wpAny _ _ (compareOp CmpOp.NotEq (Value.ref _) (Value.ref _)) _ _ _); first | k_dflt (refine' my_ne_nil_f ?N ?a ?b ?u ?_; (case N => k_asm); (case a => k_mem); (case b => k_mem); (case u => ktr_units)) | k_dflt (refine' my_ne_nil_t ?N ?a ?b ?z ?u ?_; (case N => k_asm); (case a => k_mem); (case b => k_mem); (case z => walk_at "nz"); (case u => ktr_units))))
  (k_with "m alllt" => (first | assumption | exact allLt_of (by assumption) | exact ⟨by assumption, AllLt.up (by assumption) (by walk_at "alllt")⟩))
  (k_with "m grow" => (first | exact Grow.refl _ | (refine Grow.cons ?_ ?_; (walk_at "grow"); (k_dflt walk_at "alllt")) | (refine Grow.app ?_ ?_; (walk_at "grow"); assumption) | assumption))
  (k_with "m grow2" => (first | exact Grow2.refl _ _ | (apply Grow2.cons; (walk_at "grow2"); (k_dflt walk_at "alllt")) | (apply Grow2.app; (walk_at "grow2"); assumption)))
  (k_with "m nz" => (first | assumption | exact my_nz))
  (k_with "m exec For Tuple Call cons nil" => (k_here; (rename Fr _ _ _ _ => lF'); (with_unfolding_all refine' For_turns lF' ?_; k_whole)))
  (k_with "m exec For Tuple Call" => (k_here; (rename Fr _ _ _ _ => lF'); (with_unfolding_all refine' For_turns lF' ?_; k_whole)))
  (k_with "m exec For Tuple Attribute cons nil" => (k_here; (rename Fr _ _ _ _ => lF'); (with_unfolding_all refine' For_turns lF' ?_; k_whole)))
  (k_with "m exec For Tuple Name cons nil" => (k_here; (rename Fr _ _ _ _ => lF'); (with_unfolding_all refine' For_turns lF' ?_; k_whole)))
  (k_with "m TurnPost" => (dsimp only [TurnPost]))
  (k_with "m TurnEnd" => (k_here; (refine' turn_end ?te0 ?teF ?teN ?tek ?ter ?_); (case teF => k_asm); (case teN => exact cb_drop (by k_asm) (by walk_at "sub")); (case te0 => first | exact () | skip); (case tek => kst_all); (case ter => walk_at "same")))
  (k_with "m same" => first | (intro z hz2 hz3; (simp only [List.contains_cons, List.contains_nil, Bool.or_false, Bool.or_eq_false_iff, beq_eq_false_iff_ne, ne_eq] at hz3); (simp [kstB, hz3]; done)) | (intro z hz2 hz3; (simp only [List.contains_cons, List.contains_nil, Bool.or_false, Bool.or_eq_false_iff, beq_eq_false_iff_ne, ne_eq] at hz3); (simp only [List.forall_mem_cons, List.not_mem_nil, false_implies, implies_true, and_true, ne_eq] at hz2); (simp [kstB, hz2, hz3]; done)) | ksw_same)
  (k_with "m fmono" => (refine' FnIn.mono ?fs ?fh; (case fh => assumption); (case fs => walk_at "sub")))
  (k_with "m call ref" => (k_here; (with_reducible show wpAny _ _ (call (Value.ref 284) [Value.ref _]) _ _ _); k_dflt (refine' con_use ?k1 ?k2 ?k3 ?k4 ?k5 ?kK (bounds_error _ _ _ _ _ ?sf ?so ?sx) ?kd ?ku ?_; (case k1 => k_asm); (case k2 => k_asm); (case k3 => k_asm); (case k4 => k_asm); (case k5 => k_asm); (case kK => first | exact rfl | assumption); (case sf => walk_at "fmono"); (case sx => omega); (case so => assumption); (case kd => ktr_room); (case ku => ktr_units); intro r9 n9 h9 tk9 F9 N9 P9; obtain ⟨e9, o9⟩ := P9; have e7 := Eq.symm e9; subst e7; rcases o9 with ⟨rfl, hnb⟩ | ⟨ba9, rfl, hbd⟩)))
  (k_with "m call ref" => (k_here; (with_reducible show wpAny _ _ (call (Value.ref 305) [Value.ref _]) _ _ _); k_dflt (refine' con_use ?k1 ?k2 ?k3 ?k4 ?k5 ?kK (standings_ _ _ _ _ _ ?sf ?sx ?so) ?kd ?ku ?_; (case k1 => k_asm); (case k2 => k_asm); (case k3 => k_asm); (case k4 => k_asm); (case k5 => k_asm); (case kK => first | exact rfl | assumption); (case sf => walk_at "fmono"); (case sx => assumption); (case so => assumption); (case kd => ktr_room); (case ku => ktr_units); intro r9 n9 h9 tk9 F9 N9 P9; obtain ⟨hg9, hs9⟩ := P9; obtain ⟨tl9, rfl, ha9⟩ := hg9; obtain @⟨aa9, kn9, vv9, kvs9, na9, nk9, known9, ok9, rfl, s1, s2, s3, s4, s5, s6, s7⟩ := hs9; rcases s5 with ⟨rfl, rfl⟩ | ⟨rfl, z9, rfl⟩)))
  (k_with "m call ref" => (k_here; (with_reducible show wpAny _ _ (call (Value.ref 312) [Value.ref _]) _ _ _); k_dflt (refine' con_use ?k1 ?k2 ?k3 ?k4 ?k5 ?kK (greatest_depth _ _ _ _ _ ?sf ?sx ?so) ?kd ?ku (pure_ret ?_); (case k1 => k_asm); (case k2 => k_asm); (case k3 => k_asm); (case k4 => k_asm); (case k5 => k_asm); (case kK => first | exact rfl | assumption); (case sf => walk_at "fmono"); (case sx => assumption); (case so => assumption); (case kd => ktr_room); (case ku => ktr_units); intro t9 h9 tk9 F9 N9; (try dsimp only))))
  trivial
theorem code_error (w : World) (news : List (Addr × Obj)) (f : Addr) (xs : List Ins) (d : Int) (hf : FnIn w news (.ref f) xs d) (hx : xs.length < 400) (hne : xs ≠ []) (hox : ∀ x ∈ xs, x.ok xs.length) (hok : ∀ x ∈ xs, x.w.sort = Str.ofString "place" → 0 ≤ x.k) :
    Con w 45 319 [.ref f] news (fun r news' => news' = news ∧ ((r = .none ∧ goodS xs d) ∨ ((∃ a, r = .ref a) ∧ ¬ goodS xs d))) := by
  have hf0 := hf
  obtain @⟨fx, fd, kl0, kl, nd, nc, nk, vs, ks, t1, t2, t3, t4, t5, t6, tf, td, hv, h1, h2, h3, h4, h5, h6⟩ := hf
  cases hv
  have h7 := h4.length
  have hz : vs.toArray.size ≠ 0 := by
    simp only [List.size_toArray]
    intro e
    exact hne (List.length_eq_zero_iff.mp (by omega))
  walk_at "con start"
  k_steps
  · exact hret _ news _ _ (by k_asm) (cb_drop (by k_asm) (by walk_at "sub")) ⟨rfl, .inr ⟨⟨_, rfl⟩, fun g => by have := g.2.2; omega⟩⟩
  · exact hret _ news _ _ (by k_asm) (cb_drop (by k_asm) (by walk_at "sub")) ⟨rfl, .inl ⟨rfl, hnb, by rw [s4], by omega⟩⟩
  · exact hret _ news _ _ (by k_asm) (cb_drop (by k_asm) (by walk_at "sub")) ⟨rfl, .inr ⟨⟨_, rfl⟩, fun g => by have e := g.2.1; rw [s4] at e; cases e⟩⟩
  · exact hret _ news _ _ (by k_asm) (cb_drop (by k_asm) (by walk_at "sub")) ⟨rfl, .inr ⟨⟨_, rfl⟩, fun g => by obtain ⟨x, hx, hb⟩ := hbd; exact g.1 x hx hb⟩⟩
-- C10
set_option maxRecDepth 100000
set_option maxHeartbeats 8000000
theorem reset10 : True := by
  w_top off
  trivial


abbrev potO (q : Addr) (at' sd : Int) (ta ts : Tok) (n : Nat) : Obj := listOf (List.toArray [.ref q, .int at' ta, .int sd ts]) n
theorem news_swap {h₀ h : Heap} {L : Addr} {x y : Addr × Obj} {l : List (Addr × Obj)} (N : News h₀ L h (x :: y :: l)) : News h₀ L h (y :: x :: l) := fun p hp => N p (by
  simp only [List.mem_cons] at hp ⊢
  rcases hp with h | h | h <;> simp [h])
theorem news_swap2 {h₀ h : Heap} {L : Addr} {x y z : Addr × Obj} {l : List (Addr × Obj)} (N : News h₀ L h (x :: z :: y :: l)) : News h₀ L h (y :: x :: z :: l) := fun p hp => N p (by
  simp only [List.mem_cons] at hp ⊢
  rcases hp with h | h | h | h <;> simp [h])
theorem news_swap3 {h₀ h : Heap} {L : Addr} {x y z v : Addr × Obj} {l : List (Addr × Obj)} (N : News h₀ L h (x :: z :: v :: y :: l)) : News h₀ L h (y :: x :: z :: v :: l) := fun p hp => N p (by
  simp only [List.mem_cons] at hp ⊢
  rcases hp with h | h | h | h | h <;> simp [h])
def Ints (us : List Value) : Prop := ∀ v ∈ us, ∃ z t, v = .int z t
theorem Ints.get {us : List Value} (h : Ints us) {k : Int} (h0 : 0 ≤ k) (h1 : k < (us.length : Int)) : ∃ z t, us[k.toNat]? = some (.int z t) := by
  have hk : k.toNat < us.length := by omega
  obtain ⟨z, t, e⟩ := h us[k.toNat] (List.getElem_mem hk)
  exact ⟨z, t, by rw [List.getElem?_eq_getElem hk, e]⟩
theorem linesC10_0 : True := by
  k_with_none
  (k_with "m subscriptTail" => (k_here; (with_reducible show wpAny _ _ (subscriptTail _ _ (Value.ref 90) (Value.str (Wd.str _) _)) _ _ _); k_dflt (refine' rows_item ?F ?X ?_; (case F => k_asm); (case X => k_asm)); intro a t0 t1 t2 t3 t4 hrow; dsimp only))
  (k_with "m subscriptTail" => (k_here; (with_reducible show wpAny _ _ (subscriptTail _ _ (Value.ref _) (Value.int _ _)) _ _ _); k_dflt (refine' topTup_K ?F ?X ?l ?a ?b ?c ?d ?_; (case F => k_asm); (case X => k_asm); (case l => assumption); (case a => decide); (case b => decide); (case c => rfl); (case d => rfl); k_whole)))
  (k_with "m subscriptTail" => (k_here; (with_reducible show wpAny _ _ (subscriptTail _ _ (Value.ref _) (Value.int (-1) _)) _ _ _); k_dflt (refine' my_last ?N ?m ?z ?x ?_; (case N => k_asm); (case m => k_mem); (case z => first | exact my_sz | exact my_sz_push); (case x => first | exact my_at | exact my_at_push); k_whole)))
  (k_with "m subscriptTail Name UnaryOp ref int" => (k_here; (with_reducible show wpAny _ _ (subscriptTail _ _ (Value.ref _) (Value.int (-1) _)) _ _ _); k_dflt (refine' my_last ?N ?m ?z ?x ?_; (case N => k_asm); (case m => k_mem); (case z => first | exact my_sz | exact my_sz_push); (case x => first | exact my_at | exact my_at_push); k_whole)))
  (k_with "m ite" => (refine ite_neg (wd_plain _) ?_))
  (k_with "m mem" => (first | exact List.mem_cons_self | (refine List.mem_cons_of_mem _ ?_; walk_at "mem") | (refine List.mem_append_left _ ?_; walk_at "mem") | (refine List.mem_append_right _ ?_; walk_at "mem") | ktr_member | assumption))
  (k_with "m room" => (ktr_room))
  (k_with "m sub" => (first | exact fun _ h => h | (refine fun p hp => List.mem_cons_of_mem _ ((?_ : ∀ p, _ → _) p hp); walk_at "sub") | (refine fun p hp => List.mem_append_right _ ((?_ : ∀ p, _ → _) p hp); walk_at "sub") | (refine fun p hp => List.mem_append_left _ ((?_ : ∀ p, _ → _) p hp); walk_at "sub")))
  (k_with "m con start" => (intro dp un gd cn cs a ccd cl outer A₀ base h₀ L m s mean mg mb Q E B F X N T hk hdp hun hret; (refine wpAny_call ?_); k_dflt ktr_enter))
  (k_with "m nz" => (first | exact my_nz | exact my_nz_push))
  (k_with "m compareOp Eq ref ref" => (k_here; (with_reducible show wpAny _ _ (compareOp CmpOp.Eq (Value.ref _) (Value.ref _)) _ _ _); first | k_dflt (refine' my_eq_nil_t ?N ?a ?b ?u ?_; (case N => k_asm); (case a => k_mem); (case b => k_mem); (case u => ktr_units)) | k_dflt (refine' my_eq_nil_f ?N ?a ?b ?z ?u ?_; (case N => k_asm); (case a => k_mem); (case b => k_mem); (case z => walk_at "nz"); (case u => ktr_units))))
  (k_with "m compareOp NotEq ref ref" => (k_here; (with_reducible show wpAny _ _ (compareOp CmpOp.NotEq (Value.ref _) (Value.ref _)) _ _ _); first | k_dflt (refine' my_ne_nil_f ?N ?a ?b ?u ?_; (case N => k_asm); (case a => k_mem); (case b => k_mem); (case u => ktr_units)) | k_dflt (refine' my_ne_nil_t ?N ?a ?b ?z ?u ?_; (case N => k_asm); (case a => k_mem); (case b => k_mem); (case z => walk_at "nz"); (case u => ktr_units))))
  (k_with "m alllt" => (first | assumption | exact allLt_of (by assumption) | exact ⟨by assumption, AllLt.up (by assumption) (by walk_at "alllt")⟩))
  (k_with "m grow" => (first | exact Grow.refl _ | (refine Grow.cons ?_ ?_; (walk_at "grow"); (k_dflt walk_at "alllt")) | (refine Grow.app ?_ ?_; (walk_at "grow"); assumption) | assumption))
  (k_with "m grow2" => (first | exact Grow2.refl _ _ | (apply Grow2.cons; (walk_at "grow2"); (k_dflt walk_at "alllt")) | (apply Grow2.app; (walk_at "grow2"); assumption)))
  (k_with "m all" => first | exact List.forall_mem_nil _ | (refine List.forall_mem_cons.mpr ⟨?_, ?_⟩; (k_ne); (k_all)) | assumption | exact AllLt.ne (by walk_at "alltail"))
  (k_with "m alltail" => first | assumption | exact allLt_of (by assumption) | exact And.right (by assumption) | exact And.right (And.right (by assumption)) | exact And.right (And.right (And.right (by assumption))) | exact And.right (And.right (And.right (And.right (by assumption)))) | exact And.right (And.right (And.right (And.right (And.right (by assumption))))) | exact And.right (And.right (And.right (And.right (And.right (And.right (by assumption)))))) | exact And.right (And.right (And.right (And.right (And.right (And.right (And.right (by assumption))))))) | exact And.right (And.right (And.right (And.right (And.right (And.right (And.right (And.right (by assumption)))))))) | exact And.right (And.right (And.right (And.right (And.right (And.right (And.right (And.right (And.right (by assumption))))))))) | exact And.right (And.right (And.right (And.right (And.right (And.right (And.right (And.right (And.right (And.right (by assumption)))))))))) | exact And.right (And.right (And.right (And.right (And.right (And.right (And.right (And.right (And.right (And.right (And.right (by assumption))))))))))) | exact And.right (And.right (And.right (And.right (And.right (And.right (And.right (And.right (And.right (And.right (And.right (And.right (by assumption)))))))))))) | exact And.right (And.right (And.right (And.right (And.right (And.right (And.right (And.right (And.right (And.right (And.right (And.right (And.right (by assumption))))))))))))) | exact And.right (And.right (And.right (And.right (And.right (And.right (And.right (And.right (And.right (And.right (And.right (And.right (And.right (And.right (by assumption)))))))))))))) | exact And.right (And.right (And.right (And.right (And.right (And.right (And.right (And.right (And.right (And.right (And.right (And.right (And.right (And.right (And.right (by assumption))))))))))))))) | exact And.right (And.right (And.right (And.right (And.right (And.right (And.right (And.right (And.right (And.right (And.right (And.right (And.right (And.right (And.right (And.right (by assumption)))))))))))))))) | exact AllLt.up (by assumption) (by walk_at "alltail"))
  (k_with "m call builtin:len" => (k_here; (with_reducible show wpAny _ _ (call (Value.builtin "len") [Value.ref _]) _ _ _); k_dflt (refine' my_len ?N ?m ?e ?f ?_; (case N => k_asm); (case m => k_mem); (case e => first | assumption | exact rfl); (case f => first | decide | omega))))
  (k_with "m subscriptTail Name Name ref int" => (k_here; (with_reducible show wpAny _ _ (subscriptTail _ _ (Value.ref _) (Value.int _ _)) _ _ _); k_dflt (refine' my_item ?iN ?iM ?i0 ?iF ?iX ?_; (case iN => k_asm); (case iM => k_mem); (case i0 => first | assumption | decide | omega); (case iF => first | decide | omega); (case iX => first | assumption | exact rfl); k_whole)))
  (k_with "m subscriptTail Subscript Name ref int" => (k_here; (with_reducible show wpAny _ _ (subscriptTail _ _ (Value.ref _) (Value.int _ _)) _ _ _); k_dflt (refine' my_item ?iN ?iM ?i0 ?iF ?iX ?_; (case iN => k_asm); (case iM => k_mem); (case i0 => first | assumption | decide | omega); (case iF => first | decide | omega); (case iX => first | assumption | exact rfl); k_whole)))
  (k_with "m subscriptTail Name Constant ref int" => (k_here; (with_reducible show wpAny _ _ (subscriptTail _ _ (Value.ref _) (Value.int _ _)) _ _ _); k_dflt (refine' my_item ?iN ?iM ?i0 ?iF ?iX ?_; (case iN => k_asm); (case iM => k_mem); (case i0 => first | assumption | decide | omega); (case iF => first | decide | omega); (case iX => first | assumption | exact rfl); k_whole)))
  (k_with "m setItem ref int" => (k_here; (with_reducible show wpAny _ _ (setItem (Value.ref _) (Value.int _ _) _) _ _ _); k_dflt (refine' my_setItem ?sF ?sN ?sU ?s0 ?s1 ?sf ?_; (case sF => k_asm); (case sN => k_asm); (case sU => k_upd); (case s0 => decide); (case s1 => (simp only [List.length_cons, List.length_nil]; omega)); (case sf => (simp only [List.length_cons, List.length_nil]; omega))); intro h' F' N'))
  trivial
theorem law_dip (w : World) (rest : List (Addr × Obj)) (p q : Addr) (at' sd many : Int) (ta ts mt : Tok) (n nq : Nat) (us : List Value) (h0 : 0 ≤ at') (hm : 0 < many) (hq : (q, listOf us.toArray nq) ∈ rest) (hi : Ints us) (hl : us.length < 100) (hp : ∀ x ∈ rest, x.1 ≠ p) :
    Con w 2 331 [.ref p, .int many mt] ((p, potO q at' sd ta ts n) :: rest) (fun r news' => ∃ a2 s2 ta2 ts2 n2 k t, news' = (p, potO q a2 s2 ta2 ts2 n2) :: rest ∧ 0 ≤ a2 ∧ r = .int k t ∧ 0 ≤ k ∧ k < many) := by
  by_cases hc : at' < (us.length : Int)
  · obtain ⟨z, tz, hz⟩ := hi.get h0 hc
    walk_at "con start"
    k_steps
    exact hret _ _ _ _ (by k_asm) (by k_asm) ⟨_, _, _, _, _, _, _, rfl, by omega, rfl, Int.fmod_nonneg_of_pos _ hm, Int.fmod_lt_of_pos _ hm⟩
  · walk_at "con start"
    k_steps
    exact hret _ _ _ _ (by k_asm) (by k_asm) ⟨_, _, _, _, _, _, _, rfl, by omega, rfl, Int.fmod_nonneg_of_pos _ hm, Int.fmod_lt_of_pos _ hm⟩
section
variable {s : Shared} {h₀ : Heap} {L p q : Addr} {m : Str → Option Value} {rest : List (Addr × Obj)} {Q : Value → Shared → Prop} {many : Int}
theorem dip_ret (k : ∀ a2 s2 ta2 ts2 n2 z t h' tk', Fr h₀ L h' m → News h₀ L h' ((p, potO q a2 s2 ta2 ts2 n2) :: rest) → 0 ≤ a2 → 0 ≤ z → z < many → Q (.int z t) { s with heap := h', toks := tk' }) :
    ∀ r news' h' tk', Fr h₀ L h' m → News h₀ L h' news' → (∃ a2 s2 ta2 ts2 n2 k t, news' = (p, potO q a2 s2 ta2 ts2 n2) :: rest ∧ 0 ≤ a2 ∧ r = .int k t ∧ 0 ≤ k ∧ k < many) → Q r { s with heap := h', toks := tk' } := fun r news' h' tk' F N P => by
  obtain ⟨a2, s2, ta2, ts2, n2, z, t, rfl, h1, rfl, h2, h3⟩ := P
  exact k a2 s2 ta2 ts2 n2 z t h' tk' F N h1 h2 h3
end
-- C11
set_option maxRecDepth 100000
set_option maxHeartbeats 8000000
theorem reset11 : True := by
  w_top off
  trivial


def menuL : List Wd := [.const, .const, .const, .ret, .ret, .discard, .dup, .gotoifnil, .gotoifnilelsepop, .goto, .varbind, .unbind, .pushcatch, .pophandler, .call, .stackref]
theorem my_menu {prog : Program} {w : World} {A : Around} {E : Value → Shared → Prop} {s : Shared} {h₀ : Heap} {L D : Addr} {news : List (Addr × Obj)} {us : List Value} {n : Nat} {value slice : PySem.Expr} {k : Int} {u : Tok} {Q : Value → Shared → Prop} (N : News h₀ L s.heap news) (hm : (D, listOf us.toArray n) ∈ news) (hu : A2 (fun v (x : Wd) => ∃ t, v = .str x.str t) us menuL) (h0 : 0 ≤ k) (h1 : k < 16)
    (h : ∀ (x : Wd) t, Q (.str x.str t) s)
    (hs : subscripted slice false (.ref D) (.int k u) = operate [.ref D, .int k u] (getItem (.ref D) (.int k u)) := by with_unfolding_all rfl) :
    wpAny (model prog w) A (subscriptTail value slice (.ref D) (.int k u)) Q E s := by
  have hk : k.toNat < menuL.length := by have e : menuL.length = 16 := rfl; omega
  obtain ⟨v, hv, t, rfl⟩ := hu.get hk
  exact my_item N hm h0 (by omega) hv (h _ _) hs
theorem line_ok1 {x : Wd} {k m : Int} (h : ([Str.ofString "const", Str.ofString "varbind"].any fun y => y == x.str) = true) (h0 : 0 ≤ k) (h1 : k < 3) : Ins.ok ⟨x, k⟩ m := by
  cases x <;> first | exact ⟨h0, h1⟩ | exact absurd h (by decide +kernel)
theorem line_ok2 {x : Wd} {k m : Int} (h : ([Str.ofString "gotoifnil", Str.ofString "gotoifnilelsepop", Str.ofString "goto", Str.ofString "pushcatch"].any fun y => y == x.str) = true) (h0 : 0 ≤ k) (h1 : k ≤ m) : Ins.ok ⟨x, k⟩ m := by
  cases x <;> first | exact ⟨h0, h1⟩ | exact absurd h (by decide +kernel)
theorem line_ok3 {x : Wd} {m : Int} (h : ([Str.ofString "return", Str.ofString "discard", Str.ofString "dup", Str.ofString "pophandler"].any fun y => y == x.str) = true) : Ins.ok ⟨x, -1⟩ m := by
  cases x <;> first | exact rfl | exact absurd h (by decide +kernel)
theorem line_ok4 {x : Wd} {k m : Int} (h1 : ([Str.ofString "gotoifnil", Str.ofString "gotoifnilelsepop", Str.ofString "goto", Str.ofString "pushcatch"].any fun y => y == x.str) = false) (h2 : ([Str.ofString "return", Str.ofString "discard", Str.ofString "dup", Str.ofString "pophandler"].any fun y => y == x.str) = false) (h0 : 0 ≤ k) (h3 : k < 3) : Ins.ok ⟨x, k⟩ m := by
  cases x <;> first | exact ⟨h0, h3⟩ | exact absurd h1 (by decide +kernel) | exact absurd h2 (by decide +kernel)
theorem div_le {k m : Int} {d : Int} (h0 : 0 ≤ d) (h1 : d < 9) (h : k < m + d.fdiv 8) : k ≤ m := by
  rw [Int.fdiv_eq_ediv_of_nonneg _ (by decide)] at h
  omega
theorem line_end {h₀ h : Heap} {L : Addr} {s : Shared} {m' : Str → Option Value} {rest led : List (Addr × Obj)} {p q a : Addr} {a2 s2 many : Int} {ta2 ts2 t u : Tok} {n2 n tk : Nat} {xw : Wd} {xk : Int} {Q : Value → Shared → Prop}
    (hret : ∀ r news' h' tk', Fr h₀ L h' m' → News h₀ L h' news' → (∃ a2 s2 ta2 ts2 n2 a x t u m, news' = (p, potO q a2 s2 ta2 ts2 n2) :: (a, insObj x t u m) :: rest ∧ 0 ≤ a2 ∧ r = .ref a ∧ x.ok many ∧ a ≠ p ∧ ∀ y ∈ rest, y.1 < a) → Q r { s with heap := h', toks := tk' })
    (F : Fr h₀ L h m') (N : News h₀ L h led) (mp : (p, potO q a2 s2 ta2 ts2 n2) ∈ led) (ma : (a, ({ cls := .type "tuple", data := .seq [.str xw.str t, .int xk u].toArray n } : Obj)) ∈ led) (mr : ∀ y ∈ rest, y ∈ led) (h0 : 0 ≤ a2) (hap : a ≠ p) (hl : AllLt a rest) (hx : Ins.ok ⟨xw, xk⟩ many) : Q (.ref a) { s with heap := h, toks := tk } := by
  refine hret _ ((p, potO q a2 s2 ta2 ts2 n2) :: (a, insObj ⟨xw, xk⟩ t u n) :: rest) h tk F (kst_newsOf N fun y hy => ?_) ⟨_, _, _, _, _, _, _, _, _, _, rfl, h0, rfl, hx, hap, fun y hy => ktn_ltOf hl y hy⟩
  simp only [List.mem_cons] at hy
  rcases hy with rfl | rfl | hy
  · exact mp
  · exact ma
  · exact mr y hy
theorem linesC11_0 : True := by
  k_with_none
  (k_with "m subscriptTail" => (k_here; (with_reducible show wpAny _ _ (subscriptTail _ _ (Value.ref 90) (Value.str (Wd.str _) _)) _ _ _); k_dflt (refine' rows_item ?F ?X ?_; (case F => k_asm); (case X => k_asm)); intro a t0 t1 t2 t3 t4 hrow; dsimp only))
  (k_with "m subscriptTail" => (k_here; (with_reducible show wpAny _ _ (subscriptTail _ _ (Value.ref _) (Value.int _ _)) _ _ _); k_dflt (refine' topTup_K ?F ?X ?l ?a ?b ?c ?d ?_; (case F => k_asm); (case X => k_asm); (case l => assumption); (case a => decide); (case b => decide); (case c => rfl); (case d => rfl); k_whole)))
  (k_with "m subscriptTail" => (k_here; (with_reducible show wpAny _ _ (subscriptTail _ _ (Value.ref _) (Value.int (-1) _)) _ _ _); k_dflt (refine' my_last ?N ?m ?z ?x ?_; (case N => k_asm); (case m => k_mem); (case z => first | exact my_sz | exact my_sz_push); (case x => first | exact my_at | exact my_at_push); k_whole)))
  (k_with "m subscriptTail Name UnaryOp ref int" => (k_here; (with_reducible show wpAny _ _ (subscriptTail _ _ (Value.ref _) (Value.int (-1) _)) _ _ _); k_dflt (refine' my_last ?N ?m ?z ?x ?_; (case N => k_asm); (case m => k_mem); (case z => first | exact my_sz | exact my_sz_push); (case x => first | exact my_at | exact my_at_push); k_whole)))
  (k_with "m ite" => (refine ite_neg (wd_plain _) ?_))
  (k_with "m mem" => (first | exact List.mem_cons_self | (refine List.mem_cons_of_mem _ ?_; walk_at "mem") | (refine List.mem_append_left _ ?_; walk_at "mem") | (refine List.mem_append_right _ ?_; walk_at "mem") | ktr_member | assumption))
  (k_with "m room" => (ktr_room))
  (k_with "m sub" => (first | exact fun _ h => h | (refine fun p hp => List.mem_cons_of_mem _ ((?_ : ∀ p, _ → _) p hp); walk_at "sub") | (refine fun p hp => List.mem_append_right _ ((?_ : ∀ p, _ → _) p hp); walk_at "sub") | (refine fun p hp => List.mem_append_left _ ((?_ : ∀ p, _ → _) p hp); walk_at "sub")))
  (k_with "m con start" => (intro dp un gd cn cs a ccd cl outer A₀ base h₀ L m s mean mg mb Q E B F X N T hk hdp hun hret; (refine wpAny_call ?_); k_dflt ktr_enter))
  (k_with "m nz" => (first | exact my_nz | exact my_nz_push))
  (k_with "m compareOp Eq ref ref" => (k_here; (with_reducible show wpAny _ _ (compareOp CmpOp.Eq (Value.ref _) (Value.ref _)) _ _ _); first | k_dflt (refine' my_eq_nil_t ?N ?a ?b ?u ?_; (case N => k_asm); (case a => k_mem); (case b => k_mem); (case u => ktr_units)) | k_dflt (refine' my_eq_nil_f ?N ?a ?b ?z ?u ?_; (case N => k_asm); (case a => k_mem); (case b => k_mem); (case z => walk_at "nz"); (case u => ktr_units))))
  (k_with "m compareOp NotEq ref ref" => (k_here; (with_reducible show wpAny _ _ (compareOp CmpOp.NotEq (Value.ref _) (Value.ref _)) _ _ _); first | k_dflt (refine' my_ne_nil_f ?N ?a ?b ?u ?_; (case N => k_asm); (case a => k_mem); (case b => k_mem); (case u => ktr_units)) | k_dflt (refine' my_ne_nil_t ?N ?a ?b ?z ?u ?_; (case N => k_asm); (case a => k_mem); (case b => k_mem); (case z => walk_at "nz"); (case u => ktr_units))))
  (k_with "m alllt" => (first | assumption | exact allLt_of (by assumption) | exact ⟨by assumption, AllLt.up (by assumption) (by walk_at "alllt")⟩))
  (k_with "m grow" => (first | exact Grow.refl _ | (refine Grow.cons ?_ ?_; (walk_at "grow"); (k_dflt walk_at "alllt")) | (refine Grow.app ?_ ?_; (walk_at "grow"); assumption) | assumption))
  (k_with "m grow2" => (first | exact Grow2.refl _ _ | (apply Grow2.cons; (walk_at "grow2"); (k_dflt walk_at "alllt")) | (apply Grow2.app; (walk_at "grow2"); assumption)))
  (k_with "m all" => first | exact List.forall_mem_nil _ | (refine List.forall_mem_cons.mpr ⟨?_, ?_⟩; (k_ne); (k_all)) | assumption | exact AllLt.ne (by walk_at "alltail"))
  (k_with "m alltail" => first | assumption | exact allLt_of (by assumption) | exact And.right (by assumption) | exact And.right (And.right (by assumption)) | exact And.right (And.right (And.right (by assumption))) | exact And.right (And.right (And.right (And.right (by assumption)))) | exact And.right (And.right (And.right (And.right (And.right (by assumption))))) | exact And.right (And.right (And.right (And.right (And.right (And.right (by assumption)))))) | exact And.right (And.right (And.right (And.right (And.right (And.right (And.right (by assumption))))))) | exact And.right (And.right (And.right (And.right (And.right (And.right (And.right (And.right (by assumption)))))))) | exact And.right (And.right (And.right (And.right (And.right (And.right (And.right (And.right (And.right (by assumption))))))))) | exact And.right (And.right (And.right (And.right (And.right (And.right (And.right (And.right (And.right (And.right (by assumption)))))))))) | exact And.right (And.right (And.right (And.right (And.right (And.right (And.right (And.right (And.right (And.right (And.right (by assumption))))))))))) | exact And.right (And.right (And.right (And.right (And.right (And.right (And.right (And.right (And.right (And.right (And.right (And.right (by assumption)))))))))))) | exact And.right (And.right (And.right (And.right (And.right (And.right (And.right (And.right (And.right (And.right (And.right (And.right (And.right (by assumption))))))))))))) | exact And.right (And.right (And.right (And.right (And.right (And.right (And.right (And.right (And.right (And.right (And.right (And.right (And.right (And.right (by assumption)))))))))))))) | exact And.right (And.right (And.right (And.right (And.right (And.right (And.right (And.right (And.right (And.right (And.right (And.right (And.right (And.right (And.right (by assumption))))))))))))))) | exact And.right (And.right (And.right (And.right (And.right (And.right (And.right (And.right (And.right (And.right (And.right (And.right (And.right (And.right (And.right (And.right (by assumption)))))))))))))))) | exact AllLt.up (by assumption) (by walk_at "alltail"))
  (k_with "m subscriptTail List Call ref int" => (k_here; (with_reducible show wpAny _ _ (subscriptTail _ _ (Value.ref _) (Value.int _ _)) _ _ _); k_dflt (refine' my_menu ?iN ?iM ?iU ?i0 ?i1 ?_; (case iN => k_asm); (case iM => k_mem); (case iU => exact .cons ⟨_, rfl⟩ (.cons ⟨_, rfl⟩ (.cons ⟨_, rfl⟩ (.cons ⟨_, rfl⟩ (.cons ⟨_, rfl⟩ (.cons ⟨_, rfl⟩ (.cons ⟨_, rfl⟩ (.cons ⟨_, rfl⟩ (.cons ⟨_, rfl⟩ (.cons ⟨_, rfl⟩ (.cons ⟨_, rfl⟩ (.cons ⟨_, rfl⟩ (.cons ⟨_, rfl⟩ (.cons ⟨_, rfl⟩ (.cons ⟨_, rfl⟩ (.cons ⟨_, rfl⟩ .nil)))))))))))))))); (case i0 => assumption); (case i1 => assumption); k_whole); intro xw tw))
  (k_with "m subscriptTail" => (k_here; (with_reducible show wpAny _ _ (subscriptTail _ _ (Value.ref _) (Value.int _ _)) _ _ _); k_dflt (refine' my_menu ?iN ?iM ?iU ?i0 ?i1 ?_; (case iN => k_asm); (case iM => k_mem); (case iU => exact .cons ⟨_, rfl⟩ (.cons ⟨_, rfl⟩ (.cons ⟨_, rfl⟩ (.cons ⟨_, rfl⟩ (.cons ⟨_, rfl⟩ (.cons ⟨_, rfl⟩ (.cons ⟨_, rfl⟩ (.cons ⟨_, rfl⟩ (.cons ⟨_, rfl⟩ (.cons ⟨_, rfl⟩ (.cons ⟨_, rfl⟩ (.cons ⟨_, rfl⟩ (.cons ⟨_, rfl⟩ (.cons ⟨_, rfl⟩ (.cons ⟨_, rfl⟩ (.cons ⟨_, rfl⟩ .nil)))))))))))))))); (case i0 => assumption); (case i1 => assumption); k_whole); intro xw tw))
  (k_with "m call ref" => (k_here; (with_reducible show wpAny _ _ (call (Value.ref 331) [Value.ref _, Value.int _ _]) _ _ _); k_dflt (refine' con_use ?k1 ?k2 ?k3 ?k4 ?k5 ?kK (law_dip _ _ _ _ _ _ _ _ _ _ _ _ _ ?d0 ?dm ?dq ?di ?dl ?dp) ?kd ?ku (dip_ret ?_); (case k1 => k_asm); (case k2 => k_asm); (case k3 => k_asm); (case k4 => first | k_asm | exact news_swap (by k_asm) | exact news_swap2 (by k_asm) | exact news_swap3 (by k_asm)); (case k5 => k_asm); (case kK => first | exact rfl | assumption); (case d0 => first | assumption | omega); (case dm => first | decide | omega | ((rw [Int.fdiv_eq_ediv_of_nonneg _ (by decide)]); omega)); (case di => assumption); (case dq => k_mem); (case dl => assumption); (case dp => k_all); (case kd => ktr_room); (case ku => ktr_units); intro a2 s2 ta2 ts2 n2 k2 t2 h9 tk9 F9 N9 ha2 hk0 hk1; skip)))
  trivial
theorem law_line (w : World) (rest : List (Addr × Obj)) (p q : Addr) (at' sd many : Int) (ta ts mt : Tok) (n nq : Nat) (us : List Value) (h0 : 0 ≤ at') (hm : 0 < many) (hq : (q, listOf us.toArray nq) ∈ rest) (hi : Ints us) (hl : us.length < 100) (hp : ∀ x ∈ rest, x.1 ≠ p) :
    Con w 5 338 [.ref p, .int many mt] ((p, potO q at' sd ta ts n) :: rest) (fun r news' => ∃ a2 s2 ta2 ts2 n2 a x t u m, news' = (p, potO q a2 s2 ta2 ts2 n2) :: (a, insObj x t u m) :: rest ∧ 0 ≤ a2 ∧ r = .ref a ∧ x.ok many ∧ a ≠ p ∧ ∀ y ∈ rest, y.1 < a) := by
  walk_at "con start"
  k_steps
  · exact line_end hret (by k_asm) (by k_asm) (by k_mem) (by k_mem) (by walk_at "sub") (by assumption) (by k_ne) (by walk_at "alltail") (line_ok1 (by assumption) hk0 hk1)
  · exact line_end hret (by k_asm) (by k_asm) (by k_mem) (by k_mem) (by walk_at "sub") (by assumption) (by k_ne) (by walk_at "alltail") (line_ok2 (by assumption) hk0 (div_le (by assumption) (by assumption) hk1))
  · exact line_end hret (by k_asm) (by k_asm) (by k_mem) (by k_mem) (by walk_at "sub") (by assumption) (by k_ne) (by walk_at "alltail") (line_ok3 (by assumption))
  · exact line_end hret (by k_asm) (by k_asm) (by k_mem) (by k_mem) (by walk_at "sub") (by assumption) (by k_ne) (by walk_at "alltail") (line_ok4 (by assumption) (by assumption) hk0 hk1)
section
variable {s : Shared} {h₀ : Heap} {L p q : Addr} {m : Str → Option Value} {rest : List (Addr × Obj)} {Q : Value → Shared → Prop} {many : Int}
theorem line_ret (k : ∀ a2 s2 ta2 ts2 n2 a x t u i h' tk', Fr h₀ L h' m → News h₀ L h' ((p, potO q a2 s2 ta2 ts2 n2) :: (a, insObj x t u i) :: rest) → 0 ≤ a2 → x.ok many → a ≠ p → (∀ y ∈ rest, y.1 < a) → Q (.ref a) { s with heap := h', toks := tk' }) :
    ∀ r news' h' tk', Fr h₀ L h' m → News h₀ L h' news' → (∃ a2 s2 ta2 ts2 n2 a x t u m, news' = (p, potO q a2 s2 ta2 ts2 n2) :: (a, insObj x t u m) :: rest ∧ 0 ≤ a2 ∧ r = .ref a ∧ x.ok many ∧ a ≠ p ∧ ∀ y ∈ rest, y.1 < a) → Q r { s with heap := h', toks := tk' } := fun r news' h' tk' F N P => by
  obtain ⟨a2, s2, ta2, ts2, n2, a, x, t, u, i, rfl, h1, rfl, h2, h3, h4⟩ := P
  exact k a2 s2 ta2 ts2 n2 a x t u i h' tk' F N h1 h2 h3 h4
end
-- P4
set_option maxRecDepth 100000
set_option maxHeartbeats 8000000
def LineOK (h₀ : Heap) (L : Addr) (m : Str → Option Value) (s₁ : Shared) (p q : Addr) (many : Int) (R : List (Addr × Obj)) (y : Value) (s₂ : Shared) : Prop :=
  ∃ h' tk' a3 s3 ta3 ts3 n3 b x t u k, y = .ref b ∧ s₂ = { s₁ with heap := h', toks := tk' } ∧ Fr h₀ L h' m ∧ News h₀ L h' ((p, potO q a3 s3 ta3 ts3 n3) :: (b, insObj x t u k) :: R) ∧ 0 ≤ a3 ∧ x.ok many ∧ b ≠ p ∧ ∀ z ∈ R, z.1 < b
theorem line_OK {h₀ h' : Heap} {L : Addr} {m : Str → Option Value} {s₁ : Shared} {tk' : Nat} {p q : Addr} {many a3 s3 : Int} {ta3 ts3 t u : Tok} {n3 k : Nat} {b : Addr} {x : Ins} {R : List (Addr × Obj)} (F : Fr h₀ L h' m) (N : News h₀ L h' ((p, potO q a3 s3 ta3 ts3 n3) :: (b, insObj x t u k) :: R)) (h0 : 0 ≤ a3) (hx : x.ok many) (hb : b ≠ p) (hl : ∀ z ∈ R, z.1 < b) :
    LineOK h₀ L m s₁ p q many R (.ref b) { s₁ with heap := h', toks := tk' } := ⟨h', tk', a3, s3, ta3, ts3, n3, b, x, t, u, k, rfl, rfl, F, N, h0, hx, hb, hl⟩
section
variable {prog : Program} {w : World} {A : Around} {E : Value → Shared → Prop} {s s₁ : Shared} {h₀ : Heap} {L : Addr} {m : Str → Option Value} {env : Env} {elt : Expr} {x : Str} {scope : Scope} {cl : List (Str × Addr)} {p q : Addr} {many : Int} {R : List (Addr × Obj)} {Fin : List Value → List (Addr × Obj) → Prop} {P : Nat → Value → Prop} {n : Nat}
theorem comp_rest (hRp : ∀ y ∈ R, y.1 ≠ p)
    (turn : ∀ (a2 s2 : Int) (ta2 ts2 : Tok) (n2 : Nat) (tl : List (Addr × Obj)) (ys : List Value) (v : Value) (I : Addr) (oI : Obj) (C : Addr) (oC : Obj) (D : Addr) (m₂ : Str → Option Value) (h : Heap) (tk : Nat) (E' : Value → Shared → Prop), 0 ≤ a2 → LCg.NsObj oC m₂ → Fr h₀ L h m →
      News h₀ L h ((I, oI) :: (C, oC) :: (D, LCg.lst ys) :: (p, potO q a2 s2 ta2 ts2 n2) :: (tl ++ R)) → @Ne Nat p I → @Ne Nat p C → @Ne Nat p D → (∀ y ∈ tl ++ R, y.1 ≠ p) →
      wpAny (model prog w) A (eval elt (compEnvC scope cl C env)) (LineOK h₀ L m { s₁ with heap := h, toks := tk } p q many ((I, oI) :: (C, oC) :: (D, LCg.lst ys) :: (tl ++ R))) E' { s₁ with heap := h, toks := tk })
    (fin : ∀ (a2 s2 : Int) (ta2 ts2 : Tok) (n2 : Nat) (tl : List (Addr × Obj)) (ys : List Value) (xs : List Ins), 0 ≤ a2 → A2 (IIn tl) ys xs → (∀ x ∈ xs, x.ok many) → xs.length = n → Above R tl → (∀ y ∈ tl, y.1 ≠ p) → Fin ys ((p, potO q a2 s2 ta2 ts2 n2) :: (tl ++ R))) :
    ∀ (k i : Nat) (a2 s2 : Int) (ta2 ts2 : Tok) (n2 : Nat) (tl : List (Addr × Obj)) (ys : List Value) (xs : List Ins), 0 ≤ a2 → A2 (IIn tl) ys xs → (∀ x ∈ xs, x.ok many) → xs.length = i → i + k = n → Above R tl → (∀ y ∈ tl, y.1 ≠ p) →
      LCg.CompRest prog w A h₀ L m env elt x scope cl s₁ (fun _ => True) P Fin k i ys ((p, potO q a2 s2 ta2 ts2 n2) :: (tl ++ R)) := by
  intro k
  induction k with
  | zero =>
    intro i a2 s2 ta2 ts2 n2 tl ys xs h0 h1 h2 h3 h4 h5 h6
    exact fin a2 s2 ta2 ts2 n2 tl ys xs h0 h1 h2 (by omega) h5 h6
  | succ k ih =>
    intro i a2 s2 ta2 ts2 n2 tl ys xs h0 h1 h2 h3 h4 h5 h6
    intro v I oI C oC D m₂ h tk E' hv hns hm2 F N off ne
    have om := LCg.Off3.mem off
    have op := om _ (List.mem_cons_self)
    refine wpAny_mono (turn a2 s2 ta2 ts2 n2 tl ys v I oI C oC D m₂ h tk E' h0 hns F N op.1 op.2.1 op.2.2 (List.forall_mem_append.mpr ⟨h6, hRp⟩)) (fun y s₂ hq => ?_) (fun _ _ e => e)
    obtain ⟨h', tk', a3, s3, ta3, ts3, n3, b, xi, t, u, kk, rfl, rfl, F', N', g0, gx, gp, gl⟩ := hq
    have lI := gl (I, oI) (.head _)
    have lC := gl (C, oC) (.tail _ (.head _))
    have lD := gl (D, LCg.lst ys) (.tail _ (.tail _ (.head _)))
    refine LCg.CompEnd.intro F' N' ((p, potO q a3 s3 ta3 ts3 n3) :: (((b, insObj xi t u kk) :: tl) ++ R)) (fun z hz => ?_) (LCg.Off3.of fun z hz => ?_) trivial ?_
    · simp only [List.mem_cons, List.mem_append] at hz ⊢
      rcases hz with h | h | h | h | (h | h) | h <;> simp [h]
    · simp only [List.mem_cons, List.mem_append] at hz
      rcases hz with rfl | (rfl | hz) | hz
      · exact ⟨op.1, op.2.1, op.2.2⟩
      · exact ⟨Nat.ne_of_gt lI, Nat.ne_of_gt lC, Nat.ne_of_gt lD⟩
      · exact om z (List.mem_cons_of_mem _ (List.mem_append_left _ hz))
      · exact om z (List.mem_cons_of_mem _ (List.mem_append_right _ hz))
    · refine ih (i + 1) a3 s3 ta3 ts3 n3 ((b, insObj xi t u kk) :: tl) (ys ++ [.ref b]) (xs ++ [xi]) g0 ((h1.mono fun _ _ h => h.mono fun z hz => .tail _ hz).append (.cons ⟨b, t, u, kk, rfl, .head _⟩ .nil)) ?_ (by simp [h3]) (by omega) ?_ ?_
      · intro z hz
        rcases List.mem_append.mp hz with hz | hz
        · exact h2 z hz
        · rw [List.mem_singleton.mp hz]; exact gx
      · intro z hz y hy
        rcases List.mem_cons.mp hy with rfl | hy
        · exact gl z (.tail _ (.tail _ (.tail _ (List.mem_append_right _ hz))))
        · exact h5 z hz y hy
      · intro y hy
        rcases List.mem_cons.mp hy with rfl | hy
        · exact gp
        · exact h6 y hy
end
theorem comp_law {prog : Program} {w : World} {A : Around} {s₁ : Shared} {h₀ : Heap} {L : Addr} {m : Str → Option Value} {env : Env} {elt : Expr} {x : Str} {scope : Scope} {cl : List (Str × Addr)} {p q r : Addr} {many a2 s2 : Int} {ta2 ts2 t u v : Tok} {n2 : Nat} {R : List (Addr × Obj)} {Fin : Shared → List Value → List (Addr × Obj) → Prop}
    (hh : A.handled = none) (F : Fr h₀ L s₁.heap m) (N : News h₀ L s₁.heap ((p, potO q a2 s2 ta2 ts2 n2) :: R)) (hr : IsRange s₁.heap r 0 many 1 t u v) (h1 : 0 < many) (h2 : many < 100) (h0 : 0 ≤ a2) (hRp : ∀ y ∈ R, y.1 ≠ p)
    (turn : ∀ (g : Heap) (a2 s2 : Int) (ta2 ts2 : Tok) (n2 : Nat) (tl : List (Addr × Obj)) (ys : List Value) (v : Value) (I : Addr) (oI : Obj) (C : Addr) (oC : Obj) (D : Addr) (m₂ : Str → Option Value) (h : Heap) (tk : Nat) (E' : Value → Shared → Prop), 0 ≤ a2 → LCg.NsObj oC m₂ → Fr h₀ L h m →
      News h₀ L h ((I, oI) :: (C, oC) :: (D, LCg.lst ys) :: (p, potO q a2 s2 ta2 ts2 n2) :: (tl ++ R)) → @Ne Nat p I → @Ne Nat p C → @Ne Nat p D → (∀ y ∈ tl ++ R, y.1 ≠ p) →
      wpAny (model prog w) A (eval elt (compEnvC scope cl C env)) (LineOK h₀ L m { s₁ with heap := h, toks := tk } p q many ((I, oI) :: (C, oC) :: (D, LCg.lst ys) :: (tl ++ R))) E' { s₁ with heap := h, toks := tk })
    (fin : ∀ (g : Heap) (a2 s2 : Int) (ta2 ts2 : Tok) (n2 : Nat) (tl : List (Addr × Obj)) (ys : List Value) (xs : List Ins), 0 ≤ a2 → A2 (IIn tl) ys xs → (∀ x ∈ xs, x.ok many) → (xs.length : Int) = many → Above R tl → (∀ y ∈ tl, y.1 ≠ p) → Fin { s₁ with heap := g } ys ((p, potO q a2 s2 ta2 ts2 n2) :: (tl ++ R))) :
    LCg.CompSrc prog w A h₀ L m env elt x scope cl Fin (.ref r) s₁ := by
  have hn : (many.toNat : Int) = many := by omega
  refine LCg.CompSrc.range (n := many.toNat) hh F N hr ?_ ?_ ?_ fun g => ?_
  · have e0 : Builtin.Range.rangeSize 0 many 1 = many := by
      simp only [Builtin.Range.rangeSize]; rw [if_pos (show (1 : Int) > 0 by decide), if_pos h1]; omega
    have f : ∀ z : Int, -1000 < z → z < 1000 → Builtin.Range.rangeFitsLong z = true := by
      intro z a b
      simp [Builtin.Range.rangeFitsLong]
      omega
    unfold Builtin.Range.small
    rw [e0, f 0 (by decide) (by decide), f many (by omega) (by omega), f 1 (by decide) (by decide), if_pos (show (1 : Int) > 0 by decide), f (many + (1 - 1)) (by omega) (by omega)]
    simp
  · simp only [Builtin.Range.rangeSize]; rw [if_pos (show (1 : Int) > 0 by decide), if_pos h1]; omega
  · have e : sizeLine = 16777216 := rfl
    omega
  · exact comp_rest (s₁ := { s₁ with heap := g }) (n := many.toNat) hRp (fun a2 s2 ta2 ts2 n2 tl ys v I oI C oC D m₂ h tk E' => turn g a2 s2 ta2 ts2 n2 tl ys v I oI C oC D m₂ h tk E')
      (fun a2 s2 ta2 ts2 n2 tl ys xs k0 k1 k2 k3 k4 k5 => fin g a2 s2 ta2 ts2 n2 tl ys xs k0 k1 k2 (by omega) k4 k5) many.toNat 0 a2 s2 ta2 ts2 n2 [] [] [] h0 .nil (fun _ h => nomatch h) rfl (by omega) (fun _ _ _ h => nomatch h) (fun _ h => nomatch h)
theorem above_ne {R tl : List (Addr × Obj)} {d : Addr} {o : Obj} (h : Above R tl) (hm : (d, o) ∈ R) : ∀ y ∈ tl, y.1 ≠ d := fun y hy => Nat.ne_of_gt (h _ hm y hy)
theorem fn_end {w : World} {O : Obj} {h₀ h : Heap} {L : Addr} {s : Shared} {m' : Str → Option Value} {rest led tl : List (Addr × Obj)} {p q x dx cl kl : Addr} {a2 s2 d : Int} {ta2 ts2 : Tok} {n2 tk nd nc nk : Nat} {t1 t2 t3 t4 t5 t6 tf td : Tok} {ys ks : List Value} {xs : List Ins} {many : Int} {Q : Value → Shared → Prop}
    (hret : ∀ r news' h' tk', Fr h₀ L h' m' → News h₀ L h' news' → (∃ a2 s2 ta2 ts2 n2 f xs d tl, news' = (p, potO q a2 s2 ta2 ts2 n2) :: (tl ++ rest) ∧ 0 ≤ a2 ∧ r = .ref f ∧ FnIn w (tl ++ rest) (.ref f) xs d ∧ xs ≠ [] ∧ xs.length ≤ 7 ∧ (∀ x ∈ xs, x.ok xs.length) ∧ (∀ y ∈ tl, y.1 ≠ p) ∧ 0 ≤ d) → Q r { s with heap := h', toks := tk' })
    (F : Fr h₀ L h m') (N : News h₀ L h led) (mp : (p, potO q a2 s2 ta2 ts2 n2) ∈ led) (mx : (x, instObj 198 dx) ∈ led)
    (md : (dx, O) ∈ led) (hO : O = dictOf [⟨PyData.keyHash w.params (Str.ofString "title"), .str (Str.ofString "title") t1, .str (Str.ofString "f") tf⟩, ⟨PyData.keyHash w.params (Str.ofString "told"), .str (Str.ofString "told") t2, .none⟩, ⟨PyData.keyHash w.params (Str.ofString "code"), .str (Str.ofString "code") t3, .ref cl⟩, ⟨PyData.keyHash w.params (Str.ofString "constants"), .str (Str.ofString "constants") t4, .ref kl⟩, ⟨PyData.keyHash w.params (Str.ofString "depth"), .str (Str.ofString "depth") t5, .int d td⟩, ⟨PyData.keyHash w.params (Str.ofString "interactive"), .str (Str.ofString "interactive") t6, .none⟩] nd)
    (mc : (cl, listOf ys.toArray nc) ∈ led) (mk : (kl, listOf ks.toArray nk) ∈ led) (h6 : ks.length = 3) (mt : ∀ y ∈ tl, y ∈ led) (mr : ∀ y ∈ rest, y ∈ led) (h0 : 0 ≤ a2) (e1 : x ≠ p) (e2 : dx ≠ p) (e3 : cl ≠ p) (e4 : kl ≠ p) (htp : ∀ y ∈ tl, y.1 ≠ p)
    (hA : A2 (IIn tl) ys xs) (hok : ∀ x ∈ xs, x.ok many) (hl : (xs.length : Int) = many) (g1 : 0 < many) (g2 : many ≤ 7) (hd0 : 0 ≤ d) : Q (.ref x) { s with heap := h, toks := tk } := by
  have hfn : FnIn w (((x, instObj 198 dx) :: (dx, O) :: (cl, listOf ys.toArray nc) :: (kl, listOf ks.toArray nk) :: tl) ++ rest) (.ref x) xs d := by
    subst hO
    exact ⟨rfl, .head _, .tail _ (.head _), .tail _ (.tail _ (.head _)), hA.mono fun _ _ h => h.mono fun y hy => List.mem_append_left _ (.tail _ (.tail _ (.tail _ (.tail _ hy)))), .tail _ (.tail _ (.tail _ (.head _))), h6⟩
  refine hret _ _ h tk F (kst_newsOf N ?_) ⟨a2, s2, ta2, ts2, n2, x, xs, d, (x, instObj 198 dx) :: (dx, O) :: (cl, listOf ys.toArray nc) :: (kl, listOf ks.toArray nk) :: tl, rfl, h0, rfl, hfn, ?_, by omega, fun x hx => hl ▸ hok x hx, ?_, hd0⟩
  · intro y hy
    simp only [List.mem_cons, List.mem_append] at hy
    rcases hy with rfl | (rfl | rfl | rfl | rfl | hy) | hy
    · exact mp
    · exact mx
    · exact md
    · exact mc
    · exact mk
    · exact mt y hy
    · exact mr y hy
  · rintro rfl
    simp at hl
    omega
  · intro y hy
    simp only [List.mem_cons] at hy
    rcases hy with rfl | rfl | rfl | rfl | hy
    · exact e1
    · exact e2
    · exact e3
    · exact e4
    · exact htp y hy
theorem news_swap4 {h₀ h : Heap} {L : Addr} {x1 x2 x3 x4 y : Addr × Obj} {l : List (Addr × Obj)} (N : News h₀ L h (x1 :: x2 :: x3 :: x4 :: y :: l)) : News h₀ L h (y :: x1 :: x2 :: x3 :: x4 :: l) := fun p hp => N p (by
  simp only [List.mem_cons] at hp ⊢
  rcases hp with h | h | h | h | h | h <;> simp [h])
theorem off1_mem {D : Addr} : ∀ {l : List (Addr × Obj)}, LCg.Off1 D l → ∀ x ∈ l, x.1 ≠ D
  | [], _, _, h => nomatch h
  | _ :: _, o, x, h => by
    rcases List.mem_cons.mp h with rfl | h
    · exact o.1
    · exact off1_mem o.2 x h
theorem off6 {D : Addr} {y x1 x2 x3 x4 x5 x6 : Addr × Obj} {tl l : List (Addr × Obj)} (o : LCg.Off1 D (y :: (tl ++ x1 :: x2 :: x3 :: x4 :: x5 :: x6 :: l))) : @Ne Nat y.1 D ∧ @Ne Nat x1.1 D ∧ @Ne Nat x2.1 D ∧ @Ne Nat x3.1 D ∧ @Ne Nat x4.1 D ∧ @Ne Nat x5.1 D ∧ @Ne Nat x6.1 D := by
  have h := off1_mem o
  exact ⟨h y (by simp), h x1 (by simp), h x2 (by simp), h x3 (by simp), h x4 (by simp), h x5 (by simp), h x6 (by simp)⟩
theorem news_mv6 {h₀ h : Heap} {L : Addr} {x y x1 x2 x3 x4 x5 x6 : Addr × Obj} {tl l : List (Addr × Obj)} (N : News h₀ L h (x :: y :: (tl ++ x1 :: x2 :: x3 :: x4 :: x5 :: x6 :: l))) : News h₀ L h (x :: y :: x1 :: x2 :: x3 :: x4 :: x5 :: x6 :: (tl ++ l)) := fun p hp => N p (by
  simp only [List.mem_cons, List.mem_append] at hp ⊢
  rcases hp with h | h | h | h | h | h | h | h | h | h <;> simp [h])
-- C12
set_option maxRecDepth 100000
set_option maxHeartbeats 8000000
theorem reset12 : True := by
  w_top off
  trivial

theorem linesC12_0 : True := by
  k_with_none
  (k_with "m subscriptTail" => (k_here; (with_reducible show wpAny _ _ (subscriptTail _ _ (Value.ref 90) (Value.str (Wd.str _) _)) _ _ _); k_dflt (refine' rows_item ?F ?X ?_; (case F => k_asm); (case X => k_asm)); intro a t0 t1 t2 t3 t4 hrow; dsimp only))
  (k_with "m subscriptTail" => (k_here; (with_reducible show wpAny _ _ (subscriptTail _ _ (Value.ref _) (Value.int _ _)) _ _ _); k_dflt (refine' topTup_K ?F ?X ?l ?a ?b ?c ?d ?_; (case F => k_asm); (case X => k_asm); (case l => assumption); (case a => decide); (case b => decide); (case c => rfl); (case d => rfl); k_whole)))
  (k_with "m subscriptTail" => (k_here; (with_reducible show wpAny _ _ (subscriptTail _ _ (Value.ref _) (Value.int (-1) _)) _ _ _); k_dflt (refine' my_last ?N ?m ?z ?x ?_; (case N => k_asm); (case m => k_mem); (case z => first | exact my_sz | exact my_sz_push); (case x => first | exact my_at | exact my_at_push); k_whole)))
  (k_with "m subscriptTail Name UnaryOp ref int" => (k_here; (with_reducible show wpAny _ _ (subscriptTail _ _ (Value.ref _) (Value.int (-1) _)) _ _ _); k_dflt (refine' my_last ?N ?m ?z ?x ?_; (case N => k_asm); (case m => k_mem); (case z => first | exact my_sz | exact my_sz_push); (case x => first | exact my_at | exact my_at_push); k_whole)))
  (k_with "m ite" => (refine ite_neg (wd_plain _) ?_))
  (k_with "m mem" => (first | exact List.mem_cons_self | (refine List.mem_cons_of_mem _ ?_; walk_at "mem") | (refine List.mem_append_left _ ?_; walk_at "mem") | (refine List.mem_append_right _ ?_; walk_at "mem") | ktr_member | assumption))
  (k_with "m room" => (ktr_room))
  (k_with "m sub" => (first | exact fun _ h => h | (refine fun p hp => List.mem_cons_of_mem _ ((?_ : ∀ p, _ → _) p hp); walk_at "sub") | (refine fun p hp => List.mem_append_right _ ((?_ : ∀ p, _ → _) p hp); walk_at "sub") | (refine fun p hp => List.mem_append_left _ ((?_ : ∀ p, _ → _) p hp); walk_at "sub")))
  (k_with "m con start" => (intro dp un gd cn cs a ccd cl outer A₀ base h₀ L m s mean mg mb Q E B F X N T hk hdp hun hret; (refine wpAny_call ?_); k_dflt ktr_enter))
  (k_with "m nz" => (first | exact my_nz | exact my_nz_push))
  (k_with "m compareOp Eq ref ref" => (k_here; (with_reducible show wpAny _ _ (compareOp CmpOp.Eq (Value.ref _) (Value.ref _)) _ _ _); first | k_dflt (refine' my_eq_nil_t ?N ?a ?b ?u ?_; (case N => k_asm); (case a => k_mem); (case b => k_mem); (case u => ktr_units)) | k_dflt (refine' my_eq_nil_f ?N ?a ?b ?z ?u ?_; (case N => k_asm); (case a => k_mem); (case b => k_mem); (case z => walk_at "nz"); (case u => ktr_units))))
  (k_with "m compareOp NotEq ref ref" => (k_here; (with_reducible show wpAny _ _ (compareOp CmpOp.NotEq (Value.ref _) (Value.ref _)) _ _ _); first | k_dflt (refine' my_ne_nil_f ?N ?a ?b ?u ?_; (case N => k_asm); (case a => k_mem); (case b => k_mem); (case u => ktr_units)) | k_dflt (refine' my_ne_nil_t ?N ?a ?b ?z ?u ?_; (case N => k_asm); (case a => k_mem); (case b => k_mem); (case z => walk_at "nz"); (case u => ktr_units))))
  (k_with "m alllt" => (first | assumption | exact allLt_of (by assumption) | exact ⟨by assumption, AllLt.up (by assumption) (by walk_at "alllt")⟩))
  (k_with "m grow" => (first | exact Grow.refl _ | (refine Grow.cons ?_ ?_; (walk_at "grow"); (k_dflt walk_at "alllt")) | (refine Grow.app ?_ ?_; (walk_at "grow"); assumption) | assumption))
  (k_with "m grow2" => (first | exact Grow2.refl _ _ | (apply Grow2.cons; (walk_at "grow2"); (k_dflt walk_at "alllt")) | (apply Grow2.app; (walk_at "grow2"); assumption)))
  (k_with "m all" => first | exact List.forall_mem_nil _ | (refine List.forall_mem_cons.mpr ⟨?_, ?_⟩; (k_ne); (k_all)) | assumption | exact AllLt.ne (by walk_at "alltail"))
  (k_with "m alltail" => first | assumption | exact allLt_of (by assumption) | exact And.right (by assumption) | exact And.right (And.right (by assumption)) | exact And.right (And.right (And.right (by assumption))) | exact And.right (And.right (And.right (And.right (by assumption)))) | exact And.right (And.right (And.right (And.right (And.right (by assumption))))) | exact And.right (And.right (And.right (And.right (And.right (And.right (by assumption)))))) | exact And.right (And.right (And.right (And.right (And.right (And.right (And.right (by assumption))))))) | exact And.right (And.right (And.right (And.right (And.right (And.right (And.right (And.right (by assumption)))))))) | exact And.right (And.right (And.right (And.right (And.right (And.right (And.right (And.right (And.right (by assumption))))))))) | exact And.right (And.right (And.right (And.right (And.right (And.right (And.right (And.right (And.right (And.right (by assumption)))))))))) | exact And.right (And.right (And.right (And.right (And.right (And.right (And.right (And.right (And.right (And.right (And.right (by assumption))))))))))) | exact And.right (And.right (And.right (And.right (And.right (And.right (And.right (And.right (And.right (And.right (And.right (And.right (by assumption)))))))))))) | exact And.right (And.right (And.right (And.right (And.right (And.right (And.right (And.right (And.right (And.right (And.right (And.right (And.right (by assumption))))))))))))) | exact And.right (And.right (And.right (And.right (And.right (And.right (And.right (And.right (And.right (And.right (And.right (And.right (And.right (And.right (by assumption)))))))))))))) | exact And.right (And.right (And.right (And.right (And.right (And.right (And.right (And.right (And.right (And.right (And.right (And.right (And.right (And.right (And.right (by assumption))))))))))))))) | exact And.right (And.right (And.right (And.right (And.right (And.right (And.right (And.right (And.right (And.right (And.right (And.right (And.right (And.right (And.right (And.right (by assumption)))))))))))))))) | exact AllLt.up (by assumption) (by walk_at "alltail"))
  (k_with "m all" => first | exact List.forall_mem_nil _ | (refine List.forall_mem_cons.mpr ⟨?_, ?_⟩; (k_ne); (k_all)) | assumption | exact AllLt.ne (by walk_at "alltail") | (refine List.forall_mem_append.mpr ⟨?_, ?_⟩; (exact above_ne (by assumption) (by k_mem)); (k_all)))
  (k_with "m call ref" => (k_here; (with_reducible show wpAny _ _ (call (Value.ref 331) [Value.ref _, Value.int _ _]) _ _ _); k_dflt (refine' con_use ?k1 ?k2 ?k3 ?k4 ?k5 ?kK (law_dip _ _ _ _ _ _ _ _ _ _ _ _ _ ?d0 ?dm ?dq ?di ?dl ?dp) ?kd ?ku (dip_ret ?_); (case k1 => k_asm); (case k2 => k_asm); (case k3 => k_asm); (case k4 => first | k_asm | exact news_swap (by k_asm) | exact news_swap2 (by k_asm) | exact news_swap3 (by k_asm)); (case k5 => k_asm); (case kK => first | exact rfl | assumption); (case d0 => first | assumption | omega); (case dm => first | decide | omega); (case di => assumption); (case dq => k_mem); (case dl => assumption); (case dp => k_all); (case kd => ktr_room); (case ku => ktr_units); intro a2 s2 ta2 ts2 n2 k2 t2 h9 tk9 F9 N9 ha2 hk0 hk1; skip)))
  (k_with "m call ref" => (k_here; (with_reducible show wpAny _ _ (call (Value.ref 338) [Value.ref _, Value.int _ _]) _ _ _); k_dflt (refine' con_use ?k1 ?k2 ?k3 ?k4 ?k5 ?kK (law_line _ _ _ _ _ _ _ _ _ _ _ _ _ ?d0 ?dm ?dq ?di ?dl ?dp) ?kd ?ku (line_ret ?_); (case k1 => k_asm); (case k2 => k_asm); (case k3 => k_asm); (case k4 => first | k_asm | exact news_swap (by k_asm) | exact news_swap2 (by k_asm) | exact news_swap3 (by k_asm)); (case k5 => k_asm); (case kK => first | exact rfl | assumption); (case d0 => first | assumption | omega); (case dm => first | decide | omega); (case di => assumption); (case dq => k_mem); (case dl => assumption); (case dp => k_all); (case kd => ktr_room); (case ku => ktr_units); intro a3 s3 ta3 ts3 n3 b3 x3 t3 u3 m3 h9 tk9 F9 N9 ga3 gx3 gp3 gl3; skip)))
  (k_with "m LineOK" => (k_here; exact line_OK (by k_asm) (by k_asm) ga3 gx3 gp3 gl3))
  (k_with "m CompSrc" => (k_here; k_dflt (refine' comp_law ?xH ?xF ?xN ?xR ?x1 ?x2 ?x0 ?xP ?xT ?xD; (case xH => exact rfl); (case xF => k_asm); (case xN => exact news_swap4 (by k_asm)); (case xR => assumption); (case x1 => omega); (case x2 => omega); (case x0 => assumption); (case xP => k_all)); (case' xT => intro g9 a9 s9 ta9 ts9 n9 tl9 ys9 v9 I9 oI9 C9 oC9 D9 m9 h9 tk9 E9 ha9 hns9 F9 N9 hI9 hC9 hD9 hTR9); (case' xD => intro g9 a9 s9 ta9 ts9 n9 tl9 ys9 xs9 ha9 hA9 hok9 hln9 hab9 htp9)))
  (k_with "m FinE" => ((unfold LCg.FinE); intro D8 h8 tk8 F8 N8 o8; have hD6 := off6 o8; dsimp only at hD6; replace N8 := news_mv6 N8; have ht8 : ∀ y ∈ tl9 ++ rest, y.1 ≠ p := List.forall_mem_append.mpr ⟨htp9, hp⟩; (try dsimp only)))
  (k_with "m con startC" => (intro dp un gd cn cs a ccd cl outer A₀ base h₀ L m s mean mg mb Q E B F X N T hk hdp hun hret; (refine wpAny_call ?_); k_dflt (refine' code_defC ?k1 ?k2 ?k3 ?k4 ?k5 ?kA ?kF ?kK ?k6 ?k7 ?k8 ?k9 ?kB ?kD ?_ ?c2 ?c3 ?c4; (case kA => exact rfl); (case kF => exact rfl); (case kK => assumption); (case k1 => k_asm); (case k2 => k_asm); (case k3 => k_asm); (case k4 => k_asm); (case k5 => k_asm); (case k6 => k_is); (case k7 => k_is); (case k8 => ktr_room); (case k9 => exact BindsTo.of_eq rfl); (case kB => exact rfl); (case kD => decide +kernel); (case c2 => exact rfl); (case c3 => exact rfl); (case c4 => exact rfl); k_whole; intro g' L' h' tk' cells' FG' F' N' Y' B' X' T' l1; (try k_lt l1); k_cells Y'; (try simp only [List.cons_append, List.nil_append] at N'); (try dsimp only); (try k_fold))))
  trivial
theorem law_function (w : World) (rest : List (Addr × Obj)) (p q : Addr) (at' sd : Int) (ta ts : Tok) (n nq : Nat) (us : List Value) (h0 : 0 ≤ at') (hq : (q, listOf us.toArray nq) ∈ rest) (hi : Ints us) (hl : us.length < 100) (hp : ∀ x ∈ rest, x.1 ≠ p) :
    Con w 12 343 [.ref p] ((p, potO q at' sd ta ts n) :: rest) (fun r news' => ∃ a2 s2 ta2 ts2 n2 f xs d tl, news' = (p, potO q a2 s2 ta2 ts2 n2) :: (tl ++ rest) ∧ 0 ≤ a2 ∧ r = .ref f ∧ FnIn w (tl ++ rest) (.ref f) xs d ∧ xs ≠ [] ∧ xs.length ≤ 7 ∧ (∀ x ∈ xs, x.ok xs.length) ∧ (∀ y ∈ tl, y.1 ≠ p) ∧ 0 ≤ d) := by
  walk_at "con startC"
  have lc1 := AllLt.up (b := L' + 1) (Nat.lt_succ_self _) l1.2
  have lc2 := AllLt.up (b := L' + 1 + 1) (Nat.lt_succ_self _) lc1
  k_steps
  exact fn_end hret (by k_asm) (by k_asm) (by k_mem) (by k_mem) (by k_mem) (by exact rfl) (by k_mem) (by k_mem) (by exact rfl) (by walk_at "sub") (by walk_at "sub") ha2 (by k_ne) (by k_ne) (by k_ne) (by k_ne) htp9 hA9 hok9 hln9 (by omega) (by omega) (by omega)
-- T
set_option maxRecDepth 100000
set_option maxHeartbeats 8000000
section
variable {prog : Program} {w : World} {A : Around} {E : Value → Shared → Prop} {s : Shared} {h₀ : Heap} {L a b : Addr} {m : Str → Option Value} {news : List (Addr × Obj)} {us : List Value} {v : Value} {n1 n2 : Nat}
theorem adjust_upto (k : Nat) : Builtin.Slice.sliceAdjust none (some (-1)) 1 ((k + 1 : Nat) : Int) = (0, (k : Int)) := by
  unfold Builtin.Slice.sliceAdjust
  have h1 : ¬ ((1 : Int) < 0) := by omega
  have h2 : ((-1 : Int) < 0) := by omega
  simp only [h1, h2, if_false, if_true]
  congr 1
  omega
theorem places_upto (k : Nat) : Builtin.Slice.slicePlaces 0 (k : Int) 1 = k := by
  unfold Builtin.Slice.slicePlaces
  have h1 : (1 : Int) > 0 := by omega
  simp only [h1, if_true, Int.ediv_one]
  split <;> omega
theorem sliceApplied_upto {sl : Addr} {k : Nat} {u : Tok} {Q : Int × Int × Nat → Shared → Prop} (hs : s.heap.IsSliceOf sl .none (.int (-1) u) .none) (h : Q (0, 1, k) s) :
    wpAny (model prog w) A (Builtin.Slice.sliceApplied (.ref sl) (pure ((k + 1 : Nat) : Int))) Q E s := by
  obtain ⟨os, hos, hcs, hds⟩ := id hs
  unfold Builtin.Slice.sliceApplied Builtin.Slice.sliceFields
  refine wpAny_bind (wpAny_bind (wpAny_field hos hds (x := .none) rfl (wpAny_bind (wpAny_field hos hds (x := .int (-1) u) rfl (wpAny_bind (wpAny_field hos hds (x := .none) rfl (wpAny_pure ?_)))))))
  refine wpAny_bind (slicePart_none ?_)
  show wpAny _ _ (if ((1 : Int) == 0) = true then _ else _) _ _ s
  rw [if_neg (by decide)]
  refine wpAny_bind (slicePart_none (wpAny_bind (slicePart_int (wpAny_bind (wpAny_pure ?_)))))
  show wpAny _ _ (match Builtin.Slice.sliceAdjust none (some (-1)) 1 ((k + 1 : Nat) : Int) with | (lo, hi) => pure (lo, (1 : Int), Builtin.Slice.slicePlaces lo hi 1)) _ _ s
  rw [adjust_upto k]
  show wpAny _ _ (pure ((0 : Int), (1 : Int), Builtin.Slice.slicePlaces 0 (k : Int) 1)) _ _ s
  rw [places_upto k]
  exact wpAny_pure h
theorem pick_upto (us : List Value) (v : Value) : ((List.range us.length).filterMap fun (k : Nat) => (us ++ [v]).toArray[((0 : Int) + (k : Int) * 1).toNat]?).toArray = us.toArray := by
  have e : (fun (k : Nat) => (us ++ [v]).toArray[((0 : Int) + (k : Int) * 1).toNat]?) = fun k => (us ++ [v]).toArray[0 + k]? := by
    funext k
    have : ((0 : Int) + (k : Int) * 1).toNat = 0 + k := by omega
    rw [this]
  rw [e]
  have := pick_run (us ++ [v]).toArray 0 us.length
  rw [List.filterMap_map] at this
  have e2 : ((fun x => (us ++ [v]).toArray[x]?) ∘ fun x => 0 + x) = fun k => (us ++ [v]).toArray[0 + k]? := rfl
  rw [e2] at this
  rw [this]
  simp
theorem getItem_upto {t sl : Addr} {u : Tok} {Q : Value → Shared → Prop} (ht : IsTup s.heap t (us ++ [v]).toArray) (hs : s.heap.IsSliceOf sl .none (.int (-1) u) .none) (hz : us.length < 5000)
    (h : Q (.ref s.heap.objs.size) { s with heap := s.heap.push { cls := .type "tuple", data := .seq us.toArray } }) : wpAny (model prog w) A (getItem (.ref t) (.ref sl)) Q E s := by
  have e0 : sizeLine = 16777216 := rfl
  have hdrop : sizeOk (.seq us.toArray) := by
    show us.toArray.size ≤ sizeLine
    rw [List.size_toArray]
    omega
  have hsize : (us ++ [v]).toArray.size = us.length + 1 := by simp
  obtain ⟨os, hos, hcs, hds⟩ := id hs
  have hTs : s.TypeIs (.ref sl) "slice" := ⟨os, hos, hcs⟩
  unfold getItem
  try with_reducible refine wpAny_holding ?_
  first | refine wpAny_bind (wpAny_pure ?_) | skip
  refine wpAny_bind (wpAny_sequenceKey ht.typeIs (by decide) ?_)
  refine wpAny_bind (wpAny_callSpecial?_slot (name := Str.ofString "__getitem__") ht.typeIs slot_tuple_getitem
    (wpAny_call_entry slot_tuple_getitem ht.typeIs entry_tuple_getitem ?_ (args_tuple_getitem _ _)))
  show wpAny _ _ (Builtin.Tuple.tupleItemsOf (.ref t) >>= _) _ _ s
  refine wpAny_bind (tupleItemsOf_ ht ?_)
  refine wpAny_bind (wpAny_typeOf hTs ?_)
  rw [if_pos (by decide)]
  rw [hsize]
  refine wpAny_bind (sliceApplied_upto hs ?_)
  have hno : ¬ (((0 : Int) == 0 && (1 : Int) == 1 && us.length == us.length + 1) = true) := by simp
  show wpAny _ _ (if ((0 : Int) == 0 && (1 : Int) == 1 && us.length == us.length + 1) = true then _ else _) _ _ s
  rw [if_neg hno, pick_upto us v]
  first
    | exact wpAny_bind (m := Builtin.Tuple.tupleExact _) (wpAny_newObj_type (wpAny_pure ⟨_, rfl, wpAny_pure h⟩) hdrop)
    | exact wpAny_bind (m := Builtin.Tuple.tupleExact _) (wpAny_newObj_type (wpAny_bind (wpAny_pure (wpAny_pure ⟨_, rfl, wpAny_pure h⟩))) hdrop)
    | exact wpAny_bind (wpAny_bind (m := Builtin.Tuple.tupleExact _) (wpAny_newObj_type (wpAny_pure (wpAny_pure ⟨_, rfl, wpAny_pure h⟩)) hdrop))
    | exact wpAny_bind (wpAny_bind (m := Builtin.Tuple.tupleExact _) (wpAny_newObj_type (wpAny_pure ⟨_, rfl, wpAny_pure h⟩) hdrop))
abbrev tupO (us : List Value) (n : Nat) : Obj := { cls := .type "tuple", data := .seq us.toArray n }
theorem my_tslice {value slice : Expr} {t : Addr} {u : Tok} {Q : Value → Shared → Prop}
    (F : Fr h₀ L s.heap m) (N : News h₀ L s.heap news) (hm : (t, tupO (us ++ [v]) n1) ∈ news) (hz : us.length < 5000)
    (h : ∀ D h', Fr h₀ L h' m → News h₀ L h' ((D, tupO us 0) :: news) → (∀ p ∈ news, p.1 < D) → Q (.ref D) { s with heap := h' })
    (hs : subscripted slice false (.ref t) (.ref s.heap.objs.size) = operate [.ref s.heap.objs.size, .ref t] (getItem (.ref t) (.ref s.heap.objs.size)) := by with_unfolding_all rfl)
    (hg : ∀ r, letTemporaryGo value (.ref t) r = pure () := by intro _; with_unfolding_all rfl) :
    wpAny (model prog w) A (subscriptTail value slice (.ref t) (.ref s.heap.objs.size)) Q E { s with heap := s.heap.push { cls := .type "slice", data := .fields #[.none, .int (-1) u, .none] } } := by
  have ht : IsTup s.heap t (us ++ [v]).toArray := ⟨_, (N _ hm).1, rfl, n1, rfl⟩
  have ht' : IsTup (s.heap.push { cls := .type "slice", data := .fields #[.none, .int (-1) u, .none] }) t (us ++ [v]).toArray := ht.keeps fun _ _ e => Heap.get?_push_of_some _ e
  refine subscriptTail_ops (s := { s with heap := s.heap.push { cls := .type "slice", data := .fields #[.none, .int (-1) u, .none] } }) ht'.typeIs slot_tuple_getitem.lookup
    (getItem_upto ht' (Heap.IsSliceOf.new ..) hz ?_) hs hg
  have N1 := News.push (F.push { cls := .type "slice", data := .fields #[.none, .int (-1) u, .none] }) (N.grown fun _ _ e => Heap.get?_push_of_some _ e) { cls := .type "tuple", data := .seq us.toArray }
  rw [Heap.size_push] at N1
  show Q (.ref (s.heap.push _).objs.size) _
  rw [Heap.size_push]
  exact h _ _ ((F.push _).push _) N1 fun p hp => Nat.lt_succ_of_lt (Heap.lt_size (N p hp).1)
theorem my_tadd_nil {Q : Value → Shared → Prop} {ws : List Value} (F : Fr h₀ L s.heap m) (N : News h₀ L s.heap news) (ha : (a, tupO [] n1) ∈ news) (hb : (b, tupO ws n2) ∈ news) (hz : ws.length < 5000) (h : Q (.ref b) s) : wpAny (model prog w) A (binaryOp .Add (.ref a) (.ref b)) Q E s :=
  add_tuples (vs := []) (ws := ws) F N ⟨_, (N _ ha).1, rfl, n1, rfl⟩ ⟨_, (N _ hb).1, rfl, n2, rfl⟩ (fun _ => h) (fun x => absurd rfl x) (fun x => absurd rfl x) (by have e0 : sizeLine = 16777216 := rfl; simp only [List.length_nil]; omega)
theorem my_tadd_cons {Q : Value → Shared → Prop} {y : Value} (F : Fr h₀ L s.heap m) (N : News h₀ L s.heap news) (ha : (a, tupO (us ++ [v]) n1) ∈ news) (hb : (b, tupO [y] n2) ∈ news) (hz : us.length < 5000)
    (h : ∀ D h', Fr h₀ L h' m → News h₀ L h' ((D, tupO (us ++ [v] ++ [y]) 0) :: news) → (∀ p ∈ news, p.1 < D) → Q (.ref D) { s with heap := h' }) : wpAny (model prog w) A (binaryOp .Add (.ref a) (.ref b)) Q E s :=
  add_tuples (vs := us ++ [v]) (ws := [y]) F N ⟨_, (N _ ha).1, rfl, n1, rfl⟩ ⟨_, (N _ hb).1, rfl, n2, rfl⟩ (fun x => absurd x (by simp)) (fun _ x => absurd x (by simp)) (fun _ _ h' F' N' => h _ h' F' N' fun p hp => Heap.lt_size (N p hp).1) (by have e0 : sizeLine = 16777216 := rfl; simp; omega)
end
section
variable {prog : Program} {w : World} {A : Around} {E : Value → Shared → Prop} {s : Shared} {h₀ : Heap} {L a b : Addr} {m : Str → Option Value} {news : List (Addr × Obj)} {Q : Value → Shared → Prop} {us : List Value} {v : Value} {n1 n2 : Nat}
theorem my_tn_nil (N : News h₀ L s.heap news) (ha : (a, tupO [] n1) ∈ news) (hb : (b, tupO [] n2) ∈ news) (hu : A.units + 64 < cLine) (h : Q (.bool false) s) : wpAny (model prog w) A (compareOp .NotEq (.ref a) (.ref b)) Q E s :=
  my_dat_ne (d := .tuple []) (e := .tuple []) N (.tuple ha .nil) (.tuple hb .nil) (by decide +kernel) (by decide +kernel) hu (by simpa using h)
theorem my_te_nil (N : News h₀ L s.heap news) (ha : (a, tupO [] n1) ∈ news) (hb : (b, tupO [] n2) ∈ news) (hu : A.units + 64 < cLine) (h : Q (.bool true) s) : wpAny (model prog w) A (compareOp .Eq (.ref a) (.ref b)) Q E s :=
  my_dat_eq (d := .tuple []) (e := .tuple []) N (.tuple ha .nil) (.tuple hb .nil) (by decide +kernel) (by decide +kernel) hu (by simpa using h)
theorem my_tn_cons (N : News h₀ L s.heap news) (ha : (a, tupO (us ++ [v]) n1) ∈ news) (hb : (b, tupO [] n2) ∈ news) (hu : A.units + 64 < cLine) (h : Q (.bool true) s) : wpAny (model prog w) A (compareOp .NotEq (.ref a) (.ref b)) Q E s :=
  PySem.SeqAt.RcNeAt.tuples (e := fun _ => true) ⟨_, (N _ ha).1, rfl, n1, rfl⟩ ⟨_, (N _ hb).1, rfl, n2, rfl⟩ (by omega) (fun j _ h2 => absurd h2 (by simp)) _ _ _ _ (by simpa using h)
theorem my_te_cons (N : News h₀ L s.heap news) (ha : (a, tupO (us ++ [v]) n1) ∈ news) (hb : (b, tupO [] n2) ∈ news) (hu : A.units + 64 < cLine) (h : Q (.bool false) s) : wpAny (model prog w) A (compareOp .Eq (.ref a) (.ref b)) Q E s :=
  PySem.SeqAt.RcAt.tuples (e := fun _ => true) ⟨_, (N _ ha).1, rfl, n1, rfl⟩ ⟨_, (N _ hb).1, rfl, n2, rfl⟩ (by omega) (fun j _ h2 => absurd h2 (by simp)) _ _ _ _ (by simpa using h)
theorem seq_last (k : Nat) : seqIndex? (-1) (k + 1) = some k := by
  have e : (-1 : Int) + ((k + 1 : Nat) : Int) = (k : Int) := by omega
  unfold seqIndex?
  simp only [show (-1 : Int) < 0 by decide, if_true, e]
  rw [if_pos (by simp; omega)]
  simp
theorem my_tlast {value slice : PySem.Expr} {u : Tok} (N : News h₀ L s.heap news) (hm : (a, tupO (us ++ [v]) n1) ∈ news) (hf : us.length < 5000) (h : Q v s)
    (hs : subscripted slice false (.ref a) (.int (-1) u) = operate [.ref a, .int (-1) u] (getItem (.ref a) (.int (-1) u)) := by with_unfolding_all rfl) :
    wpAny (model prog w) A (subscriptTail value slice (.ref a) (.int (-1) u)) Q E s :=
  item_tupleT (l := us ++ [v]) (j := us.length) ⟨_, (N _ hm).1, rfl, n1, rfl⟩ (by decide) (by decide) (by rw [List.length_append]; exact seq_last _) (by simp) h hs
end
-- P5
/-- what _law_next(line, values, binds, handlers) hands back; -1: the next place -/
def lawF (x : Ins) (st : St) : Option (List (Int × St)) :=
  if st.v < x.need then none
  else match x.w with
    | .ret => if st.v = 1 ∧ st.b = 0 ∧ st.hs = [] then some [] else none
    | .unbind => if x.k > st.b then none else match st.hs.getLast? with
      | none => some [(-1, ⟨st.v, st.b - x.k, st.hs⟩)]
      | some g => if st.b - x.k < g.2.1 then none else some [(-1, ⟨st.v, st.b - x.k, st.hs⟩)]
    | .pophandler => match st.hs.getLast? with
      | none => none
      | some g => if g.2.1 = st.b then some [(-1, ⟨st.v, st.b, st.hs.dropLast⟩)] else none
    | .pushcatch => some [(-1, ⟨st.v - 1, st.b, st.hs ++ [(st.v - 1, st.b, x.k)]⟩), (x.k, ⟨st.v, st.b, st.hs⟩)]
    | .goto => some [(x.k, ⟨st.v, st.b, st.hs⟩)]
    | .gotoifnil => some [(-1, ⟨st.v - 1, st.b, st.hs⟩), (x.k, ⟨st.v - 1, st.b, st.hs⟩)]
    | .gotoifnilelsepop => some [(-1, ⟨st.v - 1, st.b, st.hs⟩), (x.k, ⟨st.v, st.b, st.hs⟩)]
    | .const | .dup | .stackref => some [(-1, ⟨st.v + 1, st.b + 0, st.hs⟩)]
    | .discard => some [(-1, ⟨st.v + -1, st.b + 0, st.hs⟩)]
    | .varbind => some [(-1, ⟨st.v + -1, st.b + 1, st.hs⟩)]
    | .call => some [(-1, ⟨st.v + (0 - x.k), st.b + 0, st.hs⟩)]
abbrev qD (q : Int × St) : Dat := .tuple [.int q.1, sD q.2]
inductive LNext (news : List (Addr × Obj)) (o : Option (List (Int × St))) (r : Value) (l : List (Addr × Obj)) : Prop where
  | none (h : o = Option.none) (hr : r = Value.none)
  | stop {D T : Addr} {n m : Nat} {t t2 : Tok} (h : o = some []) (hr : r = .ref D) (h1 : (D, listOf (List.toArray [.ref T]) n) ∈ l) (hD : ∀ p ∈ news, p.1 ≠ D) (h2 : (T, tupO [.int (-2) t, .int 0 t2] m) ∈ l)
  | one {D : Addr} {n : Nat} {v : Value} {q : Int × St} (h : o = some [q]) (hr : r = .ref D) (h1 : (D, listOf (List.toArray [v]) n) ∈ l) (hD : ∀ p ∈ news, p.1 ≠ D) (hv : DatIn l v (qD q))
  | two {D : Addr} {n : Nat} {v v' : Value} {q q' : Int × St} (h : o = some [q, q']) (hr : r = .ref D) (h1 : (D, listOf (List.toArray [v, v']) n) ∈ l) (hD : ∀ p ∈ news, p.1 ≠ D) (hv : DatIn l v (qD q)) (hv' : DatIn l v' (qD q'))
section
variable {l l' : List (Addr × Obj)} (hs : ∀ p ∈ l, p.2.cls = .type "tuple" → p ∈ l')
include hs
theorem hD_off {v : Value} {g : Int × Int × Int} (h : DatIn l v (hD g)) : DatIn l' v (hD g) := by
  obtain ⟨a, t1, t2, t3, n, rfl, hm⟩ := hs_in h
  exact hs_of (hs _ hm rfl)
theorem hDs_off : ∀ {gs : List (Int × Int × Int)} {vs : List Value}, DatAll l vs (gs.map hD) → DatAll l' vs (gs.map hD)
  | [], _, h => by cases h; exact .nil
  | g :: gs, _, h => by
    cases h with
    | cons h1 h2 => exact .cons (hD_off hs h1) (hDs_off h2)
theorem sD_off {v : Value} {st : St} (h : DatIn l v (sD st)) : DatIn l' v (sD st) := by
  cases h with
  | tuple hm ha =>
    cases ha with
    | cons h1 ha =>
      cases ha with
      | cons h2 ha =>
        cases ha with
        | cons h3 ha =>
          cases ha
          cases h1
          cases h2
          cases h3 with
          | tuple hm3 ha3 => exact .tuple (hs _ hm rfl) (.cons (.int _ _) (.cons (.int _ _) (.cons (.tuple (hs _ hm3 rfl) (hDs_off hs ha3)) .nil)))
theorem qD_off {v : Value} {q : Int × St} (h : DatIn l v (qD q)) : DatIn l' v (qD q) := by
  cases h with
  | tuple hm ha =>
    cases ha with
    | cons h1 ha =>
      cases ha with
      | cons h2 ha =>
        cases ha
        cases h1
        exact .tuple (hs _ hm rfl) (.cons (.int _ _) (.cons (sD_off hs h2) .nil))
end
theorem lawF_none {x : Ins} {st : St} (h : st.v < x.need) : lawF x st = none := by simp [lawF, h]
section
variable {k v b : Int} {hs q : List (Int × Int × Int)} {g : Int × Int × Int}
theorem lf_ret1 (h : ¬ v < 1) (h1 : v = 1) (h2 : b = 0) : lawF ⟨.ret, k⟩ ⟨v, b, []⟩ = some [] := by
  refine (if_neg (show ¬ v < Ins.need ⟨.ret, k⟩ from h)).trans ?_
  exact if_pos ⟨h1, h2, rfl⟩
theorem lf_ret2 (h1 : ¬ v = 1) : lawF ⟨.ret, k⟩ ⟨v, b, hs⟩ = none := by
  by_cases h : v < Ins.need ⟨.ret, k⟩
  · exact if_pos h
  · exact (if_neg h).trans (if_neg fun e => h1 e.1)
theorem lf_ret3 (h1 : ¬ b = 0) : lawF ⟨.ret, k⟩ ⟨v, b, hs⟩ = none := by
  by_cases h : v < Ins.need ⟨.ret, k⟩
  · exact if_pos h
  · exact (if_neg h).trans (if_neg fun e => h1 e.2.1)
theorem lf_ret4 : lawF ⟨.ret, k⟩ ⟨v, b, q ++ [g]⟩ = none := by
  by_cases h : v < Ins.need ⟨.ret, k⟩
  · exact if_pos h
  · exact (if_neg h).trans (if_neg fun e => absurd e.2.2 (by simp))
theorem lf_unb1 (h : k > b) : lawF ⟨.unbind, k⟩ ⟨v, b, hs⟩ = none := by
  by_cases h0 : v < Ins.need ⟨.unbind, k⟩
  · exact if_pos h0
  · exact (if_neg h0).trans (if_pos h)
theorem lf_unb2 (h0 : ¬ v < 0) (h : ¬ k > b) : lawF ⟨.unbind, k⟩ ⟨v, b, []⟩ = some [(-1, ⟨v, b - k, []⟩)] :=
  (if_neg (show ¬ v < Ins.need ⟨.unbind, k⟩ from h0)).trans (if_neg h)
theorem lf_unb3 (h : ¬ k > b) (h2 : b - k < g.2.1) : lawF ⟨.unbind, k⟩ ⟨v, b, q ++ [g]⟩ = none := by
  by_cases h0 : v < Ins.need ⟨.unbind, k⟩
  · exact if_pos h0
  · refine (if_neg h0).trans ((if_neg h).trans ?_)
    simp only [List.getLast?_append, List.getLast?_singleton, Option.some_or, h2, if_true]
theorem lf_unb4 (h0 : ¬ v < 0) (h : ¬ k > b) (h2 : ¬ b - k < g.2.1) : lawF ⟨.unbind, k⟩ ⟨v, b, q ++ [g]⟩ = some [(-1, ⟨v, b - k, q ++ [g]⟩)] := by
  refine (if_neg (show ¬ v < Ins.need ⟨.unbind, k⟩ from h0)).trans ((if_neg h).trans ?_)
  simp only [List.getLast?_append, List.getLast?_singleton, Option.some_or, h2, if_false]
theorem lf_pop1 : lawF ⟨.pophandler, k⟩ ⟨v, b, []⟩ = none := by
  by_cases h0 : v < Ins.need ⟨.pophandler, k⟩
  · exact if_pos h0
  · exact (if_neg h0).trans rfl
theorem lf_pop2 (h : ¬ g.2.1 = b) : lawF ⟨.pophandler, k⟩ ⟨v, b, q ++ [g]⟩ = none := by
  by_cases h0 : v < Ins.need ⟨.pophandler, k⟩
  · exact if_pos h0
  · refine (if_neg h0).trans ?_
    simp only [List.getLast?_append, List.getLast?_singleton, Option.some_or, h, if_false]
theorem lf_pop3 (h0 : ¬ v < 0) (h : g.2.1 = b) : lawF ⟨.pophandler, k⟩ ⟨v, b, q ++ [g]⟩ = some [(-1, ⟨v, b, q⟩)] := by
  refine (if_neg (show ¬ v < Ins.need ⟨.pophandler, k⟩ from h0)).trans ?_
  simp only [List.getLast?_append, List.getLast?_singleton, Option.some_or, h, if_true, List.dropLast_concat]
end
-- C13
set_option maxRecDepth 100000
set_option maxHeartbeats 8000000
theorem reset13 : True := by
  w_top off
  trivial


theorem linesC13_0 : True := by
  k_with_none
  (k_with "m subscriptTail" => (k_here; (with_reducible show wpAny _ _ (subscriptTail _ _ (Value.ref 90) (Value.str (Wd.str _) _)) _ _ _); k_dflt (refine' rows_item ?F ?X ?_; (case F => k_asm); (case X => k_asm)); intro a t0 t1 t2 t3 t4 hrow; dsimp only))
  (k_with "m subscriptTail" => (k_here; (with_reducible show wpAny _ _ (subscriptTail _ _ (Value.ref _) (Value.int _ _)) _ _ _); k_dflt (refine' topTup_K ?F ?X ?l ?a ?b ?c ?d ?_; (case F => k_asm); (case X => k_asm); (case l => assumption); (case a => decide); (case b => decide); (case c => rfl); (case d => rfl); k_whole)))
  (k_with "m subscriptTail" => (k_here; (with_reducible show wpAny _ _ (subscriptTail _ _ (Value.ref _) (Value.int (-1) _)) _ _ _); k_dflt (refine' my_last ?N ?m ?z ?x ?_; (case N => k_asm); (case m => k_mem); (case z => first | exact my_sz | exact my_sz_push); (case x => first | exact my_at | exact my_at_push); k_whole)))
  (k_with "m subscriptTail Name UnaryOp ref int" => (k_here; (with_reducible show wpAny _ _ (subscriptTail _ _ (Value.ref _) (Value.int (-1) _)) _ _ _); k_dflt (refine' my_last ?N ?m ?z ?x ?_; (case N => k_asm); (case m => k_mem); (case z => first | exact my_sz | exact my_sz_push); (case x => first | exact my_at | exact my_at_push); k_whole)))
  (k_with "m ite" => (refine ite_neg (wd_plain _) ?_))
  (k_with "m mem" => (first | exact List.mem_cons_self | (refine List.mem_cons_of_mem _ ?_; walk_at "mem") | (refine List.mem_append_left _ ?_; walk_at "mem") | (refine List.mem_append_right _ ?_; walk_at "mem") | ktr_member | assumption))
  (k_with "m room" => (ktr_room))
  (k_with "m sub" => (first | exact fun _ h => h | (refine fun p hp => List.mem_cons_of_mem _ ((?_ : ∀ p, _ → _) p hp); walk_at "sub") | (refine fun p hp => List.mem_append_right _ ((?_ : ∀ p, _ → _) p hp); walk_at "sub") | (refine fun p hp => List.mem_append_left _ ((?_ : ∀ p, _ → _) p hp); walk_at "sub")))
  (k_with "m con start" => (intro dp un gd cn cs a ccd cl outer A₀ base h₀ L m s mean mg mb Q E B F X N T hk hdp hun hret; (refine wpAny_call ?_); k_dflt ktr_enter))
  (k_with "m nz" => (first | exact my_nz | exact my_nz_push))
  (k_with "m compareOp Eq ref ref" => (k_here; (with_reducible show wpAny _ _ (compareOp CmpOp.Eq (Value.ref _) (Value.ref _)) _ _ _); first | k_dflt (refine' my_eq_nil_t ?N ?a ?b ?u ?_; (case N => k_asm); (case a => k_mem); (case b => k_mem); (case u => ktr_units)) | k_dflt (refine' my_eq_nil_f ?N ?a ?b ?z ?u ?_; (case N => k_asm); (case a => k_mem); (case b => k_mem); (case z => walk_at "nz"); (case u => ktr_units))))
  (k_with "m compareOp NotEq ref ref" => (k_here; (with_reducible show wpAny _ _ (compareOp CmpOp.NotEq (Value.ref _) (Value.ref _)) _ _ _); first | k_dflt (refine' my_ne_nil_f ?N ?a ?b ?u ?_; (case N => k_asm); (case a => k_mem); (case b => k_mem); (case u => ktr_units)) | k_dflt (refine' my_ne_nil_t ?N ?a ?b ?z ?u ?_; (case N => k_asm); (case a => k_mem); (case b => k_mem); (case z => walk_at "nz"); (case u => ktr_units))))
  (k_with "m alllt" => (first | assumption | exact allLt_of (by assumption) | exact ⟨by assumption, AllLt.up (by assumption) (by walk_at "alllt")⟩))
  (k_with "m grow" => (first | exact Grow.refl _ | (refine Grow.cons ?_ ?_; (walk_at "grow"); (k_dflt walk_at "alllt")) | (refine Grow.app ?_ ?_; (walk_at "grow"); assumption) | assumption))
  (k_with "m grow2" => (first | exact Grow2.refl _ _ | (apply Grow2.cons; (walk_at "grow2"); (k_dflt walk_at "alllt")) | (apply Grow2.app; (walk_at "grow2"); assumption)))
  (k_with "m all" => first | exact List.forall_mem_nil _ | (refine List.forall_mem_cons.mpr ⟨?_, ?_⟩; (k_ne); (k_all)) | assumption | exact AllLt.ne (by walk_at "alltail"))
  (k_with "m alltail" => first | assumption | exact allLt_of (by assumption) | exact And.right (by assumption) | exact And.right (And.right (by assumption)) | exact And.right (And.right (And.right (by assumption))) | exact And.right (And.right (And.right (And.right (by assumption)))) | exact And.right (And.right (And.right (And.right (And.right (by assumption))))) | exact And.right (And.right (And.right (And.right (And.right (And.right (by assumption)))))) | exact And.right (And.right (And.right (And.right (And.right (And.right (And.right (by assumption))))))) | exact And.right (And.right (And.right (And.right (And.right (And.right (And.right (And.right (by assumption)))))))) | exact And.right (And.right (And.right (And.right (And.right (And.right (And.right (And.right (And.right (by assumption))))))))) | exact And.right (And.right (And.right (And.right (And.right (And.right (And.right (And.right (And.right (And.right (by assumption)))))))))) | exact And.right (And.right (And.right (And.right (And.right (And.right (And.right (And.right (And.right (And.right (And.right (by assumption))))))))))) | exact And.right (And.right (And.right (And.right (And.right (And.right (And.right (And.right (And.right (And.right (And.right (And.right (by assumption)))))))))))) | exact And.right (And.right (And.right (And.right (And.right (And.right (And.right (And.right (And.right (And.right (And.right (And.right (And.right (by assumption))))))))))))) | exact And.right (And.right (And.right (And.right (And.right (And.right (And.right (And.right (And.right (And.right (And.right (And.right (And.right (And.right (by assumption)))))))))))))) | exact And.right (And.right (And.right (And.right (And.right (And.right (And.right (And.right (And.right (And.right (And.right (And.right (And.right (And.right (And.right (by assumption))))))))))))))) | exact And.right (And.right (And.right (And.right (And.right (And.right (And.right (And.right (And.right (And.right (And.right (And.right (And.right (And.right (And.right (And.right (by assumption)))))))))))))))) | exact AllLt.up (by assumption) (by walk_at "alltail"))
  (k_with "m ite" => (k_closed; first | ((with_reducible refine' ite_neg ?itec ?_); (case itec => decide +kernel)) | ((with_reducible refine' ite_pos ?itec ?_); (case itec => decide +kernel))))
  (k_with "m eval Dict" => (k_here; (with_reducible show wpAny _ _ (eval (PySem.Expr.Dict (some (PySem.Expr.Constant _ _ _) :: _) _ _) _) _ _ _); k_dflt (refine' kdn_eval (knd := PySem.strKind _ _) ?F ?N ?b ?a ?l ?e ?n ?_; (case F => k_asm); (case N => first | k_asm | exact News.nil); (case b => exact Top.nolimit (by k_asm)); (case a => rfl); (case l => rfl); (case e => exact List.cons_ne_nil _ _); (case n => exact Nat.le_of_ble_eq_true rfl)); intro d' h' o' F' N' l1 lo' hd'; (try k_lt l1)))
  (k_with "m KdnMade" => (k_here; dsimp only; k_dflt (refine' kdn_made_strF ?F ?N ?U ?d ?k ?n ?v ?_; (case F => k_asm); (case N => k_asm); (case U => k_updF); (case d => k_asm); (case k => rfl); (case n => exact of_decide_eq_true (by first | rfl | kernel_rfl!)); (case v => rfl); intro h' o' F' N' hd' hf'); (try dsimp only at N')))
  (k_with "m compareOp NotEq ref ref" => (k_here; (with_reducible show wpAny _ _ (compareOp CmpOp.NotEq (Value.ref _) (Value.ref _)) _ _ _); first | k_dflt (refine' my_tn_cons ?tnN ?tna ?tnb ?tnu ?_; (case tnN => k_asm); (case tna => k_mem); (case tnb => k_mem); (case tnu => ktr_units)) | k_dflt (refine' my_tn_nil ?tnN ?tna ?tnb ?tnu ?_; (case tnN => k_asm); (case tna => k_mem); (case tnb => k_mem); (case tnu => ktr_units))))
  (k_with "m compareOp Eq ref ref" => (k_here; (with_reducible show wpAny _ _ (compareOp CmpOp.Eq (Value.ref _) (Value.ref _)) _ _ _); first | k_dflt (refine' my_te_cons ?tnN ?tna ?tnb ?tnu ?_; (case tnN => k_asm); (case tna => k_mem); (case tnb => k_mem); (case tnu => ktr_units)) | k_dflt (refine' my_te_nil ?tnN ?tna ?tnb ?tnu ?_; (case tnN => k_asm); (case tna => k_mem); (case tnb => k_mem); (case tnu => ktr_units))))
  (k_with "m subscriptTail Name UnaryOp ref int" => (k_here; (with_reducible show wpAny _ _ (subscriptTail _ _ (Value.ref _) (Value.int (-1) _)) _ _ _); k_dflt (refine' my_tlast ?tlN ?tlm ?tlf ?_; (case tlN => k_asm); (case tlm => k_mem); (case tlf => omega); k_whole)))
  (k_with "m subscriptTail" => (k_here; (with_reducible show wpAny _ _ (subscriptTail _ _ (Value.ref _) (Value.int (-1) _)) _ _ _); k_dflt (refine' my_tlast ?tlN ?tlm ?tlf ?_; (case tlN => k_asm); (case tlm => k_mem); (case tlf => omega); k_whole)))
  (k_with "m dmono" => (refine' DatAll.mono ?ds ?dh; (case dh => assumption); (case ds => walk_at "sub")))
  (k_with "m datall" => first | exact DatAll.nil | walk_at "dmono" | (refine' DatAll.snocR ?dp ?dq; (case dq => exact hs_of (by k_mem)); (case dp => walk_at "datall")) | (refine' DatAll.cons ?dp ?dq; (case dp => exact hs_of (by k_mem)); (case dq => walk_at "datall")))
  (k_with "m qd" => exact .tuple (by k_mem) (.cons (.int _ _) (.cons (.tuple (by k_mem) (.cons (.int _ _) (.cons (.int _ _) (.cons (.tuple (by k_mem) (by walk_at "datall")) .nil)))) .nil)))
  (k_with "m lf" => first | exact lawF_none (by assumption) | exact lf_ret1 (by assumption) (by assumption) (by assumption) | exact lf_ret2 (by assumption) | exact lf_ret3 (by assumption) | exact lf_ret4 | exact lf_unb1 (by assumption) | exact lf_unb2 (by assumption) (by assumption) | exact lf_unb3 (by assumption) (by assumption) | exact lf_unb4 (by assumption) (by assumption) (by assumption) | exact lf_pop1 | exact lf_pop2 (by assumption) | exact lf_pop3 (by assumption) (by assumption) | exact (if_neg (by assumption)).trans rfl)
  (k_with "m dnew" => exact AllLt.ne (by walk_at "alltail"))
  (k_with "m lnend" => first | exact hret _ _ _ _ (by k_asm) (by k_asm) ⟨by walk_at "grow", .none (by walk_at "lf") rfl⟩ | exact hret _ _ _ _ (by k_asm) (by k_asm) ⟨by walk_at "grow", .one (by walk_at "lf") rfl (by k_mem) (by walk_at "dnew") (by walk_at "qd")⟩ | exact hret _ _ _ _ (by k_asm) (by k_asm) ⟨by walk_at "grow", .two (by walk_at "lf") rfl (by k_mem) (by walk_at "dnew") (by walk_at "qd") (by walk_at "qd")⟩ | exact hret _ _ _ _ (by k_asm) (by k_asm) ⟨by walk_at "grow", .stop (by walk_at "lf") rfl (by k_mem) (by walk_at "dnew") (by k_mem)⟩)
  trivial
theorem law_next1 (w : World) (news : List (Addr × Obj)) (i ha : Addr) (xw : Wd) (xk : Int) (hx : xw ≠ .ret ∧ xw ≠ .unbind ∧ xw ≠ .pophandler ∧ xw ≠ .pushcatch) (t u tv tb : Tok) (n hn : Nat) (hm : (i, insObj ⟨xw, xk⟩ t u n) ∈ news) (v0 b0 : Int) (hs : List (Int × Int × Int)) (vs : List Value) (h3 : (ha, tupO vs hn) ∈ news) (h4 : DatAll news vs (hs.map hD)) (hlen : hs.length < 1000) :
    Con w 4 350 [.ref i, .int v0 tv, .int b0 tb, .ref ha] news (fun r news' => Grow news news' ∧ LNext news (lawF ⟨xw, xk⟩ ⟨v0, b0, hs⟩) r news') := by
  cases xw
  case ret => exact absurd rfl hx.1
  case unbind => exact absurd rfl hx.2.1
  case pophandler => exact absurd rfl hx.2.2.1
  case pushcatch => exact absurd rfl hx.2.2.2
  all_goals (dsimp only [insObj, Wd.str] at hm; walk_at "con start"; k_steps)
  all_goals walk_at "lnend"
-- C14
set_option maxRecDepth 100000
set_option maxHeartbeats 8000000
theorem reset14 : True := by
  w_top off
  trivial

theorem linesC14_0 : True := by
  k_with_none
  (k_with "m subscriptTail" => (k_here; (with_reducible show wpAny _ _ (subscriptTail _ _ (Value.ref 90) (Value.str (Wd.str _) _)) _ _ _); k_dflt (refine' rows_item ?F ?X ?_; (case F => k_asm); (case X => k_asm)); intro a t0 t1 t2 t3 t4 hrow; dsimp only))
  (k_with "m subscriptTail" => (k_here; (with_reducible show wpAny _ _ (subscriptTail _ _ (Value.ref _) (Value.int _ _)) _ _ _); k_dflt (refine' topTup_K ?F ?X ?l ?a ?b ?c ?d ?_; (case F => k_asm); (case X => k_asm); (case l => assumption); (case a => decide); (case b => decide); (case c => rfl); (case d => rfl); k_whole)))
  (k_with "m subscriptTail" => (k_here; (with_reducible show wpAny _ _ (subscriptTail _ _ (Value.ref _) (Value.int (-1) _)) _ _ _); k_dflt (refine' my_last ?N ?m ?z ?x ?_; (case N => k_asm); (case m => k_mem); (case z => first | exact my_sz | exact my_sz_push); (case x => first | exact my_at | exact my_at_push); k_whole)))
  (k_with "m subscriptTail Name UnaryOp ref int" => (k_here; (with_reducible show wpAny _ _ (subscriptTail _ _ (Value.ref _) (Value.int (-1) _)) _ _ _); k_dflt (refine' my_last ?N ?m ?z ?x ?_; (case N => k_asm); (case m => k_mem); (case z => first | exact my_sz | exact my_sz_push); (case x => first | exact my_at | exact my_at_push); k_whole)))
  (k_with "m ite" => (refine ite_neg (wd_plain _) ?_))
  (k_with "m mem" => (first | exact List.mem_cons_self | (refine List.mem_cons_of_mem _ ?_; walk_at "mem") | (refine List.mem_append_left _ ?_; walk_at "mem") | (refine List.mem_append_right _ ?_; walk_at "mem") | ktr_member | assumption))
  (k_with "m room" => (ktr_room))
  (k_with "m sub" => (first | exact fun _ h => h | (refine fun p hp => List.mem_cons_of_mem _ ((?_ : ∀ p, _ → _) p hp); walk_at "sub") | (refine fun p hp => List.mem_append_right _ ((?_ : ∀ p, _ → _) p hp); walk_at "sub") | (refine fun p hp => List.mem_append_left _ ((?_ : ∀ p, _ → _) p hp); walk_at "sub")))
  (k_with "m con start" => (intro dp un gd cn cs a ccd cl outer A₀ base h₀ L m s mean mg mb Q E B F X N T hk hdp hun hret; (refine wpAny_call ?_); k_dflt ktr_enter))
  (k_with "m nz" => (first | exact my_nz | exact my_nz_push))
  (k_with "m compareOp Eq ref ref" => (k_here; (with_reducible show wpAny _ _ (compareOp CmpOp.Eq (Value.ref _) (Value.ref _)) _ _ _); first | k_dflt (refine' my_eq_nil_t ?N ?a ?b ?u ?_; (case N => k_asm); (case a => k_mem); (case b => k_mem); (case u => ktr_units)) | k_dflt (refine' my_eq_nil_f ?N ?a ?b ?z ?u ?_; (case N => k_asm); (case a => k_mem); (case b => k_mem); (case z => walk_at "nz"); (case u => ktr_units))))
  (k_with "m compareOp NotEq ref ref" => (k_here; (with_reducible show wpAny _ _ (compareOp CmpOp.NotEq (Value.ref _) (Value.ref _)) _ _ _); first | k_dflt (refine' my_ne_nil_f ?N ?a ?b ?u ?_; (case N => k_asm); (case a => k_mem); (case b => k_mem); (case u => ktr_units)) | k_dflt (refine' my_ne_nil_t ?N ?a ?b ?z ?u ?_; (case N => k_asm); (case a => k_mem); (case b => k_mem); (case z => walk_at "nz"); (case u => ktr_units))))
  (k_with "m alllt" => (first | assumption | exact allLt_of (by assumption) | exact ⟨by assumption, AllLt.up (by assumption) (by walk_at "alllt")⟩))
  (k_with "m grow" => (first | exact Grow.refl _ | (refine Grow.cons ?_ ?_; (walk_at "grow"); (k_dflt walk_at "alllt")) | (refine Grow.app ?_ ?_; (walk_at "grow"); assumption) | assumption))
  (k_with "m grow2" => (first | exact Grow2.refl _ _ | (apply Grow2.cons; (walk_at "grow2"); (k_dflt walk_at "alllt")) | (apply Grow2.app; (walk_at "grow2"); assumption)))
  (k_with "m all" => first | exact List.forall_mem_nil _ | (refine List.forall_mem_cons.mpr ⟨?_, ?_⟩; (k_ne); (k_all)) | assumption | exact AllLt.ne (by walk_at "alltail"))
  (k_with "m alltail" => first | assumption | exact allLt_of (by assumption) | exact And.right (by assumption) | exact And.right (And.right (by assumption)) | exact And.right (And.right (And.right (by assumption))) | exact And.right (And.right (And.right (And.right (by assumption)))) | exact And.right (And.right (And.right (And.right (And.right (by assumption))))) | exact And.right (And.right (And.right (And.right (And.right (And.right (by assumption)))))) | exact And.right (And.right (And.right (And.right (And.right (And.right (And.right (by assumption))))))) | exact And.right (And.right (And.right (And.right (And.right (And.right (And.right (And.right (by assumption)))))))) | exact And.right (And.right (And.right (And.right (And.right (And.right (And.right (And.right (And.right (by assumption))))))))) | exact And.right (And.right (And.right (And.right (And.right (And.right (And.right (And.right (And.right (And.right (by assumption)))))))))) | exact And.right (And.right (And.right (And.right (And.right (And.right (And.right (And.right (And.right (And.right (And.right (by assumption))))))))))) | exact And.right (And.right (And.right (And.right (And.right (And.right (And.right (And.right (And.right (And.right (And.right (And.right (by assumption)))))))))))) | exact And.right (And.right (And.right (And.right (And.right (And.right (And.right (And.right (And.right (And.right (And.right (And.right (And.right (by assumption))))))))))))) | exact And.right (And.right (And.right (And.right (And.right (And.right (And.right (And.right (And.right (And.right (And.right (And.right (And.right (And.right (by assumption)))))))))))))) | exact And.right (And.right (And.right (And.right (And.right (And.right (And.right (And.right (And.right (And.right (And.right (And.right (And.right (And.right (And.right (by assumption))))))))))))))) | exact And.right (And.right (And.right (And.right (And.right (And.right (And.right (And.right (And.right (And.right (And.right (And.right (And.right (And.right (And.right (And.right (by assumption)))))))))))))))) | exact AllLt.up (by assumption) (by walk_at "alltail"))
  (k_with "m ite" => (k_closed; first | ((with_reducible refine' ite_neg ?itec ?_); (case itec => decide +kernel)) | ((with_reducible refine' ite_pos ?itec ?_); (case itec => decide +kernel))))
  (k_with "m eval Dict" => (k_here; (with_reducible show wpAny _ _ (eval (PySem.Expr.Dict (some (PySem.Expr.Constant _ _ _) :: _) _ _) _) _ _ _); k_dflt (refine' kdn_eval (knd := PySem.strKind _ _) ?F ?N ?b ?a ?l ?e ?n ?_; (case F => k_asm); (case N => first | k_asm | exact News.nil); (case b => exact Top.nolimit (by k_asm)); (case a => rfl); (case l => rfl); (case e => exact List.cons_ne_nil _ _); (case n => exact Nat.le_of_ble_eq_true rfl)); intro d' h' o' F' N' l1 lo' hd'; (try k_lt l1)))
  (k_with "m KdnMade" => (k_here; dsimp only; k_dflt (refine' kdn_made_strF ?F ?N ?U ?d ?k ?n ?v ?_; (case F => k_asm); (case N => k_asm); (case U => k_updF); (case d => k_asm); (case k => rfl); (case n => exact of_decide_eq_true (by first | rfl | kernel_rfl!)); (case v => rfl); intro h' o' F' N' hd' hf'); (try dsimp only at N')))
  (k_with "m compareOp NotEq ref ref" => (k_here; (with_reducible show wpAny _ _ (compareOp CmpOp.NotEq (Value.ref _) (Value.ref _)) _ _ _); first | k_dflt (refine' my_tn_cons ?tnN ?tna ?tnb ?tnu ?_; (case tnN => k_asm); (case tna => k_mem); (case tnb => k_mem); (case tnu => ktr_units)) | k_dflt (refine' my_tn_nil ?tnN ?tna ?tnb ?tnu ?_; (case tnN => k_asm); (case tna => k_mem); (case tnb => k_mem); (case tnu => ktr_units))))
  (k_with "m compareOp Eq ref ref" => (k_here; (with_reducible show wpAny _ _ (compareOp CmpOp.Eq (Value.ref _) (Value.ref _)) _ _ _); first | k_dflt (refine' my_te_cons ?tnN ?tna ?tnb ?tnu ?_; (case tnN => k_asm); (case tna => k_mem); (case tnb => k_mem); (case tnu => ktr_units)) | k_dflt (refine' my_te_nil ?tnN ?tna ?tnb ?tnu ?_; (case tnN => k_asm); (case tna => k_mem); (case tnb => k_mem); (case tnu => ktr_units))))
  (k_with "m subscriptTail Name UnaryOp ref int" => (k_here; (with_reducible show wpAny _ _ (subscriptTail _ _ (Value.ref _) (Value.int (-1) _)) _ _ _); k_dflt (refine' my_tlast ?tlN ?tlm ?tlf ?_; (case tlN => k_asm); (case tlm => k_mem); (case tlf => omega); k_whole)))
  (k_with "m subscriptTail" => (k_here; (with_reducible show wpAny _ _ (subscriptTail _ _ (Value.ref _) (Value.int (-1) _)) _ _ _); k_dflt (refine' my_tlast ?tlN ?tlm ?tlf ?_; (case tlN => k_asm); (case tlm => k_mem); (case tlf => omega); k_whole)))
  (k_with "m binaryOp Add ref ref" => (k_here; (with_reducible show wpAny _ _ (binaryOp Operator.Add (Value.ref _) (Value.ref _)) _ _ _); first | (k_dflt (refine' my_tadd_cons ?taF ?taN ?taa ?tab ?taz ?_; (case taF => k_asm); (case taN => k_asm); (case taa => k_mem); (case tab => k_mem); (case taz => omega)); intro D' h' F' N' l1; (try k_lt l1)) | k_dflt (refine' my_tadd_nil ?taF ?taN ?taa ?tab ?taz ?_; (case taF => k_asm); (case taN => k_asm); (case taa => k_mem); (case tab => k_mem); (case taz => (simp only [List.length_cons, List.length_nil]; omega)))))
  (k_with "m subscriptTail Name Slice ref ref" => (k_here; (with_reducible show wpAny _ _ (subscriptTail _ _ (Value.ref _) (Value.ref _)) _ _ _); k_dflt (refine' my_tslice ?tsF ?tsN ?tsm ?tsz ?_; (case tsF => k_asm); (case tsN => k_asm); (case tsm => k_mem); (case tsz => omega); k_whole); intro D' h' F' N' l1; (try k_lt l1)))
  (k_with "m dmono" => (refine' DatAll.mono ?ds ?dh; (case dh => assumption); (case ds => walk_at "sub")))
  (k_with "m datall" => first | exact DatAll.nil | walk_at "dmono" | (refine' DatAll.snocR ?dp ?dq; (case dq => exact hs_of (by k_mem)); (case dp => walk_at "datall")) | (refine' DatAll.cons ?dp ?dq; (case dp => exact hs_of (by k_mem)); (case dq => walk_at "datall")))
  (k_with "m qd" => exact .tuple (by k_mem) (.cons (.int _ _) (.cons (.tuple (by k_mem) (.cons (.int _ _) (.cons (.int _ _) (.cons (.tuple (by k_mem) (by walk_at "datall")) .nil)))) .nil)))
  (k_with "m lf" => first | exact lawF_none (by assumption) | exact lf_ret1 (by assumption) (by assumption) (by assumption) | exact lf_ret2 (by assumption) | exact lf_ret3 (by assumption) | exact lf_ret4 | exact lf_unb1 (by assumption) | exact lf_unb2 (by assumption) (by assumption) | exact lf_unb3 (by assumption) (by assumption) | exact lf_unb4 (by assumption) (by assumption) (by assumption) | exact lf_pop1 | exact lf_pop2 (by assumption) | exact lf_pop3 (by assumption) (by assumption) | exact (if_neg (by assumption)).trans rfl)
  (k_with "m dnew" => exact AllLt.ne (by walk_at "alltail"))
  (k_with "m lnend" => first | exact hret _ _ _ _ (by k_asm) (by k_asm) ⟨by walk_at "grow", .none (by walk_at "lf") rfl⟩ | exact hret _ _ _ _ (by k_asm) (by k_asm) ⟨by walk_at "grow", .one (by walk_at "lf") rfl (by k_mem) (by walk_at "dnew") (by walk_at "qd")⟩ | exact hret _ _ _ _ (by k_asm) (by k_asm) ⟨by walk_at "grow", .two (by walk_at "lf") rfl (by k_mem) (by walk_at "dnew") (by walk_at "qd") (by walk_at "qd")⟩ | exact hret _ _ _ _ (by k_asm) (by k_asm) ⟨by walk_at "grow", .stop (by walk_at "lf") rfl (by k_mem) (by walk_at "dnew") (by k_mem)⟩)
  trivial
theorem law_next_ret_n (w : World) (news : List (Addr × Obj)) (i ha : Addr) (xk : Int) (t u tv tb : Tok) (n hn : Nat) (hm : (i, insObj ⟨.ret, xk⟩ t u n) ∈ news) (v0 b0 : Int) (h3 : (ha, tupO [] hn) ∈ news) :
    Con w 12 350 [.ref i, .int v0 tv, .int b0 tb, .ref ha] news (fun r news' => Grow news news' ∧ LNext news (lawF ⟨.ret, xk⟩ ⟨v0, b0, []⟩) r news') := by
  have h5 : DatAll news [] (([] : List (Int × Int × Int)).map hD) := .nil
  dsimp only [insObj, Wd.str] at hm; walk_at "con start"; k_steps
  all_goals walk_at "lnend"
theorem law_next_ret_c (w : World) (news : List (Addr × Obj)) (i ha : Addr) (xk : Int) (t u tv tb : Tok) (n hn : Nat) (hm : (i, insObj ⟨.ret, xk⟩ t u n) ∈ news) (v0 b0 : Int) (us : List Value) (q : List (Int × Int × Int)) (g : Int × Int × Int) (ag : Addr) (tg1 tg2 tg3 : Tok) (ng : Nat) (h5 : DatAll news us (q.map hD)) (hmg : (ag, ({ cls := .type "tuple", data := .seq [.int g.1 tg1, .int g.2.1 tg2, .int g.2.2 tg3].toArray ng } : Obj)) ∈ news) (h3 : (ha, tupO (us ++ [.ref ag]) hn) ∈ news) (hl8 : us.length < 1000) :
    Con w 12 350 [.ref i, .int v0 tv, .int b0 tb, .ref ha] news (fun r news' => Grow news news' ∧ LNext news (lawF ⟨.ret, xk⟩ ⟨v0, b0, q ++ [g]⟩) r news') := by
  have h8 := DatAll.snocR h5 (hs_of hmg)
  dsimp only [insObj, Wd.str] at hm; walk_at "con start"; k_steps
  all_goals walk_at "lnend"
theorem law_next_unbind_n (w : World) (news : List (Addr × Obj)) (i ha : Addr) (xk : Int) (t u tv tb : Tok) (n hn : Nat) (hm : (i, insObj ⟨.unbind, xk⟩ t u n) ∈ news) (v0 b0 : Int) (h3 : (ha, tupO [] hn) ∈ news) :
    Con w 12 350 [.ref i, .int v0 tv, .int b0 tb, .ref ha] news (fun r news' => Grow news news' ∧ LNext news (lawF ⟨.unbind, xk⟩ ⟨v0, b0, []⟩) r news') := by
  have h5 : DatAll news [] (([] : List (Int × Int × Int)).map hD) := .nil
  dsimp only [insObj, Wd.str] at hm; walk_at "con start"; k_steps
  all_goals walk_at "lnend"
theorem law_next_unbind_c (w : World) (news : List (Addr × Obj)) (i ha : Addr) (xk : Int) (t u tv tb : Tok) (n hn : Nat) (hm : (i, insObj ⟨.unbind, xk⟩ t u n) ∈ news) (v0 b0 : Int) (us : List Value) (q : List (Int × Int × Int)) (g : Int × Int × Int) (ag : Addr) (tg1 tg2 tg3 : Tok) (ng : Nat) (h5 : DatAll news us (q.map hD)) (hmg : (ag, ({ cls := .type "tuple", data := .seq [.int g.1 tg1, .int g.2.1 tg2, .int g.2.2 tg3].toArray ng } : Obj)) ∈ news) (h3 : (ha, tupO (us ++ [.ref ag]) hn) ∈ news) (hl8 : us.length < 1000) :
    Con w 12 350 [.ref i, .int v0 tv, .int b0 tb, .ref ha] news (fun r news' => Grow news news' ∧ LNext news (lawF ⟨.unbind, xk⟩ ⟨v0, b0, q ++ [g]⟩) r news') := by
  have h8 := DatAll.snocR h5 (hs_of hmg)
  dsimp only [insObj, Wd.str] at hm; walk_at "con start"; k_steps
  all_goals walk_at "lnend"
theorem law_next_pophandler_n (w : World) (news : List (Addr × Obj)) (i ha : Addr) (xk : Int) (t u tv tb : Tok) (n hn : Nat) (hm : (i, insObj ⟨.pophandler, xk⟩ t u n) ∈ news) (v0 b0 : Int) (h3 : (ha, tupO [] hn) ∈ news) :
    Con w 12 350 [.ref i, .int v0 tv, .int b0 tb, .ref ha] news (fun r news' => Grow news news' ∧ LNext news (lawF ⟨.pophandler, xk⟩ ⟨v0, b0, []⟩) r news') := by
  have h5 : DatAll news [] (([] : List (Int × Int × Int)).map hD) := .nil
  dsimp only [insObj, Wd.str] at hm; walk_at "con start"; k_steps
  all_goals walk_at "lnend"
theorem law_next_pophandler_c (w : World) (news : List (Addr × Obj)) (i ha : Addr) (xk : Int) (t u tv tb : Tok) (n hn : Nat) (hm : (i, insObj ⟨.pophandler, xk⟩ t u n) ∈ news) (v0 b0 : Int) (us : List Value) (q : List (Int × Int × Int)) (g : Int × Int × Int) (ag : Addr) (tg1 tg2 tg3 : Tok) (ng : Nat) (h5 : DatAll news us (q.map hD)) (hmg : (ag, ({ cls := .type "tuple", data := .seq [.int g.1 tg1, .int g.2.1 tg2, .int g.2.2 tg3].toArray ng } : Obj)) ∈ news) (h3 : (ha, tupO (us ++ [.ref ag]) hn) ∈ news) (hl8 : us.length < 1000) :
    Con w 12 350 [.ref i, .int v0 tv, .int b0 tb, .ref ha] news (fun r news' => Grow news news' ∧ LNext news (lawF ⟨.pophandler, xk⟩ ⟨v0, b0, q ++ [g]⟩) r news') := by
  have h8 := DatAll.snocR h5 (hs_of hmg)
  dsimp only [insObj, Wd.str] at hm; walk_at "con start"; k_steps
  all_goals walk_at "lnend"
theorem law_next_pushcatch_n (w : World) (news : List (Addr × Obj)) (i ha : Addr) (xk : Int) (t u tv tb : Tok) (n hn : Nat) (hm : (i, insObj ⟨.pushcatch, xk⟩ t u n) ∈ news) (v0 b0 : Int) (h3 : (ha, tupO [] hn) ∈ news) :
    Con w 12 350 [.ref i, .int v0 tv, .int b0 tb, .ref ha] news (fun r news' => Grow news news' ∧ LNext news (lawF ⟨.pushcatch, xk⟩ ⟨v0, b0, []⟩) r news') := by
  have h5 : DatAll news [] (([] : List (Int × Int × Int)).map hD) := .nil
  dsimp only [insObj, Wd.str] at hm; walk_at "con start"; k_steps
  all_goals walk_at "lnend"
theorem law_next_pushcatch_c (w : World) (news : List (Addr × Obj)) (i ha : Addr) (xk : Int) (t u tv tb : Tok) (n hn : Nat) (hm : (i, insObj ⟨.pushcatch, xk⟩ t u n) ∈ news) (v0 b0 : Int) (us : List Value) (q : List (Int × Int × Int)) (g : Int × Int × Int) (ag : Addr) (tg1 tg2 tg3 : Tok) (ng : Nat) (h5 : DatAll news us (q.map hD)) (hmg : (ag, ({ cls := .type "tuple", data := .seq [.int g.1 tg1, .int g.2.1 tg2, .int g.2.2 tg3].toArray ng } : Obj)) ∈ news) (h3 : (ha, tupO (us ++ [.ref ag]) hn) ∈ news) (hl8 : us.length < 1000) :
    Con w 12 350 [.ref i, .int v0 tv, .int b0 tb, .ref ha] news (fun r news' => Grow news news' ∧ LNext news (lawF ⟨.pushcatch, xk⟩ ⟨v0, b0, q ++ [g]⟩) r news') := by
  have h8 := DatAll.snocR h5 (hs_of hmg)
  dsimp only [insObj, Wd.str] at hm; walk_at "con start"; k_steps
  all_goals walk_at "lnend"
theorem con_need {w : World} {a b : Nat} {f : Addr} {vs : List Value} {news : List (Addr × Obj)} {P : Value → List (Addr × Obj) → Prop} (C : Con w a f vs news P) (h : a ≤ b) : Con w b f vs news P :=
  fun _ _ _ _ _ _ _ _ _ _ _ _ _ _ _ _ _ _ _ _ B F X N T hk hd hu ret => C _ _ _ _ _ _ _ _ _ _ _ _ _ _ _ _ _ _ _ _ B F X N T hk (by omega) (by omega) ret
theorem law_next (w : World) (news : List (Addr × Obj)) (i ha : Addr) (x : Ins) (t u tv tb : Tok) (n hn : Nat) (hm : (i, insObj x t u n) ∈ news) (v0 b0 : Int) (hs : List (Int × Int × Int)) (vs : List Value) (h3 : (ha, tupO vs hn) ∈ news) (h4 : DatAll news vs (hs.map hD)) (hlen : hs.length < 1000) :
    Con w 12 350 [.ref i, .int v0 tv, .int b0 tb, .ref ha] news (fun r news' => Grow news news' ∧ LNext news (lawF x ⟨v0, b0, hs⟩) r news') := by
  obtain ⟨xw, xk⟩ := x
  by_cases hx : xw ≠ .ret ∧ xw ≠ .unbind ∧ xw ≠ .pophandler ∧ xw ≠ .pushcatch
  · exact con_need (law_next1 w news i ha xw xk hx t u tv tb n hn hm v0 b0 hs vs h3 h4 hlen) (by decide)
  have hl9 : vs.length < 1000 := by have e := h4.length; simp only [List.length_map] at e; omega
  clear hlen
  revert h3 hl9
  refine hs_cases h4 (P := fun vs hs => (ha, tupO vs hn) ∈ news → vs.length < 1000 → Con w 12 350 [.ref i, .int v0 tv, .int b0 tb, .ref ha] news (fun r news' => Grow news news' ∧ LNext news (lawF ⟨xw, xk⟩ ⟨v0, b0, hs⟩) r news')) ?_ ?_
  · intro _ h3 _
    cases xw <;> first
      | exact law_next_ret_n w news i ha xk t u tv tb n hn hm v0 b0 h3
      | exact law_next_unbind_n w news i ha xk t u tv tb n hn hm v0 b0 h3
      | exact law_next_pophandler_n w news i ha xk t u tv tb n hn hm v0 b0 h3
      | exact law_next_pushcatch_n w news i ha xk t u tv tb n hn hm v0 b0 h3
      | exact absurd ⟨by decide, by decide, by decide, by decide⟩ hx
  · intro us q g ag tg1 tg2 tg3 ng h5 hmg _ h3 hl
    have hl8 : us.length < 1000 := by simp only [List.length_append, List.length_cons, List.length_nil] at hl; omega
    cases xw <;> first
      | exact law_next_ret_c w news i ha xk t u tv tb n hn hm v0 b0 us q g ag tg1 tg2 tg3 ng h5 hmg h3 hl8
      | exact law_next_unbind_c w news i ha xk t u tv tb n hn hm v0 b0 us q g ag tg1 tg2 tg3 ng h5 hmg h3 hl8
      | exact law_next_pophandler_c w news i ha xk t u tv tb n hn hm v0 b0 us q g ag tg1 tg2 tg3 ng h5 hmg h3 hl8
      | exact law_next_pushcatch_c w news i ha xk t u tv tb n hn hm v0 b0 us q g ag tg1 tg2 tg3 ng h5 hmg h3 hl8
      | exact absurd ⟨by decide, by decide, by decide, by decide⟩ hx
-- P6
theorem lawF_none' {x : Ins} {st : St} (h : st.v < x.need) : lawF x st = none := by simp [lawF, h]
/-- the law own walk -/
def fixQ (p : Int) (q : Int × St) : Int × St := (if q.1 = -1 then p + 1 else q.1, q.2)
noncomputable def runL (code : List Ins) (d : Int) : Nat → List (Option St) → List (Int × St) → Bool
  | 0, _, _ => true
  | n + 1, known, ws => match ws.getLast? with
    | none => true
    | some (p, st) =>
      if (known.length : Int) ≤ p then false
      else match known[p.toNat]? with
        | some (some st') => open Classical in if st' = st then runL code d n known ws.dropLast else false
        | _ => match code[p.toNat]? with
          | none => false
          | some x => match lawF x st with
            | none => false
            | some found => open Classical in if (∃ q ∈ found, d < q.2.v) then false else runL code d n (known.set p.toNat (some st)) (ws.dropLast ++ found.map (fixQ p))
section
variable {xs : List Ins} {d : Int} {n : Nat} {known : List (Option St)} {q : List (Int × St)} {p : Int} {st st' : St}
theorem runL_nil : runL xs d n known [] = true := by cases n <;> rfl
theorem runL_end (h : (known.length : Int) ≤ p) : runL xs d (n + 1) known (q ++ [(p, st)]) = false := by
  rw [runL]; simp [h]
theorem runL_eq (h : ¬ (known.length : Int) ≤ p) (hk : known[p.toNat]? = some (some st)) : runL xs d (n + 1) known (q ++ [(p, st)]) = runL xs d n known q := by
  rw [runL]; simp [h, hk]
theorem runL_ne (h : ¬ (known.length : Int) ≤ p) (hk : known[p.toNat]? = some (some st')) (hn : ¬ st' = st) : runL xs d (n + 1) known (q ++ [(p, st)]) = false := by
  rw [runL]; simp [h, hk, hn]
theorem runL_stack {x : Ins} (h : ¬ (known.length : Int) ≤ p) (hk : known[p.toNat]? = some none) (hx : xs[p.toNat]? = some x) (hw : lawF x st = none) : runL xs d (n + 1) known (q ++ [(p, st)]) = false := by
  rw [runL]; simp [h, hk, hx, hw]
theorem runL_deep {x : Ins} {fd : List (Int × St)} (h : ¬ (known.length : Int) ≤ p) (hk : known[p.toNat]? = some none) (hx : xs[p.toNat]? = some x) (hw : lawF x st = some fd) (hd : ∃ q ∈ fd, d < q.2.v) : runL xs d (n + 1) known (q ++ [(p, st)]) = false := by
  rw [runL]
  simp only [List.getLast?_append, List.getLast?_singleton, Option.some_or, h, hk, hx, hw, if_false, if_pos hd]
theorem runL_new {x : Ins} {fd : List (Int × St)} (h : ¬ (known.length : Int) ≤ p) (hk : known[p.toNat]? = some none) (hx : xs[p.toNat]? = some x) (hw : lawF x st = some fd) (hd : ¬ ∃ q ∈ fd, d < q.2.v) : runL xs d (n + 1) known (q ++ [(p, st)]) = runL xs d n (known.set p.toNat (some st)) (q ++ fd.map (fixQ p)) := by
  rw [runL]
  simp only [List.getLast?_append, List.getLast?_singleton, Option.some_or, h, hk, hx, hw, if_false, if_neg hd, List.dropLast_concat]
end

/-- what holds of each standing: the handlers' bindings rise, the last one's at most those that stand -/
structure Sane (st : St) : Prop where
  b0 : 0 ≤ st.b
  le : ∀ g ∈ st.hs, g.2.1 ≤ st.b
  up : st.hs.Pairwise fun a b => a.2.1 ≤ b.2.1
theorem getLast_mem {α : Type} {l : List α} {a : α} (h : l.getLast? = some a) : a ∈ l := by
  obtain ⟨q, rfl⟩ := List.getLast?_eq_some_iff.mp h
  simp
theorem Sane.last_le {st : St} (h : Sane st) {g : Int × Int × Int} (hg : st.hs.getLast? = some g) : g.2.1 ≤ st.b := h.le g (getLast_mem hg)
theorem Sane.drop {st : St} (h : Sane st) : (∀ g ∈ st.hs.dropLast, g.2.1 ≤ st.b) ∧ st.hs.dropLast.Pairwise fun a b => a.2.1 ≤ b.2.1 :=
  ⟨fun g hg => h.le g ((List.dropLast_sublist _).mem hg), h.up.sublist (List.dropLast_sublist _)⟩
theorem Sane.push {st : St} (h : Sane st) (v k : Int) : Sane ⟨v, st.b, st.hs ++ [(v, st.b, k)]⟩ := by
  refine ⟨h.b0, fun g hg => ?_, ?_⟩
  · rcases List.mem_append.mp hg with hg | hg
    · exact h.le g hg
    · rw [List.mem_singleton.mp hg]; exact Int.le_refl _
  · refine List.pairwise_append.mpr ⟨h.up, List.pairwise_singleton _ _, fun a ha b hb => ?_⟩
    rw [List.mem_singleton.mp hb]; exact h.le a ha
theorem Sane.unbind {st : St} (h : Sane st) {b' : Int} (v : Int) (h0 : 0 ≤ b') (hg : ∀ g, st.hs.getLast? = some g → g.2.1 ≤ b') : Sane ⟨v, b', st.hs⟩ := by
  refine ⟨h0, fun g hm => ?_, h.up⟩
  rcases List.eq_nil_or_concat st.hs with e | ⟨q, z, e⟩
  · rw [e] at hm; cases hm
  · rw [List.concat_eq_append] at e
    have hz : z.2.1 ≤ b' := hg z (by rw [e]; simp)
    have hu := h.up
    rw [e] at hm hu
    rcases List.mem_append.mp hm with hm | hm
    · exact Int.le_trans ((List.pairwise_append.mp hu).2.2 g hm z (by simp)) hz
    · rw [List.mem_singleton.mp hm]; exact hz
theorem Sane.more {st : St} (h : Sane st) {b' : Int} (v : Int) (hb : st.b ≤ b') : Sane ⟨v, b', st.hs⟩ :=
  ⟨Int.le_trans h.b0 hb, fun g hg => Int.le_trans (h.le g hg) hb, h.up⟩
theorem afterF_plain {x : Ins} {st : St} (hs : Sane st) (h0 : x.hands = 0) (h1 : 0 ≤ x.binds) : afterF x st = if st.v < x.need then none else some ⟨st.v - x.pop + x.push, st.b + x.binds, st.hs⟩ := by
  have hb := hs.b0
  unfold afterF
  simp only [h0, Int.lt_irrefl, if_false, gt_iff_lt]
  have e : (st.v < x.need ∨ st.b + x.binds < 0) ↔ st.v < x.need := by omega
  simp only [e]
  split
  · rfl
  · cases hg : st.hs.getLast? with
    | none => rfl
    | some g =>
      have := hs.last_le hg
      simp only
      rw [if_neg (by omega)]
theorem step_eq {x : Ins} {m p : Int} {st : St} (ho : x.ok m) (hs : Sane st) : waysF x p st = (lawF x st).map (·.map (fixQ p)) := by
  obtain ⟨xw, k⟩ := x
  have hk1 : k ≥ 0 → (k = -1) = False := fun h => by simp; omega
  by_cases hv : st.v < Ins.need ⟨xw, k⟩
  · have e : afterF ⟨xw, k⟩ st = none := by unfold afterF; simp [hv]
    rw [lawF_none' hv, waysF, e]; rfl
  have hb := hs.b0
  cases xw
  case unbind =>
    have hn : ¬ st.v < 0 := hv
    unfold waysF afterF lawF
    simp only [hv, false_or, Ins.binds, Ins.hands, Ins.pop, Ins.push, Wd.pop, Wd.push, Wd.binds, Wd.hands, if_true, if_false, reduceCtorEq, gt_iff_lt, Int.lt_irrefl]
    by_cases h1 : st.b < k
    · rw [if_pos (by omega), if_pos h1]; rfl
    · rw [if_neg (by omega), if_neg h1]
      have e1 : st.b + (0 - k) = st.b - k := by omega
      have e2 : st.v - 0 + 0 = st.v := by omega
      cases hg : st.hs.getLast? with
      | none => simp only [e1, e2]; rfl
      | some g =>
        simp only [e1]
        by_cases h2 : st.b - k < g.2.1
        · rw [if_pos h2, if_pos h2]; rfl
        · rw [if_neg h2, if_neg h2, e2]; rfl
  case pophandler =>
    unfold waysF afterF lawF
    have e2 : st.v - 0 + 0 = st.v := by omega
    have e1 : ¬ st.b + 0 < 0 := by omega
    simp only [hv, e1, false_or, Ins.binds, Ins.hands, Ins.pop, Ins.push, Wd.pop, Wd.push, Wd.binds, Wd.hands, if_true, if_false, reduceCtorEq, gt_iff_lt, show ¬ (0 : Int) < -1 by decide, show (-1 : Int) < 0 by decide]
    cases hg : st.hs.getLast? with
    | none => rfl
    | some g =>
      simp only
      by_cases h1 : g.2.1 = st.b
      · rw [if_neg (by simp [h1]), if_pos h1]
        cases hg2 : st.hs.dropLast.getLast? with
        | none => simp [hg2, e2, fixQ]
        | some g2 =>
          have := hs.drop.1 g2 (getLast_mem hg2)
          simp only [hg2]
          rw [if_neg (by omega)]
          simp [e2, fixQ]
      · rw [if_pos (by simpa using h1), if_neg h1]; rfl
  case pushcatch =>
    have hk : 0 ≤ k := ho.1
    unfold waysF afterF lawF
    have e1 : ¬ st.b + 0 < 0 := by omega
    simp only [hv, e1, false_or, Ins.binds, Ins.hands, Ins.pop, Ins.push, Wd.pop, Wd.push, Wd.binds, Wd.hands, if_true, if_false, reduceCtorEq, gt_iff_lt, show (0 : Int) < 1 by decide, show ¬ (1 : Int) < 0 by decide, List.getLast?_append, List.getLast?_singleton, Option.some_or]
    rw [if_neg (by omega)]
    have e2 : st.v - 1 + 0 + 1 = st.v := by omega
    have e3 : st.v - 1 + 0 = st.v - 1 := by omega
    simp [fixQ, e2, e3, hk1 hk]
  case ret =>
    unfold waysF
    rw [afterF_plain hs rfl (by simp [Ins.binds, Wd.binds]), if_neg hv]
    unfold lawF
    simp only [if_neg hv]
    have e : ((⟨st.v - Ins.pop ⟨.ret, k⟩ + Ins.push ⟨.ret, k⟩, st.b + Ins.binds ⟨.ret, k⟩, st.hs⟩ : St) = ⟨0, 0, []⟩) ↔ (st.v = 1 ∧ st.b = 0 ∧ st.hs = []) := by
      simp only [St.mk.injEq, Ins.pop, Ins.push, Ins.binds, Wd.pop, Wd.push, Wd.binds, reduceCtorEq, if_false]
      constructor
      · rintro ⟨a, b, c⟩; exact ⟨by omega, by omega, c⟩
      · rintro ⟨a, b, c⟩; exact ⟨by omega, by omega, c⟩
    simp only [e]
    split <;> rfl
  all_goals (first
    | (have hk : 0 ≤ k := ho.1
       unfold waysF
       rw [afterF_plain hs rfl (by simp [Ins.binds, Wd.binds]), if_neg hv]
       unfold lawF
       simp only [if_neg hv, Ins.pop, Ins.push, Ins.binds, Wd.pop, Wd.push, Wd.binds, reduceCtorEq, if_true, if_false, Option.map, List.map, fixQ, hk1 hk]
       simp <;> omega)
    | (unfold waysF
       rw [afterF_plain hs rfl (by simp [Ins.binds, Wd.binds]), if_neg hv]
       unfold lawF
       simp only [if_neg hv, Ins.pop, Ins.push, Ins.binds, Wd.pop, Wd.push, Wd.binds, reduceCtorEq, if_true, if_false, Option.map, List.map, fixQ]
       simp <;> omega))
theorem lawF_sane {x : Ins} {m : Int} {st : St} {fd : List (Int × St)} (ho : x.ok m) (hs : Sane st) (h : lawF x st = some fd) : ∀ q ∈ fd, Sane q.2 := by
  obtain ⟨xw, k⟩ := x
  have hv : ¬ st.v < Ins.need ⟨xw, k⟩ := fun hv => by rw [lawF_none' hv] at h; cases h
  have hsame : ∀ v, Sane ⟨v, st.b, st.hs⟩ := fun v => hs.more v (Int.le_refl _)
  have hsame0 : ∀ v, Sane ⟨v, st.b + 0, st.hs⟩ := fun v => hs.more v (by omega)
  unfold lawF at h
  rw [if_neg hv] at h
  cases xw <;> simp only at h
  case ret => split at h <;> cases h; simp
  case unbind =>
    have hk : 0 ≤ k := ho.1
    split at h
    · cases h
    · split at h
      · rename_i hg
        cases h
        simp only [List.mem_singleton, forall_eq]
        exact hs.unbind _ (by omega) (fun g e => by rw [hg] at e; cases e)
      · rename_i g hg
        split at h
        · cases h
        · cases h
          simp only [List.mem_singleton, forall_eq]
          exact hs.unbind _ (by omega) (fun g' e => by rw [hg] at e; cases e; omega)
  case pophandler =>
    split at h
    · cases h
    · split at h
      · cases h
        simp only [List.mem_singleton, forall_eq]
        exact ⟨hs.b0, hs.drop.1, hs.drop.2⟩
      · cases h
  case pushcatch =>
    cases h
    simp only [List.mem_cons, List.not_mem_nil, or_false, forall_eq_or_imp, forall_eq]
    exact ⟨hs.push _ _, hsame _⟩
  case varbind =>
    cases h
    simp only [List.mem_singleton, forall_eq]
    exact hs.more _ (by omega)
  all_goals (cases h; simp only [List.mem_cons, List.not_mem_nil, or_false, forall_eq_or_imp, forall_eq]; first | exact hsame _ | exact hsame0 _ | exact ⟨hsame _, hsame _⟩)
theorem afterF_v {x : Ins} {st l : St} (h : afterF x st = some l) : l.v = st.v - x.pop + x.push := by
  unfold afterF at h
  simp only at h
  split at h
  · cases h
  · split at h
    · cases h
    · split at h
      · cases h; rfl
      · split at h
        · cases h
        · cases h; rfl
theorem ok_place {x : Ins} {m : Int} (ho : x.ok m) (hs : x.w.sort = Str.ofString "place") : 0 ≤ x.k := by
  obtain ⟨w, k⟩ := x
  cases w <;> first | exact ho.1 | exact absurd hs (by simp only [Wd.sort]; decide +kernel)
/-- the depth that a place shows is what its standing and its later ones show -/
theorem deep_iff {x : Ins} {p d : Int} {st : St} {fd : List (Int × St)} (h0 : 0 ≤ d) (hv : st.v ≤ d) (h : waysF x p st = some fd) : lateV (afterF x st) ≤ d ↔ ∀ q ∈ fd, q.2.v ≤ d := by
  obtain ⟨xw, k⟩ := x
  unfold waysF at h
  cases ha : afterF ⟨xw, k⟩ st with
  | none => rw [ha] at h; cases h
  | some l =>
    rw [ha] at h
    have hlv := afterF_v ha
    simp only [lateV]
    cases xw <;> simp only at h <;> simp only [Ins.pop, Ins.push, Wd.pop, Wd.push, reduceCtorEq, if_false, if_true] at hlv
    case ret =>
      split at h
      · cases h; simp; omega
      · cases h
    all_goals (cases h; simp only [List.mem_cons, List.not_mem_nil, or_false, forall_eq_or_imp, forall_eq] <;> omega)
/-- all known standings and what comes of them lie within the depth told -/
def Within (xs : List Ins) (d : Int) (known : List (Option St)) : Prop := ∀ (i : Nat) (st : St) (x : Ins), known[i]? = some (some st) → xs[i]? = some x → st.v ≤ d ∧ lateV (afterF x st) ≤ d
theorem depth_iff {xs : List Ins} {d : Int} {known : List (Option St)} : ∀ k, (depthTo xs known k ≤ d ↔ 0 ≤ d ∧ ∀ i st x, i < k → known[i]? = some (some st) → xs[i]? = some x → st.v ≤ d ∧ lateV (afterF x st) ≤ d)
  | 0 => by simp [depthTo]
  | k + 1 => by
    have ih := depth_iff (xs := xs) (d := d) (known := known) k
    rw [depthTo]
    split
    · rename_i st x hk hx
      constructor
      · intro h
        obtain ⟨a, b⟩ := ih.mp (by omega)
        refine ⟨a, fun i st' x' hi h1 h2 => ?_⟩
        by_cases e : i = k
        · subst e
          rw [hk] at h1; rw [hx] at h2
          cases h1; cases h2
          omega
        · exact b i st' x' (by omega) h1 h2
      · rintro ⟨a, b⟩
        have := ih.mpr ⟨a, fun i st' x' hi => b i st' x' (by omega)⟩
        have := b k st x (by omega) hk hx
        omega
    · rename_i hno
      rw [ih]
      constructor
      · rintro ⟨a, b⟩
        refine ⟨a, fun i st' x' hi h1 h2 => ?_⟩
        by_cases e : i = k
        · subst e
          exact absurd h2 (hno _ _ h1)
        · exact b i st' x' (by omega) h1 h2
      · rintro ⟨a, b⟩
        exact ⟨a, fun i st' x' hi => b i st' x' (by omega)⟩
theorem known_set {known : List (Option St)} {i j : Nat} {st st' : St} (hk : known[i]? = some none) (h : known[j]? = some (some st')) : (known.set i (some st))[j]? = some (some st') := by
  have : i ≠ j := by rintro rfl; rw [hk] at h; cases h
  rw [List.getElem?_set_ne this]; exact h
theorem runS_keeps {xs : List Ins} : ∀ (n : Nat) (known : List (Option St)) (ws : List (Int × St)) (i : Nat) (st : St), known[i]? = some (some st) → (runS xs n known ws).1[i]? = some (some st) := by
  intro n
  induction n with
  | zero => intro known ws i st h; exact h
  | succ n ih =>
    intro known ws i st h
    rw [runS]
    split
    · exact h
    · rename_i p s0 _
      split
      · exact h
      · split
        · split
          · exact ih _ _ _ _ h
          · exact h
        · rename_i hno
          have hset : (known.set p.toNat (some s0))[i]? = some (some st) := by
            by_cases e : p.toNat = i
            · subst e; exact absurd h (fun h => hno _ h)
            · rw [List.getElem?_set_ne e]; exact h
          split
          · exact h
          · split
            · exact hset
            · exact ih _ _ _ _ hset
theorem lockstep {xs : List Ins} {d : Int} (h0 : 0 ≤ d) (hox : ∀ x ∈ xs, x.ok xs.length) : ∀ (n : Nat) (known : List (Option St)) (ws : List (Int × St)), known.length = xs.length → Within xs d known → (∀ q ∈ ws, 0 ≤ q.1 ∧ Sane q.2 ∧ q.2.v ≤ d) →
    (runL xs d n known ws = true ↔ (runS xs n known ws).2 = true ∧ Within xs d (runS xs n known ws).1) := by
  intro n
  induction n with
  | zero => intro known ws _ hw _; exact ⟨fun _ => ⟨rfl, hw⟩, fun _ => rfl⟩
  | succ n ih =>
    intro known ws hlen hw hq
    rcases List.eq_nil_or_concat ws with rfl | ⟨q, ⟨p, st⟩, rfl⟩
    · rw [runL_nil, runS_nil]
      exact ⟨fun _ => ⟨rfl, hw⟩, fun _ => rfl⟩
    rw [List.concat_eq_append] at hq ⊢
    obtain ⟨hp, hsn, hv⟩ := hq (p, st) (by simp)
    dsimp only at hp hsn hv
    have hq' : ∀ r ∈ q, 0 ≤ r.1 ∧ Sane r.2 ∧ r.2.v ≤ d := fun r hr => hq r (by simp [hr])
    have no : ∀ (a : Bool × List (Option St)), a.1 = false → (false = true ↔ a.1 = true ∧ Within xs d a.2) := fun a h => by rw [h]; simp
    by_cases hl : (known.length : Int) ≤ p
    · rw [runL_end hl, runS_end hl]; simp
    have hi : p.toNat < known.length := by omega
    have hko : known[p.toNat]? = some known[p.toNat] := List.getElem?_eq_getElem hi
    cases hk : known[p.toNat] with
    | some st' =>
      rw [hk] at hko
      by_cases he : st' = st
      · subst he
        rw [runL_eq hl hko, runS_eq hl hko]
        exact ih known q hlen hw hq'
      · rw [runL_ne hl hko he, runS_ne hl hko he]; simp
    | none =>
      rw [hk] at hko
      have hx : p.toNat < xs.length := by omega
      have hxe : xs[p.toNat]? = some xs[p.toNat] := List.getElem?_eq_getElem hx
      have ho := hox _ (List.getElem_mem hx)
      have hst := step_eq (p := p) ho hsn
      cases hlf : lawF xs[p.toNat] st with
      | none =>
        rw [hlf] at hst
        rw [runL_stack hl hko hxe hlf, runS_stack hl hko hxe hst]; simp
      | some fd =>
        rw [hlf] at hst
        have hst' : waysF xs[p.toNat] p st = some (fd.map (fixQ p)) := hst
        have hd := deep_iff h0 hv hst'
        have hdm : (∀ q ∈ fd.map (fixQ p), q.2.v ≤ d) ↔ ¬ ∃ q ∈ fd, d < q.2.v := by
          constructor
          · rintro h ⟨q, hq, hqd⟩
            have := h _ (List.mem_map_of_mem (f := fixQ p) hq)
            simp only [fixQ] at this
            omega
          · intro h r hr
            obtain ⟨q, hq, rfl⟩ := List.mem_map.mp hr
            simp only [fixQ]
            exact Int.not_lt.mp fun e => h ⟨q, hq, e⟩
        rw [hdm] at hd
        rw [runS_new hl hko hxe hst']
        by_cases hdd : ∃ q ∈ fd, d < q.2.v
        · rw [runL_deep hl hko hxe hlf hdd]
          constructor
          · intro e; cases e
          · rintro ⟨_, hW⟩
            have hset : (known.set p.toNat (some st))[p.toNat]? = some (some st) := by simp [hi]
            exact absurd hdd (hd.mp (hW p.toNat st _ (runS_keeps n _ _ _ _ hset) hxe).2)
        · rw [runL_new hl hko hxe hlf hdd]
          have hpl := (waysF_props (m := 0) hst' hp (ok_place ho)).2
          refine ih _ _ (by simpa using hlen) ?_ ?_
          · intro i s' x' h1 h2
            by_cases e : p.toNat = i
            · subst e
              have hset : (known.set p.toNat (some st))[p.toNat]? = some (some st) := by simp [hi]
              rw [hset] at h1
              rw [hxe] at h2
              cases h1; cases h2
              exact ⟨hv, hd.mpr hdd⟩
            · rw [List.getElem?_set_ne e] at h1
              exact hw i s' x' h1 h2
          · intro r hr
            rcases List.mem_append.mp hr with hr | hr
            · exact hq' r hr
            · refine ⟨(hpl r hr).1, ?_, hdm.mpr hdd r hr⟩
              obtain ⟨q0, hq0, rfl⟩ := List.mem_map.mp hr
              exact lawF_sane ho hsn hlf q0 hq0
/-- the plain law: code_error finds nothing just if the law finds the function good -/
theorem plain_law {xs : List Ins} {d : Int} (h0 : 0 ≤ d) (hox : ∀ x ∈ xs, x.ok xs.length) :
    goodS xs d ↔ (∀ x ∈ xs, ¬ x.bad xs.length) ∧ runL xs d (fuelS xs) (List.replicate xs.length none) [(0, ⟨0, 0, []⟩)] = true := by
  have hw0 : Within xs d (List.replicate xs.length none) := fun i st x h _ => by
    have := List.mem_of_getElem? h
    cases List.eq_of_mem_replicate this
  have key := lockstep h0 hox (fuelS xs) (List.replicate xs.length none) [(0, ⟨0, 0, []⟩)] (by simp) hw0 (fun q hq => by
    rw [List.mem_singleton.mp hq]
    exact ⟨Int.le_refl _, ⟨Int.le_refl _, (fun _ h => nomatch h), List.Pairwise.nil⟩, h0⟩)
  rw [key]
  unfold goodS
  refine and_congr_right fun _ => and_congr_right fun _ => ?_
  rw [depth_iff]
  constructor
  · rintro ⟨_, h⟩ i st x h1 h2
    exact h i st x (List.getElem?_eq_some_iff.mp h2).1 h1 h2
  · intro h
    exact ⟨h0, fun i st x _ h1 h2 => h i st x h1 h2⟩
-- P7
set_option maxRecDepth 100000
set_option maxHeartbeats 8000000
theorem valueAt_snoc {kvs : List (Int × Value)} {k j : Int} {v : Value} : valueAt (kvs ++ [(k, v)]) j = (valueAt kvs j).or (if k = j then some v else none) := by
  unfold valueAt
  rw [List.find?_append]
  cases kvs.find? fun kv => kv.1 = j with
  | some x => rfl
  | none =>
    simp only [Option.none_or, List.find?_cons, List.find?_nil, Option.map_none]
    by_cases h : k = j <;> simp [h]
section
variable {prog : Program} {w : World} {A : Around} {E : Value → Shared → Prop} {s : Shared} {h₀ : Heap} {L d : Addr} {m : Str → Option Value} {news : List (Addr × Obj)} {g : Obj → List (Addr × Obj)} {o : Obj} {kvs : List (Int × Value)} {k : Int} {t : Tok} {v dflt : Value}
theorem my_get_some {Q : Value → Shared → Prop} (N : News h₀ L s.heap news) (hp : (d, o) ∈ news) (hd : o.IsDictOf (PySem.intKind prog w) kvs) (lo : (d == sysModules) = false) (hl : valueAt kvs k = some v) (h : Q v { s with toks := s.toks + 1 }) :
    wpAny (model prog w) A (call (.builtin "dict.get") [.ref d, .int k t, dflt]) Q E s := kdg_get2 N hp hd lo (intKind_is _ _ _ _) _ hl h
theorem my_get_none {Q : Value → Shared → Prop} (N : News h₀ L s.heap news) (hp : (d, o) ∈ news) (hd : o.IsDictOf (PySem.intKind prog w) kvs) (lo : (d == sysModules) = false) (hl : valueAt kvs k = none) (h : Q dflt { s with toks := s.toks + 1 }) :
    wpAny (model prog w) A (call (.builtin "dict.get") [.ref d, .int k t, dflt]) Q E s := kdg_get2 N hp hd lo (intKind_is _ _ _ _) _ hl h
theorem my_notin_some {Q : Value → Shared → Prop} (N : News h₀ L s.heap news) (hp : (d, o) ∈ news) (hd : o.IsDictOf (PySem.intKind prog w) kvs) (lo : (d == sysModules) = false) (hl : valueAt kvs k = some v) (h : Q (.bool false) { s with toks := s.toks + 1 }) :
    wpAny (model prog w) A (compareOp .NotIn (.int k t) (.ref d)) Q E s := kdg_notin N hp hd lo (intKind_is _ _ _ _) true (by rw [hl]; rfl) h
theorem my_notin_none {Q : Value → Shared → Prop} (N : News h₀ L s.heap news) (hp : (d, o) ∈ news) (hd : o.IsDictOf (PySem.intKind prog w) kvs) (lo : (d == sysModules) = false) (hl : valueAt kvs k = none) (h : Q (.bool true) { s with toks := s.toks + 1 }) :
    wpAny (model prog w) A (compareOp .NotIn (.int k t) (.ref d)) Q E s := kdg_notin N hp hd lo (intKind_is _ _ _ _) false (by rw [hl]; rfl) h
theorem my_put {Q : Unit → Shared → Prop} (F : Fr h₀ L s.heap m) (N : News h₀ L s.heap news) (U : UpdF d o news g) (hd : o.IsDictOf (PySem.intKind prog w) kvs) (hl : valueAt kvs k = none) (hsz : kvs.length ≤ 5000)
    (h : ∀ h' o', Fr h₀ L h' m → News h₀ L h' (g o') → o'.IsDictOf (PySem.intKind prog w) (kvs ++ [(k, v)]) → Q () { s with heap := h', toks := s.toks + 1 }) : wpAny (model prog w) A (setItem (.ref d) (.int k t) v) Q E s := by
  refine kda_set F N U hd (intKind_is _ _ _ _) (by have : sizeLine = 16777216 := rfl; omega) fun h' o' F' N' hd' => h h' o' F' N' ?_
  rw [stored_absent hl] at hd'
  exact hd'
theorem my_append {us : List Value} {n : Nat} {news' : List (Addr × Obj)} {D : Addr} {Q : Value → Shared → Prop} (F : Fr h₀ L s.heap m) (N : News h₀ L s.heap news) (U : Upd D (listOf us.toArray n) (listOf (us ++ [v]).toArray (n + 1)) news news') (hz : us.length ≤ 5000)
    (h : ∀ h', Fr h₀ L h' m → News h₀ L h' news' → Q .none { s with heap := h' }) : wpAny (model prog w) A (call (.builtin "list.append") [.ref D, v]) Q E s := by
  have e : us.toArray.push v = (us ++ [v]).toArray := by simp
  refine append_K F N (e ▸ U) h ?_
  have : sizeLine = 16777216 := rfl
  simp only [List.size_toArray]
  omega
theorem my_same {a b : Value} {D : Dat} {Q : Value → Shared → Prop} (N : News h₀ L s.heap news) (Da : DatIn news a D) (Db : DatIn news b D) (hk : kqdOk 8 D = true) (hu : A.units + 64 < cLine) (h : Q (.bool false) s) :
    wpAny (model prog w) A (compareOp .NotEq a b) Q E s :=
  my_dat_ne N Da Db hk hk hu (by simpa using h)
end
/-- the parts of a standing's tuple -/
theorem sD_open {l : List (Addr × Obj)} {v : Value} {st : St} (h : DatIn l v (sD st)) : ∃ S t1 t2 H m hvs hn, v = .ref S ∧ (S, ({ cls := .type "tuple", data := .seq [.int st.v t1, .int st.b t2, .ref H].toArray m } : Obj)) ∈ l ∧ (H, tupO hvs hn) ∈ l ∧ DatAll l hvs (st.hs.map hD) := by
  cases h with
  | tuple hm ha =>
    cases ha with | cons k1 ha => cases ha with | cons k2 ha => cases ha with | cons k3 ha =>
    cases ha; cases k1; cases k2
    cases k3 with
    | tuple hm3 ha3 => exact ⟨_, _, _, _, _, _, _, rfl, hm, hm3, ha3⟩
theorem qD_open {l : List (Addr × Obj)} {v : Value} {q : Int × St} (h : DatIn l v (qD q)) : ∃ T t sv m, v = .ref T ∧ (T, ({ cls := .type "tuple", data := .seq [.int q.1 t, sv].toArray m } : Obj)) ∈ l ∧ DatIn l sv (sD q.2) := by
  cases h with
  | tuple hm ha =>
    cases ha with | cons k1 ha => cases ha with | cons k2 ha =>
    cases ha; cases k1
    exact ⟨_, _, _, _, rfl, hm, k2⟩
theorem qD_mk {l : List (Addr × Obj)} {T : Addr} {t : Tok} {sv : Value} {m : Nat} {p : Int} {st : St} (hm : (T, ({ cls := .type "tuple", data := .seq [.int p t, sv].toArray m } : Obj)) ∈ l) (h : DatIn l sv (sD st)) : DatIn l (.ref T) (qD (p, st)) :=
  .tuple hm (.cons (.int _ _) (.cons h .nil))
def MetIn (l : List (Addr × Obj)) (kvs : List (Int × Value)) (known : List (Option St)) : Prop :=
  ∀ (i : Nat), (known[i]? = some none → valueAt kvs (i : Int) = none) ∧ ∀ st, known[i]? = some (some st) → ∃ v, valueAt kvs (i : Int) = some v ∧ DatIn l v (sD st)
theorem MetIn.mono {l l' : List (Addr × Obj)} {kvs : List (Int × Value)} {known : List (Option St)} (hs : ∀ p ∈ l, p ∈ l') (h : MetIn l kvs known) : MetIn l' kvs known :=
  fun i => ⟨(h i).1, fun st e => by obtain ⟨v, h1, h2⟩ := (h i).2 st e; exact ⟨v, h1, h2.mono hs⟩⟩
theorem MetIn.put {l : List (Addr × Obj)} {kvs : List (Int × Value)} {known : List (Option St)} {p : Int} {sv : Value} {st : St} (h : MetIn l kvs known) (hp : 0 ≤ p) (hn : valueAt kvs p = none) (hd : DatIn l sv (sD st)) : MetIn l (kvs ++ [(p, sv)]) (known.set p.toNat (some st)) := by
  intro i
  have ep : ((p.toNat : Nat) : Int) = p := by omega
  by_cases e : p.toNat = i
  · subst e
    refine ⟨fun h1 => ?_, fun s' h1 => ?_⟩
    · rw [List.getElem?_set_self'] at h1
      cases hk : known[p.toNat]? <;> rw [hk] at h1 <;> cases h1
    · rw [List.getElem?_set_self'] at h1
      have : s' = st := by cases hk : known[p.toNat]? <;> rw [hk] at h1 <;> cases h1; rfl
      subst this
      refine ⟨sv, ?_, hd⟩
      rw [valueAt_snoc, ep, hn, if_pos rfl]; rfl
  · have e' : ¬ p = (i : Int) := by omega
    refine ⟨fun h1 => ?_, fun s' h1 => ?_⟩
    · rw [List.getElem?_set_ne e] at h1
      rw [valueAt_snoc, (h i).1 h1, if_neg e']; rfl
    · rw [List.getElem?_set_ne e] at h1
      obtain ⟨v, h2, h3⟩ := (h i).2 s' h1
      exact ⟨v, by rw [valueAt_snoc, h2]; rfl, h3⟩
abbrev QIn (l : List (Addr × Obj)) (v : Value) (q : Int × St) : Prop := DatIn l v (qD q)

structure LS where
  n : Nat
  known : List (Option St)
  ws : List (Int × St)
  kvs : List (Int × Value)
  om : Obj
  wvs : List Value
  cw : Nat
  rest : List (Addr × Obj)
def LLed (mt wl : Addr) (c : LS) : List (Addr × Obj) := (mt, c.om) :: (wl, listOf c.wvs.toArray c.cw) :: c.rest
structure LFacts (w : World) (news : List (Addr × Obj)) (mt wl : Addr) (c : LS) : Prop where
  hd : c.om.IsDictOf (PySem.intKind PySem.Challenge.rw_np0044_01.row.prog w) c.kvs
  hm : MetIn c.rest c.kvs c.known
  hw : A2 (QIn c.rest) c.wvs c.ws
  h1 : ∀ p ∈ c.rest, p.1 ≠ mt
  h2 : ∀ p ∈ c.rest, p.1 ≠ wl
  hs : ∀ p ∈ news, p ∈ c.rest
structure LInv (xs : List Ins) (d : Int) (R : Bool) (N : Nat) (c : LS) : Prop where
  run : runL xs d c.n c.known c.ws = R
  ms : free c.known * 2 + c.ws.length ≤ c.n
  le : c.n ≤ N
  ln : ∀ q ∈ c.ws, 0 ≤ q.1 ∧ q.2.hs.length + c.n ≤ N
  kl : c.kvs.length + c.n ≤ N
  len : c.known.length = xs.length
theorem lawF_props {x : Ins} {m : Int} {st : St} {fd : List (Int × St)} (ho : x.ok m) (h : lawF x st = some fd) : fd.length ≤ 2 ∧ ∀ q ∈ fd, -1 ≤ q.1 ∧ q.2.hs.length ≤ st.hs.length + 1 := by
  obtain ⟨xw, k⟩ := x
  have hdl : ∀ l : List (Int × Int × Int), l.dropLast.length ≤ l.length + 1 := fun l => by simp; omega
  have hv : ¬ st.v < Ins.need ⟨xw, k⟩ := fun hv => by rw [lawF_none' hv] at h; cases h
  unfold lawF at h
  rw [if_neg hv] at h
  cases xw <;> simp only at h
  case ret => split at h <;> cases h; simp
  case unbind =>
    split at h
    · cases h
    · split at h
      · cases h; simp
      · split at h
        · cases h
        · cases h; simp
  case pophandler =>
    split at h
    · cases h
    · split at h
      · cases h
        simp only [List.length_cons, List.length_nil, List.mem_singleton, forall_eq]
        exact ⟨by decide, by decide, hdl _⟩
      · cases h
  case pushcatch =>
    have hk : 0 ≤ k := ho.1
    cases h
    simp
    omega
  case goto => have hk : 0 ≤ k := ho.1; cases h; simp; omega
  case gotoifnil => have hk : 0 ≤ k := ho.1; cases h; simp; omega
  case gotoifnilelsepop => have hk : 0 ≤ k := ho.1; cases h; simp; omega
  all_goals (cases h; simp)
inductive LTurn (w : World) (news : List (Addr × Obj)) (mt wl : Addr) (xs : List Ins) (vs : List Value) (d : Int) (R : Bool) (N : Nat) (n : Nat) (known : List (Option St)) (kvs : List (Int × Value)) (om : Obj) (rest : List (Addr × Obj)) : List Value → List (Int × St) → Prop where
  | nil (hR : R = true) : LTurn w news mt wl xs vs d R N n known kvs om rest [] []
  | last {us : List Value} {q : List (Int × St)} {a : Addr} {t : Tok} {sv : Value} {m : Nat} {p : Int} {st : St} (ha : (a, ({ cls := .type "tuple", data := .seq [.int p t, sv].toArray m } : Obj)) ∈ rest) (hp : 0 ≤ p) (hl : (xs.length : Int) ≤ p)
      (hR : R = false) : LTurn w news mt wl xs vs d R N n known kvs om rest (us ++ [.ref a]) (q ++ [(p, st)])
  | met {us : List Value} {q : List (Int × St)} {a : Addr} {t : Tok} {sv kv : Value} {m : Nat} {p : Int} {st st' : St} (ha : (a, ({ cls := .type "tuple", data := .seq [.int p t, sv].toArray m } : Obj)) ∈ rest) (hst : DatIn rest sv (sD st)) (hp : 0 ≤ p) (hl : p < (xs.length : Int))
      (hkv : valueAt kvs p = some kv) (hst' : DatIn rest kv (sD st')) (h0 : ¬ st' = st → R = false)
      (h1 : st' = st → ∀ us cw rest, LInv xs d R N ⟨n - 1, known, q, kvs, om, us, cw, rest⟩) (h2 : ∀ cw', LFacts w news mt wl ⟨n - 1, known, q, kvs, om, us, cw', rest⟩) (hn : n - 1 < n) : LTurn w news mt wl xs vs d R N n known kvs om rest (us ++ [.ref a]) (q ++ [(p, st)])
  | new {us : List Value} {q : List (Int × St)} {a S H : Addr} {t ts1 ts2 : Tok} {m ms hn' : Nat} {hvs : List Value} {p : Int} {st : St} {x : Ins} {i : Addr} {t1 u1 : Tok} {m1 : Nat} (ha : (a, ({ cls := .type "tuple", data := .seq [.int p t, .ref S].toArray m } : Obj)) ∈ rest) (hst : DatIn rest (.ref S) (sD st)) (hp : 0 ≤ p) (hl : p < (xs.length : Int))
      (hS : (S, ({ cls := .type "tuple", data := .seq [.int st.v ts1, .int st.b ts2, .ref H].toArray ms } : Obj)) ∈ rest) (hH : (H, tupO hvs hn') ∈ rest) (hhs : DatAll rest hvs (st.hs.map hD))
      (hkv : valueAt kvs p = none) (hv : vs[p.toNat]? = some (.ref i)) (hi : (i, insObj x t1 u1 m1) ∈ news) (hx : x ∈ xs) (hs : st.hs.length ≤ N) (hul : us.length + 2 ≤ N + 2)
      (hk : MetIn rest (kvs ++ [(p, .ref S)]) (known.set p.toNat (some st))) (hw : A2 (QIn rest) us q)
      (h0 : lawF x st = none → R = false) (hdp : ∀ fd, lawF x st = some fd → (∃ q ∈ fd, d < q.2.v) → R = false)
      (h1 : ∀ fd, lawF x st = some fd → (¬ ∃ q ∈ fd, d < q.2.v) → ∀ om us cw rest, LInv xs d R N ⟨n - 1, known.set p.toNat (some st), q ++ fd.map (fixQ p), kvs ++ [(p, .ref S)], om, us, cw, rest⟩) (hn : n - 1 < n) :
      LTurn w news mt wl xs vs d R N n known kvs om rest (us ++ [.ref a]) (q ++ [(p, st)])
theorem lTurn {w : World} {news : List (Addr × Obj)} {mt wl : Addr} {xs : List Ins} {vs : List Value} {d : Int} {R : Bool} {N : Nat} {c : LS} (hf : LFacts w news mt wl c) (hp : LInv xs d R N c) (h4 : A2 (IIn news) vs xs) (hok : ∀ x ∈ xs, x.ok xs.length) :
    LTurn w news mt wl xs vs d R N c.n c.known c.kvs c.om c.rest c.wvs c.ws := by
  obtain ⟨n, known, ws, kvs, om, wvs, cw, rest⟩ := c
  obtain ⟨f1, f2, f3, f4, f5, f6⟩ := hf
  obtain ⟨run, ms, le, ln, kl, len⟩ := hp
  dsimp only at *
  rcases List.eq_nil_or_concat wvs with rfl | ⟨us, v, rfl⟩
  · have e := f3.nil_left
    subst e
    rw [runL_nil] at run
    exact .nil run.symm
  · rw [List.concat_eq_append] at f3 ⊢
    obtain ⟨q, ⟨p, st⟩, rfl, hq, hd⟩ := f3.snoc
    obtain ⟨a, t, sv, m, rfl, ha, hst⟩ := qD_open hd
    have hl0 := ln (p, st) (by simp)
    dsimp only at ha hst hl0
    obtain ⟨n, rfl⟩ : ∃ k, n = k + 1 := ⟨n - 1, by simp at ms; omega⟩
    have hn : n + 1 - 1 = n := rfl
    by_cases hl : (xs.length : Int) ≤ p
    · rw [runL_end (by rw [len]; exact hl)] at run
      exact .last ha hl0.1 hl run.symm
    · have hl' : ¬ (known.length : Int) ≤ p := by rw [len]; exact hl
      have hi : p.toNat < known.length := by omega
      have ep : ((p.toNat : Nat) : Int) = p := by omega
      have hko : known[p.toNat]? = some known[p.toNat] := List.getElem?_eq_getElem hi
      have hqn : ∀ r ∈ q, 0 ≤ r.1 ∧ r.2.hs.length + n ≤ N := fun r hr => by have := ln r (by simp [hr]); omega
      have hM := f2 p.toNat
      rw [ep] at hM
      cases hk : known[p.toNat] with
      | some st' =>
        rw [hk] at hko
        obtain ⟨kv, hkv, hK⟩ := hM.2 st' hko
        refine .met ha hst hl0.1 (by omega) hkv hK (fun hne => ?_) (fun he _ _ _ => ?_) (fun cw' => ⟨f1, f2, hq, f4, f5, f6⟩) (by omega)
        · rw [runL_ne hl' hko hne] at run
          exact run.symm
        · subst he
          rw [runL_eq hl' hko] at run
          refine ⟨run, ?_, by simp only; omega, hqn, by simp only; omega, len⟩
          simp at ms ⊢
          omega
      | none =>
        rw [hk] at hko
        have hkv := hM.1 hko
        have hx : p.toNat < xs.length := by omega
        obtain ⟨iv, hiv, i, t1, u1, m1, rfl, hi1⟩ := h4.get hx
        have hxe : xs[p.toNat]? = some xs[p.toNat] := List.getElem?_eq_getElem hx
        have hfs := free_set (st := st) hko
        have hlq : q.length + 1 ≤ n + 1 := by simp at ms; omega
        obtain ⟨S, ts1, ts2, H, ms', hvs, hn', rfl, hS, hH, hhs⟩ := sD_open hst
        refine .new ha hst hl0.1 (by omega) hS hH hhs hkv hiv hi1 (List.getElem_mem hx) (by omega) ?_ (f2.put hl0.1 hkv hst) hq (fun hwf => ?_) (fun fd hwf hdd => ?_) (fun fd hwf hdd _ _ _ _ => ?_) (by omega)
        · rw [hq.length]; omega
        · rw [runL_stack hl' hko hxe hwf] at run
          exact run.symm
        · rw [runL_deep hl' hko hxe hwf hdd] at run
          exact run.symm
        · rw [runL_new hl' hko hxe hwf hdd] at run
          have hpr := lawF_props (hok _ (List.getElem_mem hx)) hwf
          refine ⟨run, ?_, by simp only; omega, fun r hr => ?_, by simp only [List.length_append, List.length_cons, List.length_nil]; omega, by simpa using len⟩
          · have := hpr.1
            simp at ms ⊢
            omega
          · rcases List.mem_append.mp hr with hr | hr
            · exact hqn r hr
            · obtain ⟨r0, hr0, rfl⟩ := List.mem_map.mp hr
              have := hpr.2 r0 hr0
              simp only [fixQ]
              refine ⟨?_, by omega⟩
              split <;> omega
-- P8
set_option maxRecDepth 100000
set_option maxHeartbeats 8000000
/-- one item of what _law_next hands back: the stop, or a way on -/
def FIn (l : List (Addr × Obj)) (v : Value) : Option (Int × St) → Prop
  | none => ∃ T t t2 m, v = .ref T ∧ (T, ({ cls := .type "tuple", data := .seq [.int (-2) t, .int 0 t2].toArray m } : Obj)) ∈ l
  | some q => DatIn l v (qD q) ∧ q.1 ≠ -2
theorem FIn.mono {l l' : List (Addr × Obj)} {v : Value} {o : Option (Int × St)} (hs : ∀ p ∈ l, p ∈ l') (h : FIn l v o) : FIn l' v o := by
  cases o with
  | none => obtain ⟨T, t, t2, m, e, h⟩ := h; exact ⟨T, t, t2, m, e, hs _ h⟩
  | some q => exact ⟨h.1.mono hs, h.2⟩
/-- the walk behind the call of _law_next: the ledger as it stood, what the call made below -/
theorem l_after {w : World} {h₀ h : Heap} {L mt wl : Addr} {om lo : Obj} {kvs : List (Int × Value)} {news rest n9 : List (Addr × Obj)} {x : Ins} {m : Int} {st : St} {r : Value} (N : News h₀ L h n9) (G : Grow ((mt, om) :: (wl, lo) :: rest) n9) (O : LNext ((mt, om) :: (wl, lo) :: rest) (lawF x st) r n9)
    (hd : om.IsDictOf (PySem.intKind PySem.Challenge.rw_np0044_01.row.prog w) kvs) (hlo : lo.cls = .type "list") (h1 : ∀ p ∈ rest, p.1 ≠ mt) (h2 : ∀ p ∈ rest, p.1 ≠ wl) (hs : ∀ p ∈ news, p ∈ rest) (ho : x.ok m) :
    ∃ tl, News h₀ L h ((mt, om) :: (wl, lo) :: (tl ++ rest)) ∧ (∀ p ∈ tl ++ rest, p.1 ≠ mt) ∧ (∀ p ∈ tl ++ rest, p.1 ≠ wl) ∧ (∀ p ∈ rest, p ∈ tl ++ rest) ∧ (∀ p ∈ news, p ∈ tl ++ rest) ∧
      ((lawF x st = none ∧ r = .none) ∨ ∃ fd D n fvs its, lawF x st = some fd ∧ r = .ref D ∧ (D, listOf (List.toArray fvs) n) ∈ tl ++ rest ∧ A2 (FIn (tl ++ rest)) fvs its ∧ fd = its.filterMap id ∧ fvs.length ≤ 2) := by
  obtain ⟨tl, rfl, ha⟩ := G
  have c1 : ∀ p ∈ tl, p.1 ≠ mt := fun p hp => Nat.ne_of_gt (ha (mt, om) (.head _) p hp)
  have c2 : ∀ p ∈ tl, p.1 ≠ wl := fun p hp => Nat.ne_of_gt (ha (wl, lo) (.tail _ (.head _)) p hp)
  have hr : ∀ p ∈ rest, p ∈ tl ++ rest := fun p hp => List.mem_append_right _ hp
  obtain ⟨es, ep, ⟨hoc, _, _⟩, _⟩ := hd
  have off : ∀ p ∈ tl ++ (mt, om) :: (wl, lo) :: rest, p.2.cls = .type "tuple" → p ∈ tl ++ rest := fun p hp hc => by
    simp only [List.mem_cons, List.mem_append] at hp ⊢
    rcases hp with h | rfl | rfl | h
    · exact .inl h
    · rw [hoc] at hc; exact absurd (Value.type.inj hc) (by decide)
    · rw [hlo] at hc; exact absurd (Value.type.inj hc) (by decide)
    · exact .inr h
  have keep : ∀ {D : Addr} {o : Obj}, (D, o) ∈ tl ++ (mt, om) :: (wl, lo) :: rest → (∀ p ∈ (mt, om) :: (wl, lo) :: rest, p.1 ≠ D) → (D, o) ∈ tl ++ rest := fun {D o} hp hD => by
    rcases List.mem_append.mp hp with h | h
    · exact List.mem_append_left _ h
    · exact absurd rfl (hD _ h)
  refine ⟨tl, kst_newsOf N fun p hp => ?_, ?_, ?_, hr, fun p hp => hr p (hs p hp), ?_⟩
  · simp only [List.mem_cons, List.mem_append] at hp ⊢
    rcases hp with h | h | h | h <;> simp [h]
  · exact List.forall_mem_append.mpr ⟨c1, h1⟩
  · exact List.forall_mem_append.mpr ⟨c2, h2⟩
  · have hq : ∀ {fd}, lawF x st = some fd → ∀ q ∈ fd, q.1 ≠ -2 := fun e q hq => by have := ((lawF_props ho e).2 q hq).1; omega
    cases O with
    | none h hr => exact .inl ⟨h, hr⟩
    | stop h hr g1 gD g2 => exact .inr ⟨_, _, _, [_], [none], h, hr, keep g1 gD, .cons ⟨_, _, _, _, rfl, off _ g2 rfl⟩ .nil, rfl, by simp⟩
    | @one D n v q h hr g1 gD g2 => exact .inr ⟨_, _, _, [_], [some q], h, hr, keep g1 gD, .cons ⟨qD_off off g2, hq h q (by simp)⟩ .nil, rfl, by simp⟩
    | @two D n v v' q q' h hr g1 gD g2 g3 => exact .inr ⟨_, _, _, [_, _], [some q, some q'], h, hr, keep g1 gD, .cons ⟨qD_off off g2, hq h q (by simp)⟩ (.cons ⟨qD_off off g3, hq h q' (by simp)⟩ .nil), rfl, by simp⟩
structure FS where
  ws : List (Int × St)
  wvs : List Value
  cw : Nat
  rest : List (Addr × Obj)
def FLed (mt wl : Addr) (om : Obj) (c : FS) : List (Addr × Obj) := (mt, om) :: (wl, listOf c.wvs.toArray c.cw) :: c.rest
structure FInv (d : Int) (mt wl D : Addr) (fvs : List Value) (n : Nat) (its : List (Option (Int × St))) (base : List (Addr × Obj)) (q : List (Int × St)) (p : Int) (i : Nat) (c : FS) : Prop where
  hD : (D, listOf fvs.toArray n) ∈ c.rest
  hb : ∀ y ∈ base, y ∈ c.rest
  h1 : ∀ y ∈ c.rest, y.1 ≠ mt
  h2 : ∀ y ∈ c.rest, y.1 ≠ wl
  hw : A2 (QIn c.rest) c.wvs c.ws
  hws : c.ws = q ++ ((its.take i).filterMap id).map (fixQ p)
  hdp : ∀ r ∈ (its.take i).filterMap id, r.2.v ≤ d
  hlen : c.wvs.length ≤ q.length + i
inductive FTurn (d : Int) (mt wl D : Addr) (fvs : List Value) (n : Nat) (its : List (Option (Int × St))) (base : List (Addr × Obj)) (q : List (Int × St)) (p : Int) (R : Bool) (i : Nat) (c : FS) : Value → Prop where
  | stop {T : Addr} {t t2 : Tok} {m : Nat} (hT : (T, ({ cls := .type "tuple", data := .seq [.int (-2) t, .int 0 t2].toArray m } : Obj)) ∈ c.rest) (hnx : FInv d mt wl D fvs n its base q p (i + 1) c) : FTurn d mt wl D fvs n its base q p R i c (.ref T)
  | item {T S H : Addr} {t t1 t2 : Tok} {m ms : Nat} {z : Int} {st : St} (hT : (T, ({ cls := .type "tuple", data := .seq [.int z t, .ref S].toArray m } : Obj)) ∈ c.rest) (hz : ¬ z = -2) (hS : (S, ({ cls := .type "tuple", data := .seq [.int st.v t1, .int st.b t2, .ref H].toArray ms } : Obj)) ∈ c.rest)
      (hdeep : d < st.v → R = false)
      (hnx : ¬ d < st.v → ∀ T' t' m' cw' k, k = (if z = -1 then p + 1 else z) → T' ≠ mt → T' ≠ wl → FInv d mt wl D fvs n its base q p (i + 1) ⟨c.ws ++ [(k, st)], c.wvs ++ [.ref T'], cw', (T', { cls := .type "tuple", data := .seq [.int k t', .ref S].toArray m' }) :: c.rest⟩) : FTurn d mt wl D fvs n its base q p R i c (.ref T)
theorem fTurn {d : Int} {mt wl D : Addr} {fvs : List Value} {n : Nat} {its : List (Option (Int × St))} {base : List (Addr × Obj)} {q : List (Int × St)} {p : Int} {R : Bool} {i : Nat} {c : FS} {v : Value} (h : FInv d mt wl D fvs n its base q p i c) (hA : A2 (FIn base) fvs its) (hv : fvs[i]? = some v) (hR : (∃ r ∈ its.filterMap id, d < r.2.v) → R = false) :
    FTurn d mt wl D fvs n its base q p R i c v := by
  obtain ⟨o, ho, hf⟩ := hA.getL hv
  obtain ⟨hD, hb, h1, h2, hw, hws, hdp, hlen⟩ := h
  have htk : its.take (i + 1) = its.take i ++ [o] := by rw [List.take_add_one, ho]; rfl
  have hfm : (its.take (i + 1)).filterMap id = (its.take i).filterMap id ++ [o].filterMap id := by rw [htk, List.filterMap_append]
  cases o with
  | none =>
    obtain ⟨T, t, t2, m, rfl, hT⟩ := hf
    have e : (its.take (i + 1)).filterMap id = (its.take i).filterMap id := by rw [hfm]; simp
    exact .stop (hb _ hT) ⟨hD, hb, h1, h2, hw, by rw [e]; exact hws, by rw [e]; exact hdp, by omega⟩
  | some r =>
    obtain ⟨z, st⟩ := r
    obtain ⟨hq, hz⟩ := hf
    obtain ⟨T, t, sv, m, rfl, hT, hst⟩ := qD_open hq
    obtain ⟨S, t1, t2, H, ms, hvs, hn, rfl, hS, hH, hhs⟩ := sD_open hst
    have e : (its.take (i + 1)).filterMap id = (its.take i).filterMap id ++ [(z, st)] := by rw [hfm]; rfl
    refine .item (hb _ hT) hz (hb _ hS) (fun hd => hR ⟨(z, st), ?_, hd⟩) fun hd T' t' m' cw' k hk e1 e2 => ?_
    · exact List.mem_filterMap.mpr ⟨some (z, st), List.mem_of_getElem? ho, rfl⟩
    · subst hk
      refine ⟨.tail _ hD, fun y hy => .tail _ (hb y hy), List.forall_mem_cons.mpr ⟨e1, h1⟩, List.forall_mem_cons.mpr ⟨e2, h2⟩, ?_, ?_, ?_, ?_⟩
      · exact (hw.mono fun _ _ h => h.mono fun y hy => .tail _ hy).append (.cons (qD_mk (.head _) (hst.mono fun y hy => .tail _ (hb y hy))) .nil)
      · rw [e, List.map_append, ← List.append_assoc, ← hws]; rfl
      · rw [e]
        intro r hr
        rcases List.mem_append.mp hr with hr | hr
        · exact hdp r hr
        · rw [List.mem_singleton.mp hr]; exact Int.not_lt.mp hd
      · simp only [List.length_append, List.length_cons, List.length_nil]; omega
theorem fInv0 {d : Int} {mt wl D : Addr} {fvs us : List Value} {n cw : Nat} {its : List (Option (Int × St))} {base : List (Addr × Obj)} {q : List (Int × St)} {p : Int} (hD : (D, listOf fvs.toArray n) ∈ base) (h1 : ∀ y ∈ base, y.1 ≠ mt) (h2 : ∀ y ∈ base, y.1 ≠ wl) (hw : A2 (QIn base) us q) :
    FInv d mt wl D fvs n its base q p 0 ⟨q, us, cw, base⟩ :=
  ⟨hD, fun _ h => h, h1, h2, hw, by simp, by simp, by simp [hw.length]⟩
section
variable {prog : Program} {w : World} {A : Around} {E : Value → Shared → Prop} {Q : Flow → Shared → Prop} {s : Shared} {env : Env} {h₀ : Heap} {L : Addr} {news led : List (Addr × Obj)} {xs : List Ins}
theorem l_while {test : Expr} {body : List Stmt} {pos : Pos} {m₀ : Str → Option Value} {mt wl a S H : Addr} {om : Obj} {cw m ms nn : Nat} {t tv tb : Tok} {d : Int}
    (hmt0 : m₀ (Str.ofString "met") = some (.ref mt)) (hwl0 : m₀ (Str.ofString "waiting") = some (.ref wl)) (F : Fr h₀ L s.heap m₀) (N : News h₀ L s.heap led)
    (m1 : (mt, om) ∈ led) (m2 : (wl, listOf #[.ref a] cw) ∈ led) (m3 : (a, ({ cls := .type "tuple", data := .seq #[.int 0 t, .ref S] m } : Obj)) ∈ led)
    (m4 : (S, ({ cls := .type "tuple", data := .seq #[.int 0 tv, .int 0 tb, .ref H] ms } : Obj)) ∈ led) (m6 : (H, tupO [] nn) ∈ led) (m7 : ∀ p ∈ news, p ∈ led)
    (hd : om.IsDictOf (PySem.intKind PySem.Challenge.rw_np0044_01.row.prog w) [])
    (n1 : a ≠ mt ∧ S ≠ mt ∧ H ≠ mt) (n2 : a ≠ wl ∧ S ≠ wl ∧ H ≠ wl)
    (l1 : ∀ p ∈ news, p.1 ≠ mt) (l2 : ∀ p ∈ news, p.1 ≠ wl)
    (turn : ∀ (c : LS) (u : Str → Option Value) h tk, LFacts w news mt wl c → LInv xs d (runL xs d (fuelS xs) (List.replicate xs.length none) [(0, ⟨0, 0, []⟩)]) (fuelS xs) c →
      Fr h₀ L h (kstB (fun z => if [Str.ofString "place", Str.ofString "standing", Str.ofString "found", Str.ofString "there", Str.ofString "later"].contains z then u z else m₀ z) []) → News h₀ L h (LLed mt wl c) →
      wpAny (model prog w) A (isTrue test env (eval test env)) (fun b s₂ =>
        if b = true then wpAny (model prog w) A (execs body env) (KswPost h₀ L s (LLed mt wl) (fun _ => []) (LFacts w news mt wl) [Str.ofString "place", Str.ofString "standing", Str.ofString "found", Str.ofString "there", Str.ofString "later"] m₀ (LInv xs d (runL xs d (fuelS xs) (List.replicate xs.length none) [(0, ⟨0, 0, []⟩)]) (fuelS xs)) (fun c => c.n) Q c) E s₂ else Q .next s₂) E { s with heap := h, toks := tk })
    (hE : PassesOwn (model prog w) A env E := by passes_own) :
    wpAny (model prog w) A (exec (.While test body [] pos) env) Q E s := by
  refine ksw_while (LLed mt wl) (fun _ => []) (LFacts w news mt wl) [Str.ofString "place", Str.ofString "standing", Str.ofString "found", Str.ofString "there", Str.ofString "later"] (LInv xs d (runL xs d (fuelS xs) (List.replicate xs.length none) [(0, ⟨0, 0, []⟩)]) (fuelS xs)) (fun c => c.n)
    ⟨fuelS xs, List.replicate xs.length none, [(0, ⟨0, 0, []⟩)], [], om, [.ref a], cw, (a, { cls := .type "tuple", data := .seq #[.int 0 t, .ref S] m }) :: (S, { cls := .type "tuple", data := .seq #[.int 0 tv, .int 0 tb, .ref H] ms }) :: (H, tupO [] nn) :: news⟩
    F (kst_newsOf N fun p hp => ?_) ?_ (List.forall_mem_nil _) ?_ turn hE
  · simp only [LLed, List.mem_cons] at hp
    rcases hp with rfl | rfl | rfl | rfl | rfl | hp
    · exact m1
    · exact m2
    · exact m3
    · exact m4
    · exact m6
    · exact m7 _ hp
  · refine ⟨hd, fun i => ⟨fun _ => rfl, fun st e => ?_⟩, .cons (.tuple (.head _) (.cons (.int _ _) (.cons (.tuple (.tail _ (.head _)) (.cons (.int _ _) (.cons (.int _ _) (.cons (.tuple (.tail _ (.tail _ (.head _))) .nil) .nil)))) .nil))) .nil, ?_, ?_, fun p hp => .tail _ (.tail _ (.tail _ hp))⟩
    · cases List.eq_of_mem_replicate (List.mem_of_getElem? e)
    · exact List.forall_mem_cons.mpr ⟨n1.1, List.forall_mem_cons.mpr ⟨n1.2.1, List.forall_mem_cons.mpr ⟨n1.2.2, l1⟩⟩⟩
    · exact List.forall_mem_cons.mpr ⟨n2.1, List.forall_mem_cons.mpr ⟨n2.2.1, List.forall_mem_cons.mpr ⟨n2.2.2, l2⟩⟩⟩
  · refine ⟨rfl, ?_, Nat.le_refl _, ?_, ?_, ?_⟩
    · simp only [free_rep, fuelS, List.length_cons, List.length_nil]; omega
    · intro q hq
      simp only [List.mem_singleton] at hq
      subst hq
      simp
    · simp
    · simp
theorem l_met {h : Heap} {mt wl : Addr} {m' m₀ : Str → Option Value} {tk n cw : Nat} {c : LS} {om : Obj} {rest : List (Addr × Obj)} {known : List (Option St)} {q : List (Int × St)} {kvs : List (Int × Value)} {us : List Value} {d : Int} {R : Bool} {N : Nat} {stored : List Str} (F : Fr h₀ L h m') (N' : News h₀ L h led) (mk : (mt, om) ∈ led) (mw : (wl, listOf us.toArray cw) ∈ led) (mr : ∀ p ∈ rest, p ∈ led)
    (hf : LFacts w news mt wl ⟨n, known, q, kvs, om, us, cw, rest⟩) (hp : LInv xs d R N ⟨n, known, q, kvs, om, us, cw, rest⟩) (hn : n < c.n) (hr : ∀ z, (∀ p ∈ ([] : List (Str × Value)), z ≠ p.1) → stored.contains z = false → m' z = m₀ z) :
    KswEnd h₀ L s (LLed mt wl) (fun _ => []) (LFacts w news mt wl) stored m₀ (LInv xs d R N) (fun c => c.n) c { s with heap := h, toks := tk } := by
  refine ksw_end ⟨n, known, q, kvs, om, us, cw, rest⟩ F N' (fun p hp => ?_) hf (List.forall_mem_nil _) hr hp hn
  simp only [LLed, List.mem_cons] at hp
  rcases hp with rfl | rfl | hp
  · exact mk
  · exact mw
  · exact mr p hp
end
section
variable {prog : Program} {w : World} {A : Around} {E : Value → Shared → Prop} {s : Shared} {env : Env} {h₀ : Heap} {body : List Stmt} {Q : Flow → Shared → Prop} {m₀ : Str → Option Value}
theorem my_listF {target : Expr} {d : Int} {mt wl D : Addr} {om : Obj} {fvs us : List Value} {n cw : Nat} {its : List (Option (Int × St))} {base : List (Addr × Obj)} {q : List (Int × St)} {R : Bool} {p : Int} (hp00 : 0 ≤ p)
    (hh : A.handled = none) (F : Fr h₀ env.locals s.heap m₀) (N : News h₀ env.locals s.heap ((mt, om) :: (wl, listOf us.toArray cw) :: base)) (hD : (D, listOf (List.toArray fvs) n) ∈ base) (hA : A2 (FIn base) fvs its)
    (h1 : ∀ y ∈ base, y.1 ≠ mt) (h2 : ∀ y ∈ base, y.1 ≠ wl) (hw : A2 (QIn base) us q) (hR : (∃ r ∈ its.filterMap id, d < r.2.v) → R = false)
    (turn : ∀ (ws : List (Int × St)) (wvs : List Value) (cw : Nat) (rest : List (Addr × Obj)) i v (u : Str → Option Value) h₁ tk₁ I it, FTurn d mt wl D fvs n its base q p R i ⟨ws, wvs, cw, rest⟩ v → (∀ y ∈ base, y ∈ rest) → (∀ y ∈ rest, y.1 ≠ mt) → (∀ y ∈ rest, y.1 ≠ wl) → wvs.length ≤ q.length + fvs.length → @Ne Nat mt I → @Ne Nat wl I → (∀ y ∈ rest, y.1 ≠ I) →
      Fr h₀ env.locals h₁ (kstB (fun z => if [Str.ofString "there", Str.ofString "later"].contains z then u z else m₀ z) []) → News h₀ env.locals h₁ ((I, it) :: (mt, om) :: (wl, listOf wvs.toArray cw) :: rest) →
      wpAny (model prog w) A (assign target env v) (fun _ s₃ => wpAny (model prog w) A (execs body env) (TurnPostS h₀ env.locals I it (FLed mt wl om) [Str.ofString "there", Str.ofString "later"] m₀ (FInv d mt wl D fvs n its base q p (i + 1)) s Q) E s₃) E { s with heap := h₁, toks := tk₁ })
    (done : ∀ (us' : List Value) (cw' : Nat) (rest : List (Addr × Obj)) (u : Str → Option Value) h' tk, A2 (QIn rest) us' (q ++ (its.filterMap id).map (fixQ p)) → (∀ y ∈ base, y ∈ rest) → (∀ y ∈ rest, y.1 ≠ mt) → (∀ y ∈ rest, y.1 ≠ wl) → (¬ ∃ r ∈ its.filterMap id, d < r.2.v) →
      Fr h₀ env.locals h' (kstB (fun z => if [Str.ofString "there", Str.ofString "later"].contains z then u z else m₀ z) []) → News h₀ env.locals h' ((mt, om) :: (wl, listOf us'.toArray cw') :: rest) → Q .next { s with heap := h', toks := tk }) :
    wpAny (model prog w) A (pyIter (.ref D)) (fun it s₂ => TurnsAt prog w A h₀ env target body Q E it s₂) E s := by
  refine my_listS (σ := FS) (vs := fvs) (FLed mt wl om) [Str.ofString "there", Str.ofString "later"] (FInv d mt wl D fvs n its base q p) ⟨q, us, cw, base⟩ hh F N (fun i c h => .tail _ (.tail _ h.hD)) (fInv0 hD h1 h2 hw) ?_ ?_
  · rintro ⟨ws, wvs, cw', rest⟩ i v u h₁ tk₁ I it hv hi _ hI F₁ N₁
    have hlt := (List.getElem?_eq_some_iff.mp hv).1
    have hl := hi.hlen
    exact turn ws wvs cw' rest i v u h₁ tk₁ I it (fTurn hi hA hv hR) hi.hb hi.h1 hi.h2 (by dsimp only at hl; omega) (hI _ (.head _)) (hI _ (.tail _ (.head _))) (fun y hy => hI y (.tail _ (.tail _ hy))) F₁ N₁
  · rintro ⟨ws, wvs, cw', rest⟩ u h' tk F₁ N₁ hi
    obtain ⟨_, hb, g1, g2, gw, gs, gd, _⟩ := hi
    have e : its.take fvs.length = its := List.take_of_length_le (by rw [hA.length]; exact Nat.le_refl _)
    rw [e] at gs gd
    dsimp only at gs gw
    subst gs
    exact done wvs cw' rest u h' tk gw hb g1 g2 (fun ⟨r, hr, hd⟩ => by have := gd r hr; omega) F₁ N₁
theorem my_titem {value slice : PySem.Expr} {L a : Addr} {news : List (Addr × Obj)} {Q : Value → Shared → Prop} {us : List Value} {k : Int} {j n1 : Nat} {u : Tok} {v : Value} (N : News h₀ L s.heap news) (hm : (a, tupO us n1) ∈ news) (h1 : -(2 ^ 63) ≤ k := by decide) (h2 : k < 2 ^ 63 := by decide) (hj : seqIndex? k us.length = some j) (hx : us[j]? = some v) (h : Q v s)
    (hs : subscripted slice false (.ref a) (.int k u) = operate [.ref a, .int k u] (getItem (.ref a) (.int k u)) := by with_unfolding_all rfl) :
    wpAny (model prog w) A (subscriptTail value slice (.ref a) (.int k u)) Q E s :=
  item_tupleT (l := us) (j := j) ⟨_, (N _ hm).1, rfl, n1, rfl⟩ h1 h2 hj hx h hs
end
theorem f_end {h₀ h : Heap} {L I T' mt wl S : Addr} {it om : Obj} {stored : List Str} {m₀ m' : Str → Option Value} {s : Shared} {tk cw m n : Nat} {k : Int} {t : Tok} {D : Addr} {d p : Int} {fvs wvs : List Value} {its : List (Option (Int × St))} {base rest : List (Addr × Obj)} {ws q : List (Int × St)} {st : St} {i : Nat}
    (F : Fr h₀ L h m') (N : News h₀ L h ((T', { cls := .type "tuple", data := .seq [.int k t, .ref S].toArray m }) :: (I, it) :: (mt, om) :: (wl, listOf (wvs ++ [Value.ref T']).toArray cw) :: rest)) (e0 : @Ne Nat T' I) (e1 : @Ne Nat mt I) (e2 : @Ne Nat wl I) (e3 : ∀ y ∈ rest, y.1 ≠ I)
    (hr : ∀ z, (∀ p ∈ ([] : List (Str × Value)), z ≠ p.1) → stored.contains z = false → m' z = m₀ z)
    (hp : FInv d mt wl D fvs n its base q p (i + 1) ⟨ws ++ [(k, st)], wvs ++ [Value.ref T'], cw, (T', { cls := .type "tuple", data := .seq [.int k t, .ref S].toArray m }) :: rest⟩) :
    TurnEndS h₀ L I it (FLed mt wl om) stored m₀ (FInv d mt wl D fvs n its base q p (i + 1)) s { s with heap := h, toks := tk } := by
  refine turn_endS (Led := FLed mt wl om) ⟨ws ++ [(k, st)], wvs ++ [Value.ref T'], cw, (T', { cls := .type "tuple", data := .seq [.int k t, .ref S].toArray m }) :: rest⟩ F N (.tail _ (.head _)) (fun y hy => ?_) ?_ hr hp
  · simp only [FLed, List.mem_cons] at hy ⊢
    rcases hy with h | h | h | h <;> simp [h]
  · exact List.forall_mem_cons.mpr ⟨e1, List.forall_mem_cons.mpr ⟨e2, List.forall_mem_cons.mpr ⟨e0, e3⟩⟩⟩
def goodL (xs : List Ins) (d : Int) : Prop := (∀ x ∈ xs, ¬ x.bad xs.length) ∧ runL xs d (fuelS xs) (List.replicate xs.length none) [(0, ⟨0, 0, []⟩)] = true
-- C15
set_option maxRecDepth 100000
set_option maxHeartbeats 8000000
theorem reset15 : True := by
  w_top off
  trivial

theorem lg_nb {vs : List Value} {xs : List Ins} (h7 : vs.length = xs.length) (hc : ∀ j, j < vs.length → ∀ x, xs[j]? = some x → ¬ x.bad xs.length) : ∀ x ∈ xs, ¬ x.bad xs.length := fun x hx => by
  obtain ⟨j, hj, e⟩ := List.getElem_of_mem hx
  exact hc j (by omega) x (by rw [List.getElem?_eq_getElem hj, e])
theorem place_in (w : Wd) : ([Str.ofString "gotoifnil", Str.ofString "gotoifnilelsepop", Str.ofString "goto", Str.ofString "pushcatch"].any fun x => x == w.str) = decide (w.sort = Str.ofString "place") := by
  cases w <;> decide +kernel
theorem lg_bad {xs : List Ins} {d : Int} {i : Nat} {x : Ins} (hx : xs[i]? = some x) (ha : ([Str.ofString "gotoifnil", Str.ofString "gotoifnilelsepop", Str.ofString "goto", Str.ofString "pushcatch"].any fun z => z == x.w.str) = true) (hk : (xs.length : Int) ≤ x.k) : ¬ goodL xs d := fun g => g.1 x (List.mem_of_getElem? hx) ⟨of_decide_eq_true ((place_in _).symm.trans ha), hk⟩
theorem lg_nin {w : Wd} (ha : ([Str.ofString "gotoifnil", Str.ofString "gotoifnilelsepop", Str.ofString "goto", Str.ofString "pushcatch"].any fun z => z == w.str) = false) (e : w.sort = Str.ofString "place") : False := by rw [place_in, decide_eq_true e] at ha; cases ha
theorem lg_step {xs : List Ins} {i : Nat} {x0 : Ins} (hc : ∀ j, j < i → ∀ x, xs[j]? = some x → ¬ x.bad xs.length) (h0 : xs[i]? = some x0) (hb : ¬ x0.bad xs.length) {j : Nat} (hj : j < i + 1) {x : Ins} (hx : xs[j]? = some x) : ¬ x.bad xs.length := by
  rcases Nat.lt_succ_iff_lt_or_eq.mp hj with h | rfl
  · exact hc j h x hx
  · rw [h0] at hx; cases hx; exact hb
theorem lgF {news : List (Addr × Obj)} {xs : List Ins} {d : Int} (h : ¬ goodL xs d) : news = news ∧ ∃ b, Value.bool false = .bool b ∧ (b = true ↔ goodL xs d) := ⟨rfl, false, rfl, by simp [h]⟩
theorem lgT {news : List (Addr × Obj)} {xs : List Ins} {d : Int} (h : goodL xs d) : news = news ∧ ∃ b, Value.bool true = .bool b ∧ (b = true ↔ goodL xs d) := ⟨rfl, true, rfl, by simp [h]⟩
theorem lgR {xs : List Ins} {d : Int} (h : runL xs d (fuelS xs) (List.replicate xs.length none) [(0, ⟨0, 0, []⟩)] = false) : ¬ goodL xs d := fun g => by rw [g.2] at h; cases h
theorem law_nextI {w : World} {mt wl : Addr} {om lo : Obj} {rest : List (Addr × Obj)} {i ha : Addr} {x : Ins} {t u tv tb : Tok} {n hn : Nat} {v0 b0 : Int} {hs : List (Int × Int × Int)} {vs : List Value} (hm : (i, insObj x t u n) ∈ rest) (h3 : (ha, tupO vs hn) ∈ rest) (h4 : DatAll rest vs (hs.map hD)) (hlen : hs.length < 1000) :
    Con w 12 350 [.ref i, .int v0 tv, .int b0 tb, .ref ha] ((mt, om) :: (wl, lo) :: rest) (fun r news' => Grow ((mt, om) :: (wl, lo) :: rest) news' ∧ LNext ((mt, om) :: (wl, lo) :: rest) (lawF x ⟨v0, b0, hs⟩) r news') :=
  have hsub : ∀ p ∈ rest, p ∈ (mt, om) :: (wl, lo) :: rest := fun _ h => .tail _ (.tail _ h)
  law_next w _ i ha x t u tv tb n hn (hsub _ hm) v0 b0 hs vs (hsub _ h3) (h4.mono hsub) hlen
theorem linesC15_0 : True := by
  k_with_none
  (k_with "m subscriptTail" => (k_here; (with_reducible show wpAny _ _ (subscriptTail _ _ (Value.ref 90) (Value.str (Wd.str _) _)) _ _ _); k_dflt (refine' rows_item ?F ?X ?_; (case F => k_asm); (case X => k_asm)); intro a t0 t1 t2 t3 t4 hrow; dsimp only))
  (k_with "m subscriptTail" => (k_here; (with_reducible show wpAny _ _ (subscriptTail _ _ (Value.ref _) (Value.int _ _)) _ _ _); k_dflt (refine' topTup_K ?F ?X ?l ?a ?b ?c ?d ?_; (case F => k_asm); (case X => k_asm); (case l => assumption); (case a => decide); (case b => decide); (case c => rfl); (case d => rfl); k_whole)))
  (k_with "m subscriptTail" => (k_here; (with_reducible show wpAny _ _ (subscriptTail _ _ (Value.ref _) (Value.int (-1) _)) _ _ _); k_dflt (refine' my_last ?N ?m ?z ?x ?_; (case N => k_asm); (case m => k_mem); (case z => first | exact my_sz | exact my_sz_push); (case x => first | exact my_at | exact my_at_push); k_whole)))
  (k_with "m subscriptTail Name UnaryOp ref int" => (k_here; (with_reducible show wpAny _ _ (subscriptTail _ _ (Value.ref _) (Value.int (-1) _)) _ _ _); k_dflt (refine' my_last ?N ?m ?z ?x ?_; (case N => k_asm); (case m => k_mem); (case z => first | exact my_sz | exact my_sz_push); (case x => first | exact my_at | exact my_at_push); k_whole)))
  (k_with "m ite" => (refine ite_neg (wd_plain _) ?_))
  (k_with "m mem" => (first | exact List.mem_cons_self | (refine List.mem_cons_of_mem _ ?_; walk_at "mem") | (refine List.mem_append_left _ ?_; walk_at "mem") | (refine List.mem_append_right _ ?_; walk_at "mem") | ktr_member | assumption))
  (k_with "m room" => (ktr_room))
  (k_with "m sub" => (first | exact fun _ h => h | (refine fun p hp => List.mem_cons_of_mem _ ((?_ : ∀ p, _ → _) p hp); walk_at "sub") | (refine fun p hp => List.mem_append_right _ ((?_ : ∀ p, _ → _) p hp); walk_at "sub") | (refine fun p hp => List.mem_append_left _ ((?_ : ∀ p, _ → _) p hp); walk_at "sub")))
  (k_with "m con start" => (intro dp un gd cn cs a ccd cl outer A₀ base h₀ L m s mean mg mb Q E B F X N T hk hdp hun hret; (refine wpAny_call ?_); k_dflt ktr_enter))
  (k_with "m nz" => (first | exact my_nz | exact my_nz_push))
  (k_with "m compareOp Eq ref ref" => (k_here; (with_reducible show wpAny _ _ (compareOp CmpOp.Eq (Value.ref _) (Value.ref _)) _ _ _); first | k_dflt (refine' my_eq_nil_t ?N ?a ?b ?u ?_; (case N => k_asm); (case a => k_mem); (case b => k_mem); (case u => ktr_units)) | k_dflt (refine' my_eq_nil_f ?N ?a ?b ?z ?u ?_; (case N => k_asm); (case a => k_mem); (case b => k_mem); (case z => walk_at "nz"); (case u => ktr_units))))
  (k_with "m compareOp NotEq ref ref" => (k_here; (with_reducible show wpAny _ _ (compareOp CmpOp.NotEq (Value.ref _) (Value.ref _)) _ _ _); first | k_dflt (refine' my_ne_nil_f ?N ?a ?b ?u ?_; (case N => k_asm); (case a => k_mem); (case b => k_mem); (case u => ktr_units)) | k_dflt (refine' my_ne_nil_t ?N ?a ?b ?z ?u ?_; (case N => k_asm); (case a => k_mem); (case b => k_mem); (case z => walk_at "nz"); (case u => ktr_units))))
  (k_with "m alllt" => (first | assumption | exact allLt_of (by assumption) | exact ⟨by assumption, AllLt.up (by assumption) (by walk_at "alllt")⟩))
  (k_with "m grow" => (first | exact Grow.refl _ | (refine Grow.cons ?_ ?_; (walk_at "grow"); (k_dflt walk_at "alllt")) | (refine Grow.app ?_ ?_; (walk_at "grow"); assumption) | assumption))
  (k_with "m grow2" => (first | exact Grow2.refl _ _ | (apply Grow2.cons; (walk_at "grow2"); (k_dflt walk_at "alllt")) | (apply Grow2.app; (walk_at "grow2"); assumption)))
  (k_with "m call builtin:list.pop" => (k_here; (with_reducible show wpAny _ _ (call (Value.builtin "list.pop") [Value.ref _]) _ _ _); k_dflt (refine' my_pop ?F ?N ?U ?z ?_; (case F => k_asm); (case N => k_asm); (case U => k_upd); (case z => ((have : sizeLine = 16777216 := rfl); omega))); intro h' F' N'))
  (k_with "m call builtin:len" => (k_here; (with_reducible show wpAny _ _ (call (Value.builtin "len") [Value.ref _]) _ _ _); k_dflt (refine' my_len ?N ?m ?e ?f ?_; (case N => k_asm); (case m => k_mem); (case e => first | assumption | exact A2.length (by assumption)); (case f => first | decide | omega))))
  (k_with "m all" => first | exact List.forall_mem_nil _ | (refine List.forall_mem_cons.mpr ⟨?_, ?_⟩; (k_ne); (k_all)) | assumption | exact AllLt.ne (by walk_at "alltail"))
  (k_with "m alltail" => first | assumption | exact allLt_of (by assumption) | exact And.right (by assumption) | exact And.right (And.right (by assumption)) | exact And.right (And.right (And.right (by assumption))) | exact And.right (And.right (And.right (And.right (by assumption)))) | exact And.right (And.right (And.right (And.right (And.right (by assumption))))) | exact And.right (And.right (And.right (And.right (And.right (And.right (by assumption)))))) | exact And.right (And.right (And.right (And.right (And.right (And.right (And.right (by assumption))))))) | exact And.right (And.right (And.right (And.right (And.right (And.right (And.right (And.right (by assumption)))))))) | exact And.right (And.right (And.right (And.right (And.right (And.right (And.right (And.right (And.right (by assumption))))))))) | exact And.right (And.right (And.right (And.right (And.right (And.right (And.right (And.right (And.right (And.right (by assumption)))))))))) | exact And.right (And.right (And.right (And.right (And.right (And.right (And.right (And.right (And.right (And.right (And.right (by assumption))))))))))) | exact And.right (And.right (And.right (And.right (And.right (And.right (And.right (And.right (And.right (And.right (And.right (And.right (by assumption)))))))))))) | exact And.right (And.right (And.right (And.right (And.right (And.right (And.right (And.right (And.right (And.right (And.right (And.right (And.right (by assumption))))))))))))) | exact And.right (And.right (And.right (And.right (And.right (And.right (And.right (And.right (And.right (And.right (And.right (And.right (And.right (And.right (by assumption)))))))))))))) | exact And.right (And.right (And.right (And.right (And.right (And.right (And.right (And.right (And.right (And.right (And.right (And.right (And.right (And.right (And.right (by assumption))))))))))))))) | exact And.right (And.right (And.right (And.right (And.right (And.right (And.right (And.right (And.right (And.right (And.right (And.right (And.right (And.right (And.right (And.right (by assumption)))))))))))))))) | exact AllLt.up (by assumption) (by walk_at "alltail"))
  (k_with "m dinm" => (refine' DatIn.mono ?dis ?dih; (case dih => assumption); (case dis => walk_at "sub")))
  (k_with "m win" => exact ⟨_, _, _, _, rfl, by k_mem, by first | walk_at "smono" | walk_at "stin"⟩)
  (k_with "m exec For Tuple Call cons nil" => (k_here; (rename Fr _ _ _ _ => lF'); (with_unfolding_all refine' For_turns lF' ?_; k_whole)))
  (k_with "m exec For Tuple Call" => (k_here; (rename Fr _ _ _ _ => lF'); (with_unfolding_all refine' For_turns lF' ?_; k_whole)))
  (k_with "m exec For Tuple Attribute cons nil" => (k_here; (rename Fr _ _ _ _ => lF'); (with_unfolding_all refine' For_turns lF' ?_; k_whole)))
  (k_with "m exec For Tuple Name cons nil" => (k_here; (rename Fr _ _ _ _ => lF'); (with_unfolding_all refine' For_turns lF' ?_; k_whole)))
  (k_with "m TurnPost" => (dsimp only [TurnPost]))
  (k_with "m TurnEnd" => (k_here; (refine' turn_end ?te0 ?teF ?teN ?tek ?ter ?_); (case teF => k_asm); (case teN => exact cb_drop (by k_asm) (by walk_at "sub")); (case te0 => first | exact () | skip); (case tek => kst_all); (case ter => walk_at "same")))
  (k_with "m same" => first | (intro z hz2 hz3; (simp only [List.contains_cons, List.contains_nil, Bool.or_false, Bool.or_eq_false_iff, beq_eq_false_iff_ne, ne_eq] at hz3); (simp [kstB, hz3]; done)) | (intro z hz2 hz3; (simp only [List.contains_cons, List.contains_nil, Bool.or_false, Bool.or_eq_false_iff, beq_eq_false_iff_ne, ne_eq] at hz3); (simp only [List.forall_mem_cons, List.not_mem_nil, false_implies, implies_true, and_true, ne_eq] at hz2); (simp [kstB, hz2, hz3]; done)) | ksw_same)
  (k_with "m fmono" => (refine' FnIn.mono ?fs ?fh; (case fh => assumption); (case fs => walk_at "sub")))
  (k_with "m pyIter ref" => (k_here; (with_reducible show wpAny _ _ (pyIter (Value.ref cl0)) _ _ _); k_dflt (refine' my_list (σ := Unit) (fun _ => []) [Str.ofString "word", Str.ofString "operand"] (fun i _ => ∀ j, j < i → ∀ x, xs[j]? = some x → ¬ x.bad xs.length) () ?hxH ?hxF ?hxN ?hxm ?hxk ?hxp ?hxt ?hxd; (case hxH => exact rfl); (case hxF => k_asm); (case hxN => k_asm); (case hxm => k_mem); (case hxk => exact List.forall_mem_nil _); (case hxp => exact fun j hj => absurd hj (Nat.not_lt_zero _))); (case' hxt => (intro c9 i9 v9 u9 h9 tk9 own9 hv9 hc9 F9 N9; obtain ⟨x9, hx9, i8, t8, u8, n8, rfl, hmi9⟩ := A2.getL h4 hv9; have hok9 := hox x9 (List.mem_of_getElem? hx9))); (case' hxd => (intro c9 u9 h9 tk9 F9 N9 hc9; have hnb := lg_nb h7 hc9))))
  (k_with "m subscriptTail Name Name ref int" => (k_here; (with_reducible show wpAny _ _ (subscriptTail _ _ (Value.ref _) (Value.int _ _)) _ _ _); k_dflt (refine' my_item ?iN ?iM ?i0 ?iF ?iX ?_; (case iN => k_asm); (case iM => k_mem); (case i0 => first | assumption | omega); (case iF => omega); (case iX => assumption); k_whole)))
  (k_with "m subscriptTail Attribute Name ref int" => (k_here; (with_reducible show wpAny _ _ (subscriptTail _ _ (Value.ref _) (Value.int _ _)) _ _ _); k_dflt (refine' my_item ?iN ?iM ?i0 ?iF ?iX ?_; (case iN => k_asm); (case iM => k_mem); (case i0 => first | assumption | omega); (case iF => omega); (case iX => assumption); k_whole)))
  (k_with "m call builtin:dict.get" => (k_here; (with_reducible show wpAny _ _ (call (Value.builtin "dict.get") [Value.ref _, Value.int _ _, _]) _ _ _); first | k_dflt (refine' my_get_some ?dgN ?dgm ?dgd ?dgl ?dgv ?_; (case dgN => k_asm); (case dgm => k_mem); (case dgd => exact hdd); (case dgl => assumption); (case dgv => exact hkv)) | k_dflt (refine' my_get_none ?dgN ?dgm ?dgd ?dgl ?dgv ?_; (case dgN => k_asm); (case dgm => k_mem); (case dgd => exact hdd); (case dgl => assumption); (case dgv => exact hkv))))
  (k_with "m compareOp NotIn int ref" => (k_here; (with_reducible show wpAny _ _ (compareOp CmpOp.NotIn (Value.int _ _) (Value.ref _)) _ _ _); first | k_dflt (refine' my_notin_some ?dgN ?dgm ?dgd ?dgl ?dgv ?_; (case dgN => k_asm); (case dgm => k_mem); (case dgd => exact hdd); (case dgl => assumption); (case dgv => exact hkv)) | k_dflt (refine' my_notin_none ?dgN ?dgm ?dgd ?dgl ?dgv ?_; (case dgN => k_asm); (case dgm => k_mem); (case dgd => exact hdd); (case dgl => assumption); (case dgv => exact hkv))))
  (k_with "m setItem ref int" => (k_here; (with_reducible show wpAny _ _ (setItem (Value.ref _) (Value.int _ _) _) _ _ _); k_dflt (refine' my_put ?sF ?sN ?sU ?sd ?sv ?ss ?_; (case sF => k_asm); (case sN => k_asm); (case sU => k_updF); (case sd => exact hdd); (case sv => exact hkv); (case ss => omega)); intro h' o' F' N' hd'; (try dsimp only at N')))
  (k_with "m compareOp NotEq ref ref" => (k_here; (with_reducible show wpAny _ _ (compareOp CmpOp.NotEq (Value.ref _) (Value.ref _)) _ _ _); k_dflt (refine' my_sD_ne ?N ?a ?b ?u ?_; (case N => k_asm); (case a => walk_at "dinm"); (case b => walk_at "dinm"); (case u => ktr_units))))
  (k_with "m compareOp NotEq ref ref" => (k_here; (with_reducible show wpAny _ _ (compareOp CmpOp.NotEq (Value.ref _) (Value.ref _)) _ _ _); k_dflt (refine' my_same ?N ?a ?b ?o ?u ?_; (case N => k_asm); (case a => walk_at "dinm"); (case b => walk_at "dinm"); (case o => exact sD_ok _); (case u => ktr_units))))
  (k_with "m subscriptTail Name Constant ref int" => (k_here; (with_reducible show wpAny _ _ (subscriptTail _ _ (Value.ref _) (Value.int _ _)) _ _ _); k_dflt (refine' my_titem ?iN ?iM ?i1 ?i2 ?iJ ?iX ?_; (case iN => k_asm); (case iM => k_mem); (case i1 => decide); (case i2 => decide); (case iJ => exact rfl); (case iX => exact rfl); k_whole)))
  (k_with "m subscriptTail" => (k_here; (with_reducible show wpAny _ _ (subscriptTail _ _ (Value.ref _) (Value.int _ _)) _ _ _); k_dflt (refine' my_titem ?iN ?iM ?i1 ?i2 ?iJ ?iX ?_; (case iN => k_asm); (case iM => k_mem); (case i1 => decide); (case i2 => decide); (case iJ => exact rfl); (case iX => exact rfl); k_whole)))
  (k_with "m call ref" => (k_here; (with_reducible show wpAny _ _ (call (Value.ref 350) [Value.ref _, Value.int _ _, Value.int _ _, Value.ref _]) _ _ _); k_dflt (refine' con_use ?k1 ?k2 ?k3 ?k4 ?k5 ?kK (law_nextI (rest := rest8) ?nm ?n3 ?n4 ?nl) ?kd ?ku ?_; (case k1 => k_asm); (case k2 => k_asm); (case k3 => k_asm); (case k4 => exact cb_drop (by k_asm) (by walk_at "sub")); (case k5 => k_asm); (case kK => first | exact rfl | assumption); (case nm => exact hir); (case n3 => assumption); (case n4 => assumption); (case nl => omega); (case kd => ktr_room); (case ku => ktr_units); intro r9 n9 h9 tk9 F9 N9 P9; obtain ⟨hG9, hO9⟩ := P9; obtain ⟨tl7, N7, h71, h72, h73, h74, o7⟩ := l_after N9 hG9 hO9 (by assumption) rfl hr1 hr2 hs8 (hox _ hxm); clear N9; have hql7 := hwq.length; rcases o7 with ⟨hlf, rfl⟩ | ⟨fd7, D7, n7, fvs7, its7, hlf, rfl, hD7, hA7, rfl, hfl7⟩)))
  (k_with "m pyIter ref" => (k_here; (with_reducible show wpAny _ _ (pyIter (Value.ref D7)) _ _ _); k_dflt (refine' my_listF (d := d) ?hyP ?hyH ?hyF ?hyN ?hyD ?hyA ?hy1 ?hy2 ?hyw ?hyR ?hyt ?hyd; (case hyP => exact hp0); (case hyH => exact rfl); (case hyF => k_asm); (case hyN => k_asm); (case hyD => exact hD7); (case hyA => exact hA7); (case hy1 => exact h71); (case hy2 => exact h72); (case hyw => exact hwq.mono (fun _ _ h => h.mono h73)); (case hyR => exact fun e => hdp _ hlf e)); (case' hyt => (intro ws7 wvs7 cw7 rest7 i7 v7 u7 h6 tk7 I7 it7 hF7 hb7 g71 g72 hw7 e71 e72 e73 F7 N7; have h1q := hb7 _ (h73 _ h1r); have h2q := hb7 _ (h73 _ h2r); rcases hF7 with ⟨hT7, hnx7⟩ | ⟨hT7, hz7, hS7, hdeep7, hnx7⟩)); (case' hyd => intro us6 cw6 rest6 u6 h6 tk6 hw6 hb6 g61 g62 hd6 F6 N6)))
  (k_with "m call builtin:list.append" => (k_here; (with_reducible show wpAny _ _ (call (Value.builtin "list.append") [Value.ref _, _]) _ _ _); k_dflt (refine' my_append ?aF ?aN ?aU ?az ?_; (case aF => k_asm); (case aN => k_asm); (case aU => k_upd); (case az => omega)); intro h' F' N'))
  (k_with "m newTuple" => (k_here; k_dflt (refine' kup_newTuple ?ntF ?ntN ?_ ?ntz; (case ntF => k_asm); (case ntN => k_asm); (case ntz => kmk_size)); intro D' h' F' N' l1; (try k_lt l1)))
  (k_with "m TurnPostS" => (dsimp only [TurnPostS]))
  (k_with "m exec While Compare cons nil" => (k_here; k_dflt (refine' l_while (news := news) (xs := xs) (d := d) ?s1 ?s2 ?wF ?wN ?m1 ?m2 ?m3 ?m4 ?m6 ?m7 ?wd ?n1 ?n2 ?l1 ?l2 ?wT); (case wF => k_asm); (case wN => k_asm); (case s1 => exact rfl); (case s2 => exact rfl); (case m1 => k_mem); (case m2 => k_mem); (case m3 => k_mem); (case m4 => k_mem); (case m6 => k_mem); (case m7 => walk_at "sub"); (case wd => assumption); (case n1 => exact ⟨by k_ne, by k_ne, by k_ne⟩); (case n2 => exact ⟨by k_ne, by k_ne, by k_ne⟩); (case l1 => exact AllLt.ne (by walk_at "alltail")); (case l2 => exact AllLt.ne (by walk_at "alltail")); (case' wT => intro c9 u9 h9 tk9 hf9 hp9 F9 N9; have hT9 := lTurn hf9 hp9 h4 hox; have hwl9 := (show c9.wvs.length ≤ fuelS xs from (by have e1 := hf9.hw.length; have e2 := hp9.ms; have e3 := hp9.le; omega)); have hkl9 := (show c9.kvs.length ≤ fuelS xs from (by have e2 := hp9.kl; omega)); have hdd := hf9.hd; have hr1 := hf9.h1; have hr2 := hf9.h2; have hs8 := hf9.hs; obtain ⟨n8, known8, ws8, kvs8, om8, wvs8, cw8, rest8⟩ := c9; dsimp only [LLed] at N9; dsimp only at hT9 hwl9 hkl9 hdd hr1 hr2 hs8; have h1r := hs8 _ h1; have h2r := hs8 _ h2; have h3r := hs8 _ h3; rcases hT9 with ⟨hR⟩ | ⟨ha, hp0, hl, hR⟩ | ⟨ha, hstm, hp0, hl, hkv, hst', hR, hnx, hfx, hlt⟩ | ⟨ha, hst, hp0, hl, hS, hH, hhs, hkv, hv, hi, hxm, hsl, hul, hmk, hwq, hR, hdp, hnx, hlt⟩ <;> (try (have hir := hs8 _ hi)) <;> (try (obtain ⟨S8, s81, s82, H8, m8, hvs8, hn8, rfl, hS8, hH8, hhs8⟩ := sD_open hstm)) <;> (try (obtain ⟨S7, s71, s72, H7, m7, hvs7, hn7, rfl, hS7, hH7, hhs7⟩ := sD_open hst')))))
  (k_with "m sub" => assumption)
  (k_with "m subq" => exact fun p hp => (by walk_at "sub" : ∀ p ∈ rest7, p ∈ _) p (hb7 p (h74 p hp)))
  trivial
theorem law_is_good (w : World) (news : List (Addr × Obj)) (f : Addr) (xs : List Ins) (d : Int) (hf : FnIn w news (.ref f) xs d) (hx : xs.length < 400) (hox : ∀ x ∈ xs, x.ok xs.length) :
    Con w 30 357 [.ref f] news (fun r news' => news' = news ∧ ∃ b, r = .bool b ∧ (b = true ↔ goodL xs d)) := by
  have hf0 := hf
  obtain @⟨fx, fd, cl0, kl, nd, nc, nk, vs, ks, t1, t2, t3, t4, t5, t6, tf, td, hv, h1, h2, h3, h4, h5, h6⟩ := hf
  cases hv
  have h7 := h4.length
  have hN9 : fuelS xs ≤ 900 := by unfold fuelS; omega
  walk_at "con start"
  k_steps
  · exact hret _ news _ _ (by k_asm) (cb_drop (by k_asm) (by walk_at "sub")) (lgT ⟨hnb, hR⟩)
  · exact hret _ news _ _ (by k_asm) (cb_drop (by k_asm) (by walk_at "sub")) (lgF (lgR hR))
  · exact l_met (by k_asm) (by k_asm) (by k_mem) (by k_mem) (by walk_at "sub") (hfx _) (hnx (by first | assumption | exact @of_decide_eq_true _ (Classical.propDecidable _) (by assumption)) _ _ _) hlt (by walk_at "same")
  · exact hret _ news _ _ (by k_asm) (cb_drop (by k_asm) (by walk_at "sub")) (lgF (lgR (hR (by first | assumption | exact @of_decide_eq_false _ (Classical.propDecidable _) (by assumption)))))
  · exact hret _ news _ _ (by k_asm) (cb_drop (by k_asm) (by walk_at "sub")) (lgF (lgR (hR hlf)))
  · exact l_met (by k_asm) (by k_asm) (by k_mem) (by k_mem) (by walk_at "sub") ⟨hd', hmk.mono (fun p hp => hb6 p (h73 p hp)), hw6, g61, g62, fun p hp => hb6 p (h74 p hp)⟩ (hnx _ hlf hd6 _ _ _ _) hlt (by walk_at "same")
  · exact turn_endS (Led := FLed _ _ _) ⟨ws7, wvs7, cw7, rest7⟩ (by k_asm) (by k_asm) (by k_mem) (fun p hp => List.mem_cons_of_mem _ hp) (List.forall_mem_cons.mpr ⟨e71, List.forall_mem_cons.mpr ⟨e72, e73⟩⟩) (by walk_at "same") hnx7
  · exact hret _ news _ _ (by k_asm) (cb_drop (by k_asm) (by walk_at "subq")) (lgF (lgR (hdeep7 (by assumption))))
  · exact f_end (by k_asm) (by k_asm) (by k_ne) e71 e72 e73 (by walk_at "same") (hnx7 (by assumption) _ _ _ _ _ (if_pos (by assumption)).symm (by k_ne) (by k_ne))
  · exact hret _ news _ _ (by k_asm) (cb_drop (by k_asm) (by walk_at "subq")) (lgF (lgR (hdeep7 (by assumption))))
  · exact f_end (by k_asm) (by k_asm) (by k_ne) e71 e72 e73 (by walk_at "same") (hnx7 (by assumption) _ _ _ _ _ (if_neg (by assumption)).symm (by k_ne) (by k_ne))
  · first | exact absurd hz7 (by assumption) | exact absurd (by assumption) hz7 | omega
  · exact hret _ news _ _ (by k_asm) (cb_drop (by k_asm) (by walk_at "sub")) (lgF (lg_bad hx9 (by assumption) (by assumption)))
  · exact lg_step hc9 hx9 (fun e => absurd e.2 (by assumption)) (by assumption) (by assumption)
  · exact lg_step hc9 hx9 (fun e => lg_nin (by assumption) e.1) (by assumption) (by assumption)
-- C16
set_option maxRecDepth 100000
set_option maxHeartbeats 8000000
theorem reset16 : True := by
  w_top off
  trivial

theorem ints_of {vs : List Value} {ns : List Int} (h : IntsAre vs ns) : Ints vs := by
  induction h with
  | nil => exact fun _ h => nomatch h
  | cons n t _ ih => exact List.forall_mem_cons.mpr ⟨⟨n, t, rfl⟩, ih⟩
theorem news_drop {h₀ h : Heap} {L : Addr} {x : Addr × Obj} {tl l : List (Addr × Obj)} (N : News h₀ L h (x :: (tl ++ l))) : News h₀ L h (x :: l) := fun p hp => N p (by
  simp only [List.mem_cons, List.mem_append] at hp ⊢
  rcases hp with h | h <;> simp [h])
theorem good_eq {xs : List Ins} {d : Int} {b c : Bool} (h0 : 0 ≤ d) (hox : ∀ x ∈ xs, x.ok xs.length) (hb : b = true ↔ goodS xs d) (hc : c = true ↔ goodL xs d) : c = b :=
  Bool.eq_iff_iff.mpr (hc.trans ((plain_law h0 hox).symm.trans hb.symm))
section
variable {prog : Program} {w : World} {A : Around} {E : Value → Shared → Prop} {s : Shared} {Q : Value → Shared → Prop}
theorem is_none_join {G : Prop} {r : Value} (o : (r = .none ∧ G) ∨ ((∃ z, r = .ref z) ∧ ¬ G)) (h : ∀ b : Bool, (b = true ↔ G) → Q (.bool b) s) : wpAny (model prog w) A (compareOp .Is r .none) Q E s := by
  rcases o with ⟨rfl, g⟩ | ⟨⟨z, rfl⟩, g⟩
  · exact wpAny_is_self rfl (h true (by simp [g]))
  · exact wpAny_is_other rfl (by intro x; cases x) (h false (by simp [g]))
theorem fun_ret {h₀ : Heap} {L p q : Addr} {m : Str → Option Value} {rest : List (Addr × Obj)} (k : ∀ a2 s2 ta2 ts2 n2 f xs d tl h' tk', Fr h₀ L h' m → News h₀ L h' ((p, potO q a2 s2 ta2 ts2 n2) :: (tl ++ rest)) → 0 ≤ a2 → FnIn w (tl ++ rest) (.ref f) xs d → xs ≠ [] → xs.length ≤ 7 → (∀ x ∈ xs, x.ok xs.length) → (∀ y ∈ tl, y.1 ≠ p) → 0 ≤ d → Q (.ref f) { s with heap := h', toks := tk' }) :
    ∀ r news' h' tk', Fr h₀ L h' m → News h₀ L h' news' → (∃ a2 s2 ta2 ts2 n2 f xs d tl, news' = (p, potO q a2 s2 ta2 ts2 n2) :: (tl ++ rest) ∧ 0 ≤ a2 ∧ r = .ref f ∧ FnIn w (tl ++ rest) (.ref f) xs d ∧ xs ≠ [] ∧ xs.length ≤ 7 ∧ (∀ x ∈ xs, x.ok xs.length) ∧ (∀ y ∈ tl, y.1 ≠ p) ∧ 0 ≤ d) →
      Q r { s with heap := h', toks := tk' } := fun r news' h' tk' F N P => by
  obtain ⟨a2, s2, ta2, ts2, n2, f, xs, d, tl, rfl, h1, rfl, h2, h3, h4, h5, h6, h7⟩ := P
  exact k a2 s2 ta2 ts2 n2 f xs d tl h' tk' F N h1 h2 h3 h4 h5 h6 h7
theorem good_ret {h₀ : Heap} {L : Addr} {m : Str → Option Value} {news : List (Addr × Obj)} {G : Prop} {b : Bool} (e : ∀ c : Bool, (c = true ↔ G) → c = b) (k : ∀ h' tk', Fr h₀ L h' m → News h₀ L h' news → Q (.bool b) { s with heap := h', toks := tk' }) :
    ∀ r news' h' tk', Fr h₀ L h' m → News h₀ L h' news' → (news' = news ∧ ∃ c, r = .bool c ∧ (c = true ↔ G)) → Q r { s with heap := h', toks := tk' } := fun r news' h' tk' F N P => by
  obtain ⟨rfl, c, rfl, hc⟩ := P
  obtain rfl := e c hc
  exact k h' tk' F N
theorem ne_self {b : Bool} (h : Q (.bool false) s) : wpAny (model prog w) A (compareOp .NotEq (.bool b) (.bool b)) Q E s := ne_bool (by simpa using h)
end
theorem linesC16_0 : True := by
  k_with_none
  (k_with "m mem" => (first | exact List.mem_cons_self | (refine List.mem_cons_of_mem _ ?_; walk_at "mem") | (refine List.mem_append_left _ ?_; walk_at "mem") | (refine List.mem_append_right _ ?_; walk_at "mem") | ktr_member | assumption))
  (k_with "m sub" => (first | exact fun _ h => h | (refine fun p hp => List.mem_cons_of_mem _ ((?_ : ∀ p, _ → _) p hp); walk_at "sub") | (refine fun p hp => List.mem_append_right _ ((?_ : ∀ p, _ → _) p hp); walk_at "sub") | (refine fun p hp => List.mem_append_left _ ((?_ : ∀ p, _ → _) p hp); walk_at "sub")))
  (k_with "m all" => first | exact List.forall_mem_nil _ | (refine List.forall_mem_cons.mpr ⟨?_, ?_⟩; (k_ne); (k_all)) | assumption | exact AllLt.ne (by walk_at "alltail"))
  (k_with "m alltail" => first | assumption | exact allLt_of (by assumption) | exact And.right (by assumption) | exact And.right (And.right (by assumption)) | exact And.right (And.right (And.right (by assumption))) | exact And.right (And.right (And.right (And.right (by assumption)))) | exact And.right (And.right (And.right (And.right (And.right (by assumption))))) | exact And.right (And.right (And.right (And.right (And.right (And.right (by assumption)))))) | exact And.right (And.right (And.right (And.right (And.right (And.right (And.right (by assumption))))))) | exact And.right (And.right (And.right (And.right (And.right (And.right (And.right (And.right (by assumption)))))))) | exact And.right (And.right (And.right (And.right (And.right (And.right (And.right (And.right (And.right (by assumption))))))))) | exact And.right (And.right (And.right (And.right (And.right (And.right (And.right (And.right (And.right (And.right (by assumption)))))))))) | exact And.right (And.right (And.right (And.right (And.right (And.right (And.right (And.right (And.right (And.right (And.right (by assumption))))))))))) | exact And.right (And.right (And.right (And.right (And.right (And.right (And.right (And.right (And.right (And.right (And.right (And.right (by assumption)))))))))))) | exact And.right (And.right (And.right (And.right (And.right (And.right (And.right (And.right (And.right (And.right (And.right (And.right (And.right (by assumption))))))))))))) | exact And.right (And.right (And.right (And.right (And.right (And.right (And.right (And.right (And.right (And.right (And.right (And.right (And.right (And.right (by assumption)))))))))))))) | exact And.right (And.right (And.right (And.right (And.right (And.right (And.right (And.right (And.right (And.right (And.right (And.right (And.right (And.right (And.right (by assumption))))))))))))))) | exact And.right (And.right (And.right (And.right (And.right (And.right (And.right (And.right (And.right (And.right (And.right (And.right (And.right (And.right (And.right (And.right (by assumption)))))))))))))))) | exact AllLt.up (by assumption) (by walk_at "alltail"))
  (k_with "m fmono" => (refine' FnIn.mono ?fs ?fh; (case fh => assumption); (case fs => walk_at "sub")))
  (k_with "m call ref" => (k_here; (with_reducible show wpAny _ _ (call (Value.ref 343) [Value.ref _]) _ _ _); k_dflt (refine' con_use ?k1 ?k2 ?k3 ?k4 ?k5 ?kK (law_function _ _ _ _ _ _ _ _ _ _ _ ?f0 ?fq ?fi ?fl ?fp) ?kd ?ku (fun_ret ?_); (case k1 => k_asm); (case k2 => k_asm); (case k3 => k_asm); (case k4 => exact news_swap (by k_asm)); (case k5 => k_asm); (case kK => first | exact rfl | assumption); (case f0 => first | assumption | decide); (case fq => k_mem); (case fi => exact ints_of (by assumption)); (case fl => omega); (case fp => k_all); (case kd => ktr_room); (case ku => ktr_units); intro a2 s2 ta2 ts2 n2 f9 xs9 d9 tl9 h9 tk9 F9 N9 ha2 hf9 hne9 hln9 hok9 htp9 hd9; skip)))
  (k_with "m call ref" => (k_here; (with_reducible show wpAny _ _ (call (Value.ref 319) [Value.ref _]) _ _ _); k_dflt (refine' con_use ?k1 ?k2 ?k3 ?k4 ?k5 ?kK (code_error _ _ _ _ _ ?sf ?sx ?sn ?so ?sp) ?kd ?ku (eq_ret ?_); (case k1 => k_asm); (case k2 => k_asm); (case k3 => k_asm); (case k4 => k_asm); (case k5 => k_asm); (case kK => first | exact rfl | assumption); (case sf => walk_at "fmono"); (case sx => omega); (case sn => assumption); (case so => assumption); (case sp => exact fun x hx => ok_place (hok9 x hx)); (case kd => ktr_room); (case ku => ktr_units); intro r9 h9 tk9 F9 N9 o9; skip)))
  (k_with "m call ref" => (k_here; (with_reducible show wpAny _ _ (call (Value.ref 357) [Value.ref _]) _ _ _); k_dflt (refine' con_use ?k1 ?k2 ?k3 ?k4 ?k5 ?kK (law_is_good _ _ _ _ _ ?sf ?sx ?so) ?kd ?ku (good_ret (fun b9 hb9 => good_eq hd9 hok9 hb8 hb9) ?_); (case k1 => k_asm); (case k2 => k_asm); (case k3 => k_asm); (case k4 => k_asm); (case k5 => k_asm); (case kK => first | exact rfl | assumption); (case sf => walk_at "fmono"); (case sx => omega); (case so => assumption); (case kd => ktr_room); (case ku => ktr_units); intro h9 tk9 F9 N9; replace N9 := news_swap (news_drop N9))))
  (k_with "m compareOp Is none" => (k_here; (refine is_none_join o9 ?_); intro b8 hb8))
  (k_with "m compareOp Is" => (k_here; (refine is_none_join o9 ?_); intro b8 hb8))
  (k_with "m compareOp NotEq bool bool" => (k_here; with_reducible refine ne_self ?_))
  trivial
theorem walk_to {q q' : Program} {K K' : Params → Frag} {loose : List Str} {as : List Addr} {row : RowW} {d : DefRec} {kwd : List (Str × Expr)} {run : Value → List Value → Sem Value} (e : ∀ P, as = (K P).map (·.1)) (eq : q = q') (eK : K = K')
    (h : WalkO q' loose (XL q' []) (kHook K' as (eK ▸ e)).says row d kwd run) : WalkO q loose (XL q []) (kHook K as e).says row d kwd run := by subst eq; subst eK; exact h
theorem cw.tw10001757822794293284 : True := trivial
theorem cw.tw10085818013370136085 : True := trivial
theorem cw.tw10133593751813262031 : True := trivial
theorem cw.tw1031413930868921414 : True := trivial
theorem cw.tw10362361567543475196 : True := trivial
theorem cw.tw10410563499097374197 : True := trivial
theorem cw.tw10417276246721045325 : True := trivial
theorem cw.tw10429527013251239871 : True := trivial
theorem cw.tw10485878008771408533 : True := trivial
theorem cw.tw10509066262467895687 : True := trivial
theorem cw.tw10537277779084631892 : True := trivial
theorem cw.tw10582871820063533239 : True := trivial
theorem cw.tw1061759024922983633 : True := trivial
theorem cw.tw10666049679076413966 : True := trivial
theorem cw.tw10716450737588456245 : True := trivial
theorem cw.tw10858871412793448962 : True := trivial
theorem cw.tw10881834249466746773 : True := trivial
theorem cw.tw10894422157771956130 : True := trivial
theorem cw.tw10925982676703824585 : True := trivial
theorem cw.tw10953123937275477394 : True := trivial
theorem cw.tw11127803882114186156 : True := trivial
theorem cw.tw11170759442187083659 : True := trivial
theorem cw.tw1119846097978458417 : True := trivial
theorem cw.tw11220621319726393749 : True := trivial
theorem cw.tw11260913956373821800 : True := trivial
theorem cw.tw1129946868401675958 : True := trivial
theorem cw.tw11375821190854673680 : True := trivial
theorem cw.tw11381329923816113111 : True := trivial
theorem cw.tw11474246971035347520 : True := trivial
theorem cw.tw11723249370181606347 : True := trivial
theorem cw.tw11744499077472433453 : True := trivial
theorem cw.tw11751998716075514716 : True := trivial
theorem cw.tw11754658650556267126 : True := trivial
theorem cw.tw11781060877705872058 : True := trivial
theorem cw.tw11835236348681913158 : True := trivial
theorem cw.tw11875235385263808230 : True := trivial
theorem cw.tw11905782810705850828 : True := trivial
theorem cw.tw11940688272778093951 : True := trivial
theorem cw.tw12041731551508008593 : True := trivial
theorem cw.tw12054122481165462934 : True := trivial
theorem cw.tw12196176389731286687 : True := trivial
theorem cw.tw12197343540428872264 : True := trivial
theorem cw.tw12239477600099815877 : True := trivial
theorem cw.tw12292827367615619480 : True := trivial
theorem cw.tw12315186274624023813 : True := trivial
theorem cw.tw1234362014024236558 : True := trivial
theorem cw.tw12460997675799849042 : True := trivial
theorem cw.tw12670489939187605533 : True := trivial
theorem cw.tw12728222785577406730 : True := trivial
theorem cw.tw12879298785024176671 : True := trivial
theorem cw.tw1289815822418361547 : True := trivial
theorem cw.tw12914080906435047031 : True := trivial
theorem cw.tw12924146987078507549 : True := trivial
theorem cw.tw1295104794031784457 : True := trivial
theorem cw.tw12982277070153153637 : True := trivial
theorem cw.tw13038600260403951778 : True := trivial
theorem cw.tw13101704718675416334 : True := trivial
theorem cw.tw13151696102870119586 : True := trivial
theorem cw.tw13272739832340760470 : True := trivial
theorem cw.tw13342451505449514251 : True := trivial
theorem cw.tw13427813068156967423 : True := trivial
theorem cw.tw13438360705153437068 : True := trivial
theorem cw.tw13440761400709180564 : True := trivial
theorem cw.tw13509015979295805570 : True := trivial
theorem cw.tw13536430150218294711 : True := trivial
theorem cw.tw13630375179674840580 : True := trivial
theorem cw.tw13661436319821634661 : True := trivial
theorem cw.tw13718693542244978846 : True := trivial
theorem cw.tw13741288145241353385 : True := trivial
theorem cw.tw13780061514556756106 : True := trivial
theorem cw.tw13828229439554513783 : True := trivial
theorem cw.tw13866912185451921454 : True := trivial
theorem cw.tw13875441437160936798 : True := trivial
theorem cw.tw13987649963944064819 : True := trivial
theorem cw.tw14108251187009513098 : True := trivial
theorem cw.tw14200389297463377969 : True := trivial
theorem cw.tw1423356260392717437 : True := trivial
theorem cw.tw14240352255720746961 : True := trivial
theorem cw.tw14249023299064298872 : True := trivial
theorem cw.tw14255671406697997116 : True := trivial
theorem cw.tw14289734765686230283 : True := trivial
theorem cw.tw14294555197703138188 : True := trivial
theorem cw.tw14422256142866051034 : True := trivial
theorem cw.tw14438426639572044279 : True := trivial
theorem cw.tw14457793533385175785 : True := trivial
theorem cw.tw14548968915000840582 : True := trivial
theorem cw.tw14667547644415735818 : True := trivial
theorem cw.tw14708432069784124976 : True := trivial
theorem cw.tw14715191861724666174 : True := trivial
theorem cw.tw14719815322784957477 : True := trivial
theorem cw.tw14738603649851109533 : True := trivial
theorem cw.tw14761310442516060954 : True := trivial
theorem cw.tw14815655621447405532 : True := trivial
theorem cw.tw14890220570659453997 : True := trivial
theorem cw.tw14951641260305525846 : True := trivial
theorem cw.tw14984256209660822020 : True := trivial
theorem cw.tw14991488966729834569 : True := trivial
theorem cw.tw15005777498544049417 : True := trivial
theorem cw.tw15035397054470534092 : True := trivial
theorem cw.tw15049123542625464071 : True := trivial
theorem cw.tw150718097304624728 : True := trivial
theorem cw.tw15111483031490467662 : True := trivial
theorem cw.tw1517534825565237395 : True := trivial
theorem cw.tw15187549380642300617 : True := trivial
theorem cw.tw152319972654231069 : True := trivial
theorem cw.tw1529865262051575629 : True := trivial
theorem cw.tw15375457237347083154 : True := trivial
theorem cw.tw15426301682104869479 : True := trivial
theorem cw.tw15457151748251429605 : True := trivial
theorem cw.tw15510850327984767076 : True := trivial
theorem cw.tw15517905215004798913 : True := trivial
theorem cw.tw15570454731259054930 : True := trivial
theorem cw.tw15653090873756837908 : True := trivial
theorem cw.tw15738741339427707777 : True := trivial
theorem cw.tw15744843120750414045 : True := trivial
theorem cw.tw15759073248670287780 : True := trivial
theorem cw.tw15779534605396823208 : True := trivial
theorem cw.tw15849916761480331661 : True := trivial
theorem cw.tw1588020074795803128 : True := trivial
theorem cw.tw15940985733699833019 : True := trivial
theorem cw.tw1595741176964478890 : True := trivial
theorem cw.tw15992819923508515479 : True := trivial
theorem cw.tw16028573636967759883 : True := trivial
theorem cw.tw16034630539431576811 : True := trivial
theorem cw.tw16042547877381480675 : True := trivial
theorem cw.tw16166972867334128794 : True := trivial
theorem cw.tw16198640964549459898 : True := trivial
theorem cw.tw16205799052464293466 : True := trivial
theorem cw.tw16225993790663994938 : True := trivial
theorem cw.tw1631728204200095710 : True := trivial
theorem cw.tw16337725907850643880 : True := trivial
theorem cw.tw16438877246773014368 : True := trivial
theorem cw.tw16482581780040293502 : True := trivial
theorem cw.tw16494870174620098323 : True := trivial
theorem cw.tw16529872585032380816 : True := trivial
theorem cw.tw16562265817019663090 : True := trivial
theorem cw.tw16622779924370142736 : True := trivial
theorem cw.tw16693563322189900785 : True := trivial
theorem cw.tw16759438911624739596 : True := trivial
theorem cw.tw16824190548350425898 : True := trivial
theorem cw.tw16854029533801285256 : True := trivial
theorem cw.tw16910378091028242844 : True := trivial
theorem cw.tw16935115531500542280 : True := trivial
theorem cw.tw17028191164412650563 : True := trivial
theorem cw.tw17085326466948407615 : True := trivial
theorem cw.tw17262130787101969492 : True := trivial
theorem cw.tw1732343715881608574 : True := trivial
theorem cw.tw17387281983583371026 : True := trivial
theorem cw.tw17395816810168964604 : True := trivial
theorem cw.tw17432152182680101307 : True := trivial
theorem cw.tw17491939209671086633 : True := trivial
theorem cw.tw1753351074557523059 : True := trivial
theorem cw.tw17544317311361296971 : True := trivial
theorem cw.tw17563542283209619210 : True := trivial
theorem cw.tw17589651760236113906 : True := trivial
theorem cw.tw1760405048886711807 : True := trivial
theorem cw.tw17630338827588770586 : True := trivial
theorem cw.tw17643807563322946168 : True := trivial
theorem cw.tw17729162322777953753 : True := trivial
theorem cw.tw17783643503532799026 : True := trivial
theorem cw.tw17874169657292035396 : True := trivial
theorem cw.tw17931522994474728786 : True := trivial
theorem cw.tw18103413862792594834 : True := trivial
theorem cw.tw18130194285338661485 : True := trivial
theorem cw.tw18153323675266707290 : True := trivial
theorem cw.tw18160478938398004615 : True := trivial
theorem cw.tw18198759255475650804 : True := trivial
theorem cw.tw1827873298639845806 : True := trivial
theorem cw.tw18335864770729216273 : True := trivial
theorem cw.tw18351823754379492263 : True := trivial
theorem cw.tw18369400146589056343 : True := trivial
theorem cw.tw18428560998126663368 : True := trivial
theorem cw.tw1855280148956710301 : True := trivial
theorem cw.tw1866788658771475695 : True := trivial
theorem cw.tw1899915677272061241 : True := trivial
theorem cw.tw1917101114534506941 : True := trivial
theorem cw.tw1976542675867556708 : True := trivial
theorem cw.tw2031960088512844715 : True := trivial
theorem cw.tw2034847326169890389 : True := trivial
theorem cw.tw2041038859986201105 : True := trivial
theorem cw.tw206839277710335438 : True := trivial
theorem cw.tw207604500973351841 : True := trivial
theorem cw.tw2088735340262782289 : True := trivial
theorem cw.tw2130900402888968524 : True := trivial
theorem cw.tw2139275235861925300 : True := trivial
theorem cw.tw214405211444757829 : True := trivial
theorem cw.tw2165431362491003783 : True := trivial
theorem cw.tw2170339112981439272 : True := trivial
theorem cw.tw2245319242301140743 : True := trivial
theorem cw.tw2296967259863546239 : True := trivial
theorem cw.tw2377609647856190301 : True := trivial
theorem cw.tw2424036609782971184 : True := trivial
theorem cw.tw2452513298381069132 : True := trivial
theorem cw.tw2481894810794781481 : True := trivial
theorem cw.tw2492944627912260907 : True := trivial
theorem cw.tw2537711057378917062 : True := trivial
theorem cw.tw2546800512522163093 : True := trivial
theorem cw.tw2559185497009035100 : True := trivial
theorem cw.tw2582236779478434216 : True := trivial
theorem cw.tw2604304505159070462 : True := trivial
theorem cw.tw2636425540172471175 : True := trivial
theorem cw.tw2642075761509026456 : True := trivial
theorem cw.tw2823607854020130885 : True := trivial
theorem cw.tw2912337862129523016 : True := trivial
theorem cw.tw295466338093642964 : True := trivial
theorem cw.tw3022869472097559339 : True := trivial
theorem cw.tw3023204895809439811 : True := trivial
theorem cw.tw3050485629901723413 : True := trivial
theorem cw.tw308970408450293369 : True := trivial
theorem cw.tw3097201625896000712 : True := trivial
theorem cw.tw3100444119966152113 : True := trivial
theorem cw.tw3125641243754351071 : True := trivial
theorem cw.tw3129355525941028504 : True := trivial
theorem cw.tw31298285984684565 : True := trivial
theorem cw.tw3165284603678874039 : True := trivial
theorem cw.tw3168819232203767724 : True := trivial
theorem cw.tw3219064901496800493 : True := trivial
theorem cw.tw3235956839467742300 : True := trivial
theorem cw.tw3282836750741380540 : True := trivial
theorem cw.tw3298955843360003133 : True := trivial
theorem cw.tw3358073120794002988 : True := trivial
theorem cw.tw3375556859353004718 : True := trivial
theorem cw.tw3408429918949976814 : True := trivial
theorem cw.tw3560595304242491492 : True := trivial
theorem cw.tw3567684831946770877 : True := trivial
theorem cw.tw3614371357110042262 : True := trivial
theorem cw.tw3614702511577044390 : True := trivial
theorem cw.tw3664836258679660992 : True := trivial
theorem cw.tw3681731177612470467 : True := trivial
theorem cw.tw3779545472530704611 : True := trivial
theorem cw.tw3804928157389977681 : True := trivial
theorem cw.tw3860059829726791206 : True := trivial
theorem cw.tw3935473582681719712 : True := trivial
theorem cw.tw3943993154990397314 : True := trivial
theorem cw.tw4067265450448637331 : True := trivial
theorem cw.tw4114331005866857182 : True := trivial
theorem cw.tw4175879605228117226 : True := trivial
theorem cw.tw4319754535968967086 : True := trivial
theorem cw.tw4357126401250407683 : True := trivial
theorem cw.tw435978806095774757 : True := trivial
theorem cw.tw4419025850130639362 : True := trivial
theorem cw.tw4432251587439159602 : True := trivial
theorem cw.tw4486984800207835088 : True := trivial
theorem cw.tw4594457182599078764 : True := trivial
theorem cw.tw4652533487383075113 : True := trivial
theorem cw.tw4657666084184085436 : True := trivial
theorem cw.tw4674000768699361083 : True := trivial
theorem cw.tw4745555834983666509 : True := trivial
theorem cw.tw4754219302356205853 : True := trivial
theorem cw.tw4769817257947663983 : True := trivial
theorem cw.tw478726648789714012 : True := trivial
theorem cw.tw4921557877388104165 : True := trivial
theorem cw.tw4951841280732597803 : True := trivial
theorem cw.tw4997054509317957469 : True := trivial
theorem cw.tw5010585969020163057 : True := trivial
theorem cw.tw5122744651824193062 : True := trivial
theorem cw.tw5245493218853190803 : True := trivial
theorem cw.tw5265537290224106599 : True := trivial
theorem cw.tw5269793720656534030 : True := trivial
theorem cw.tw5318995997084724827 : True := trivial
theorem cw.tw5344891932697001038 : True := trivial
theorem cw.tw541702200365555811 : True := trivial
theorem cw.tw5446289514955409386 : True := trivial
theorem cw.tw5526725617500490228 : True := trivial
theorem cw.tw5565731333999854562 : True := trivial
theorem cw.tw5610338685648125367 : True := trivial
theorem cw.tw5680903237747551189 : True := trivial
theorem cw.tw57629765691920338 : True := trivial
theorem cw.tw5790161404388931817 : True := trivial
theorem cw.tw5960540646505071985 : True := trivial
theorem cw.tw5975198326110587854 : True := trivial
theorem cw.tw5985121463359028297 : True := trivial
theorem cw.tw6018009600850819237 : True := trivial
theorem cw.tw602248898015639982 : True := trivial
theorem cw.tw606616763052236337 : True := trivial
theorem cw.tw6113719702558589905 : True := trivial
theorem cw.tw6121131925498076511 : True := trivial
theorem cw.tw6403810052837582342 : True := trivial
theorem cw.tw6421626014405569153 : True := trivial
theorem cw.tw6539419282294539521 : True := trivial
theorem cw.tw6619987024997979267 : True := trivial
theorem cw.tw6625854827542380767 : True := trivial
theorem cw.tw6649243955452880809 : True := trivial
theorem cw.tw6669705861437036512 : True := trivial
theorem cw.tw6737585914892897284 : True := trivial
theorem cw.tw6743638181855550404 : True := trivial
theorem cw.tw6771049911761263549 : True := trivial
theorem cw.tw6847272019824127103 : True := trivial
theorem cw.tw68855574625089363 : True := trivial
theorem cw.tw6925770212547226674 : True := trivial
theorem cw.tw7020911041878803799 : True := trivial
theorem cw.tw7069858871986738619 : True := trivial
theorem cw.tw7088457872291430868 : True := trivial
theorem cw.tw7089592570360907263 : True := trivial
theorem cw.tw7114790414003337389 : True := trivial
theorem cw.tw7138865461323901148 : True := trivial
theorem cw.tw7181704436830080937 : True := trivial
theorem cw.tw7201222511497468304 : True := trivial
theorem cw.tw7209464811757235864 : True := trivial
theorem cw.tw7333113482920346693 : True := trivial
theorem cw.tw7361954070945319235 : True := trivial
theorem cw.tw7384157455045015651 : True := trivial
theorem cw.tw7417615246134051412 : True := trivial
theorem cw.tw7456562622790031247 : True := trivial
theorem cw.tw7509873989339655443 : True := trivial
theorem cw.tw7592274207237101366 : True := trivial
theorem cw.tw7627799410307197 : True := trivial
theorem cw.tw7657905660152132556 : True := trivial
theorem cw.tw7674018889070341683 : True := trivial
theorem cw.tw7778562511825277745 : True := trivial
theorem cw.tw7800144678589849697 : True := trivial
theorem cw.tw8048641291553349087 : True := trivial
theorem cw.tw820623831780502103 : True := trivial
theorem cw.tw82334272504649403 : True := trivial
theorem cw.tw8240279851119034267 : True := trivial
theorem cw.tw8265391832754436437 : True := trivial
theorem cw.tw8384915272945194035 : True := trivial
theorem cw.tw8404369427983028792 : True := trivial
theorem cw.tw8440572659557939377 : True := trivial
theorem cw.tw8449473995245419038 : True := trivial
theorem cw.tw8455966481309877803 : True := trivial
theorem cw.tw847920614276943871 : True := trivial
theorem cw.tw8536846032129448031 : True := trivial
theorem cw.tw8610043518512438269 : True := trivial
theorem cw.tw8646514453607415508 : True := trivial
theorem cw.tw8654890065351889988 : True := trivial
theorem cw.tw8662974199629892848 : True := trivial
theorem cw.tw8681520704858018953 : True := trivial
theorem cw.tw886166690863328485 : True := trivial
theorem cw.tw8882174364445781296 : True := trivial
theorem cw.tw8886525709245039632 : True := trivial
theorem cw.tw8982647976793043411 : True := trivial
theorem cw.tw9036864618746112827 : True := trivial
theorem cw.tw9089546751780752331 : True := trivial
theorem cw.tw9095837090777478225 : True := trivial
theorem cw.tw9122601410144511000 : True := trivial
theorem cw.tw9214817609474835982 : True := trivial
theorem cw.tw9262325061618202332 : True := trivial
theorem cw.tw9459749993489986317 : True := trivial
theorem cw.tw9461631633261132872 : True := trivial
theorem cw.tw9580786093286786816 : True := trivial
theorem cw.tw9680639695262415995 : True := trivial
theorem cw.tw9688325189225346270 : True := trivial
theorem cw.tw9702267900656169311 : True := trivial
theorem cw.tw9713538816024611350 : True := trivial
theorem cw.tw9732783464176380561 : True := trivial
theorem cw.tw9809503321613087508 : True := trivial
theorem cw.tw9819567901576955970 : True := trivial
theorem cw.tw9834586408147574216 : True := trivial
theorem cw.tw9919525273966334950 : True := trivial
theorem cw.tw2508255044705368994 : True := trivial
set_option Elab.async true in
set_option maxRecDepth 100000 in
set_option maxHeartbeats 8000000 in
theorem cw : PySem.Challenge.rw_np0044_01.Holds := by
  w_on
  o_law
  k_head
  (case hw => w_witness2)
  refine walk_to (q' := Mine.hd.view_1) (K' := Mine.hd.heap_1) _ rfl rfl ?_
  k_go0
  all_goals try k_fold
  k_steps
end Mine
theorem PySem.Challenge.cw_np0044_01_holds : PySem.Challenge.rw_np0044_01.Holds :=
  Mine.cw
