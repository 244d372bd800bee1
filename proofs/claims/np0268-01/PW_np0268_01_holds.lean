import PyProof.Rows.All
import Wide.All
import OpenK.AllK
import Wide.FinOn
import Lean
import PySem.Challenge.RW_np0268_01
open PySem PySem.W PyProof.Rows
set_option Elab.async false
namespace Mine
set_option maxRecDepth 100000
section
set_option maxHeartbeats 8000000
open_top hd for PySem.Challenge.rw_np0268_01
end
open PySem.Calls PyProof.V PySem.Spec
set_option linter.all false
-- part B1
/-- a dict of ints at d, its keys ks -/
def Stops (prog : Program) (w : World) (d : Addr) (o : Obj) (ks : List Int) : Prop :=
  (d == sysModules) = false ∧ ∃ kvs, o.IsDictOf (PySem.intKind prog w) kvs ∧ kvs.map (·.1) = ks

def putK (ks : List Int) (k : Int) : List Int := if k ∈ ks then ks else ks ++ [k]
def delK (ks : List Int) (k : Int) : List Int := ks.filter fun x => decide (x ≠ k)

theorem valueAt_isSome {kvs : List (Int × Value)} (k : Int) : (valueAt kvs k).isSome = decide (k ∈ kvs.map (·.1)) := by
  unfold valueAt
  rw [Option.isSome_map]
  induction kvs with
  | nil => rfl
  | cons p r ih =>
    rw [List.find?_cons]
    by_cases h : p.1 = k
    · simp [h]
    · have h' : ¬ k = p.1 := fun e => h e.symm
      simp only [h, decide_false, List.map_cons, List.mem_cons, h', false_or]
      exact ih
theorem stored_keys {kvs : List (Int × Value)} (k : Int) (v : Value) : (stored kvs k v).map (·.1) = putK (kvs.map (·.1)) k := by
  unfold stored putK
  have e : (kvs.any fun kv => decide (kv.1 = k)) = decide (k ∈ kvs.map (·.1)) := by
    induction kvs with
    | nil => rfl
    | cons p r ih =>
      simp only [List.any_cons, List.map_cons, List.mem_cons, ih, Bool.decide_or]
      congr 1
      exact decide_eq_decide.mpr eq_comm
  rw [e]
  by_cases h : k ∈ kvs.map (·.1)
  · rw [if_pos (by simpa using h), if_pos h, List.map_map]
    congr 1
    funext p
    show (if p.1 = k then (p.1, v) else p).1 = p.1
    split <;> rfl
  · rw [if_neg (by simpa using h), if_neg h]; simp
theorem without_keys {kvs : List (Int × Value)} (k : Int) : (without kvs k).map (·.1) = delK (kvs.map (·.1)) k := by
  unfold without delK
  rw [List.filter_map]
  rfl

section
variable {prog : Program} {w : World} {A : Around} {E : Value → Shared → Prop} {s : Shared} {h₀ : Heap} {L d : Addr} {m : Str → Option Value} {news : List (Addr × Obj)} {g : Obj → List (Addr × Obj)} {o : Obj} {ks : List Int} {k : Int} {tk : Tok} {v : Value}
theorem st_set {Q : Unit → Shared → Prop} (F : Fr h₀ L s.heap m) (N : News h₀ L s.heap news) (U : UpdF d o news g) (hd : Stops prog w d o ks) (hz : ks.length ≤ 10000)
    (h : ∀ h' o', Fr h₀ L h' m → News h₀ L h' (g o') → Stops prog w d o' (putK ks k) → Q () { s with heap := h', toks := s.toks + 1 }) : wpAny (model prog w) A (setItem (.ref d) (.int k tk) v) Q E s := by
  obtain ⟨lo, kvs, hd, rfl⟩ := hd
  rw [List.length_map] at hz
  exact kda_set F N U hd (intKind_is _ _ _ _) (by rw [sizeLine_eq]; omega) fun h' o' F' N' D' => h h' o' F' N' ⟨lo, _, D', stored_keys k v⟩
theorem st_new {env : Env} {pos : Pos} {Q : Value → Shared → Prop} (F : Fr h₀ L s.heap m) (N : News h₀ L s.heap news) (hbig : h₀.NoLimit)
    (h : ∀ d h' o, Fr h₀ L h' m → News h₀ L h' ((d, o) :: news) → (∀ p ∈ news, p.1 < d) → Stops prog w d o [] → Q (.ref d) { s with heap := h' }) : wpAny (model prog w) A (eval (.Dict [] [] pos) env) Q E s :=
  newDict_K (prog := prog) (w := w) F N hbig fun d h' o F' N' l lo _ _ hi _ => h d h' o F' N' l ⟨lo, [], hi, rfl⟩
theorem st_in {Q : Value → Shared → Prop} (N : News h₀ L s.heap news) (hp : (d, o) ∈ news) (hd : Stops prog w d o ks) (h : Q (.bool (decide (k ∈ ks))) { s with toks := s.toks + 1 }) :
    wpAny (model prog w) A (compareOp .In (.int k tk) (.ref d)) Q E s := by
  obtain ⟨lo, kvs, hd, rfl⟩ := hd
  exact kda_in N hp hd lo (intKind_is _ _ _ _) _ (valueAt_isSome k) h
theorem st_notin {Q : Value → Shared → Prop} (N : News h₀ L s.heap news) (hp : (d, o) ∈ news) (hd : Stops prog w d o ks) (h : Q (.bool (!decide (k ∈ ks))) { s with toks := s.toks + 1 }) :
    wpAny (model prog w) A (compareOp .NotIn (.int k tk) (.ref d)) Q E s := by
  obtain ⟨lo, kvs, hd, rfl⟩ := hd
  exact kdg_notin N hp hd lo (intKind_is _ _ _ _) _ (valueAt_isSome k) h
theorem st_popM {pl : Sem Bool} {Q : Value × List Value → Shared → Prop} (N : News h₀ L s.heap news) (hp : (d, o) ∈ news) (hd : Stops prog w d o ks) (h : Q (.builtin "dict.pop", [.ref d]) s) : wpAny (model prog w) A (getMethod (.ref d) "pop" pl) Q E s := by
  obtain ⟨lo, kvs, hd, rfl⟩ := hd
  have hD := kda_dict N hp hd
  exact getMethod_builtin hD.typeIs PySem.F.plainAttrs_dict PySem.F.slot_dict_pop PySem.F.type_dict_pop hD.mapOf.noDict h
theorem st_pop {Q : Value → Shared → Prop} (F : Fr h₀ L s.heap m) (N : News h₀ L s.heap news) (U : UpdF d o news g) (hd : Stops prog w d o ks) (hk : k ∈ ks) (hz : ks.length ≤ 10000)
    (h : ∀ h' o' v, Fr h₀ L h' m → News h₀ L h' (g o') → Stops prog w d o' (delK ks k) → Q v { s with heap := h', toks := s.toks + 1 }) : wpAny (model prog w) A (call (.builtin "dict.pop") [.ref d, .int k tk]) Q E s := by
  obtain ⟨lo, kvs, hd, rfl⟩ := hd
  rw [List.length_map] at hz
  obtain ⟨pre, post, rfl, hg, a, b⟩ := U.split
  have hm := N (d, o) (List.mem_append_right _ (.head _))
  have hD : s.heap.DictOf (PySem.intKind prog w) d kvs := Heap.dictOf_iff.mpr ⟨o, hm.1, hd⟩
  have hs : (valueAt kvs k).isSome = true := by rw [valueAt_isSome]; simpa using hk
  obtain ⟨v, hv⟩ := Option.isSome_iff_exists.mp hs
  refine call_meetsIn PySem.F.slot_dict_pop hD.typeIs PySem.F.entry_dict_pop (PySem.F.args_dict_pop_2 _ _) (meets_dict_pop_there (knd := PySem.intKind prog w) d (intKind_is prog w k tk) [] (.inl rfl) (by rfl)) ⟨kvs, v, hD, by rw [sizeLine_eq]; omega, hv, fun h' hmm hs' => ?_⟩
  obtain ⟨o', ho', hd'⟩ := Heap.dictOf_iff.mp hmm
  exact h h' o' v (F.change hs' hm.2.1 hm.2.2) (hg o' ▸ N.setIn a b hs' ho') ⟨lo, _, hd', without_keys k⟩
end
-- part B2
/-- an entry taken out of a ledger -/
inductive Pick (a : Addr) (o : Obj) : List (Addr × Obj) → List (Addr × Obj) → Prop
  | head {r} : Pick a o ((a, o) :: r) r
  | tail {p r r'} : Pick a o r r' → Pick a o (p :: r) (p :: r')
theorem Pick.mem {a : Addr} {o : Obj} {l r : List (Addr × Obj)} (h : Pick a o l r) : (a, o) ∈ l ∧ ∀ p ∈ r, p ∈ l := by
  induction h with
  | head => exact ⟨.head _, fun p hp => .tail _ hp⟩
  | tail _ ih => exact ⟨.tail _ ih.1, fun p hp => by
      rcases List.mem_cons.mp hp with rfl | hp
      · exact .head _
      · exact .tail _ (ih.2 p hp)⟩
theorem pick1 {h₀ h : Heap} {L a : Addr} {o : Obj} {news r : List (Addr × Obj)} (N : News h₀ L h news) (p1 : Pick a o news r) : News h₀ L h ((a, o) :: r) := fun p hp => by
  rcases List.mem_cons.mp hp with rfl | hp
  · exact N _ p1.mem.1
  · exact N p (p1.mem.2 p hp)
theorem pick2 {h₀ h : Heap} {L a b : Addr} {o o2 : Obj} {news r r2 : List (Addr × Obj)} (N : News h₀ L h news) (p1 : Pick a o news r) (p2 : Pick b o2 r r2) : News h₀ L h ((b, o2) :: (a, o) :: r2) := fun p hp => by
  rcases List.mem_cons.mp hp with rfl | hp
  · exact N _ (p1.mem.2 _ p2.mem.1)
  · rcases List.mem_cons.mp hp with rfl | hp
    · exact N _ p1.mem.1
    · exact N p (p1.mem.2 p (p2.mem.2 p hp))
theorem pick3 {h₀ h : Heap} {L a b c : Addr} {o o2 o3 : Obj} {news r r2 r3 : List (Addr × Obj)} (N : News h₀ L h news) (p1 : Pick a o news r) (p2 : Pick b o2 r r2) (p3 : Pick c o3 r2 r3) : News h₀ L h ((c, o3) :: (b, o2) :: (a, o) :: r3) := fun p hp => by
  rcases List.mem_cons.mp hp with rfl | hp
  · exact N _ (p1.mem.2 _ (p2.mem.2 _ p3.mem.1))
  · rcases List.mem_cons.mp hp with rfl | hp
    · exact N _ (p1.mem.2 _ p2.mem.1)
    · rcases List.mem_cons.mp hp with rfl | hp
      · exact N _ p1.mem.1
      · exact N p (p1.mem.2 p (p2.mem.2 p (p3.mem.2 p hp)))

theorem Pick.split {a : Addr} {o : Obj} {l r : List (Addr × Obj)} (h : Pick a o l r) : ∀ p ∈ l, p = (a, o) ∨ p ∈ r := by
  induction h with
  | head => exact fun p hp => (List.mem_cons.mp hp)
  | tail _ ih =>
    intro p hp
    rcases List.mem_cons.mp hp with rfl | hp
    · exact .inr (.head _)
    · exact (ih p hp).imp id fun h => .tail _ h
theorem unpick1 {h₀ h : Heap} {L a : Addr} {o : Obj} {news r : List (Addr × Obj)} (N : News h₀ L h ((a, o) :: r)) (p1 : Pick a o news r) : News h₀ L h news := fun p hp => by
  rcases p1.split p hp with rfl | hp
  · exact N _ (.head _)
  · exact N _ (.tail _ hp)
theorem unpick2 {h₀ h : Heap} {L a b : Addr} {o o2 : Obj} {news r r2 : List (Addr × Obj)} (N : News h₀ L h ((b, o2) :: (a, o) :: r2)) (p1 : Pick a o news r) (p2 : Pick b o2 r r2) : News h₀ L h news := fun p hp => by
  rcases p1.split p hp with rfl | hp
  · exact N _ (.tail _ (.head _))
  · rcases p2.split p hp with rfl | hp
    · exact N _ (.head _)
    · exact N _ (.tail _ (.tail _ hp))
theorem unpick3 {h₀ h : Heap} {L a b c : Addr} {o o2 o3 : Obj} {news r r2 r3 : List (Addr × Obj)} (N : News h₀ L h ((c, o3) :: (b, o2) :: (a, o) :: r3)) (p1 : Pick a o news r) (p2 : Pick b o2 r r2) (p3 : Pick c o3 r2 r3) : News h₀ L h news := fun p hp => by
  rcases p1.split p hp with rfl | hp
  · exact N _ (.tail _ (.tail _ (.head _)))
  · rcases p2.split p hp with rfl | hp
    · exact N _ (.tail _ (.head _))
    · rcases p3.split p hp with rfl | hp
      · exact N _ (.head _)
      · exact N _ (.tail _ (.tail _ (.tail _ hp)))

theorem unpick3c {h₀ h : Heap} {L a b c : Addr} {o o2 o3 : Obj} {q : Addr × Obj} {news r r2 r3 : List (Addr × Obj)} (N : News h₀ L h (q :: (c, o3) :: (b, o2) :: (a, o) :: r3)) (p1 : Pick a o news r) (p2 : Pick b o2 r r2) (p3 : Pick c o3 r2 r3) : News h₀ L h (q :: news) := fun p hp => by
  rcases List.mem_cons.mp hp with rfl | hp
  · exact N _ (.head _)
  · exact unpick3 (kst_newsOf N fun _ h => .tail _ h) p1 p2 p3 p hp
theorem lt_unpick3 {D a b c : Addr} {o o2 o3 : Obj} {news r r2 r3 : List (Addr × Obj)} (p1 : Pick a o news r) (p2 : Pick b o2 r r2) (p3 : Pick c o3 r2 r3) (h1 : @LT.lt Nat _ a D) (h2 : @LT.lt Nat _ b D) (h3 : @LT.lt Nat _ c D) (h4 : AllLt D r3) : ∀ q ∈ news, q.1 < D := fun p hp => by
  rcases p1.split p hp with rfl | hp
  · exact h1
  · rcases p2.split p hp with rfl | hp
    · exact h2
    · rcases p3.split p hp with rfl | hp
      · exact h3
      · exact kst_ltOf h4 p hp

theorem unpickP {h₀ h : Heap} {L a b c : Addr} {o o2 o3 : Obj} {news r r2 r3 : List (Addr × Obj)} (pre : List (Addr × Obj)) (N : News h₀ L h (pre ++ (c, o3) :: (b, o2) :: (a, o) :: r3)) (p1 : Pick a o news r) (p2 : Pick b o2 r r2) (p3 : Pick c o3 r2 r3) : News h₀ L h (pre ++ news) := fun p hp => by
  rcases List.mem_append.mp hp with hp | hp
  · exact N _ (List.mem_append.mpr (.inl hp))
  · exact unpick3 (kst_newsOf N fun _ h => List.mem_append.mpr (.inr h)) p1 p2 p3 p hp

theorem pickC {h₀ h : Heap} {L a : Addr} {o : Obj} {r r' : List (Addr × Obj)} (pre : List (Addr × Obj)) (N : News h₀ L h (pre ++ r)) (p1 : Pick a o r r') : News h₀ L h ((a, o) :: (pre ++ r')) := fun p hp => by
  rcases List.mem_cons.mp hp with rfl | hp
  · exact N _ (List.mem_append.mpr (.inr p1.mem.1))
  · rcases List.mem_append.mp hp with hp | hp
    · exact N _ (List.mem_append.mpr (.inl hp))
    · exact N _ (List.mem_append.mpr (.inr (p1.mem.2 p hp)))

def AllNe (a : Nat) : List Nat → Prop
  | [] => True
  | b :: r => @Ne Nat a b ∧ AllNe a r
theorem AllNe.mem {a : Nat} : ∀ {l : List Nat}, AllNe a l → ∀ b ∈ l, a ≠ b
  | _ :: _, h, _, .head _ => h.1
  | _ :: _, h, _, .tail _ m => AllNe.mem h.2 _ m
/-- D is none of a ledger's addresses (hidden from omega) -/
def OffD (D : Nat) (l : List (Addr × Obj)) : Prop := ∀ q ∈ l, @Ne Nat q.1 D
theorem offd_r {a b : Nat} {o : Obj} {l : List (Addr × Obj)} (h : OffD b l) (m : (a, o) ∈ l) : a ≠ b := h _ m
theorem offd_l {a b : Nat} {o : Obj} {l : List (Addr × Obj)} (h : OffD a l) (m : (b, o) ∈ l) : a ≠ b := fun e => h _ m e.symm
theorem offd_tail {D : Nat} {l r : List (Addr × Obj)} (h : OffD D l) (m : ∀ p ∈ r, p ∈ l) : ∀ p ∈ r, p.1 ≠ D := fun p hp => h p (m p hp)
/-- the addresses of a list differ, each from each (hidden from omega) -/
def AllDif : List Nat → Prop
  | [] => True
  | a :: r => AllNe a r ∧ AllDif r
theorem sep1 {a b : Nat} {r : List Nat} (h : b ∈ r) : AllDif (a :: r) → a ≠ b := fun k => AllNe.mem k.1 b h
theorem sep2 {a b : Nat} {r : List Nat} (h : a ∈ r) : AllDif (b :: r) → a ≠ b := fun k e => AllNe.mem k.1 a h e.symm
theorem sep3 {a b p : Nat} {r : List Nat} (h : AllDif r → a ≠ b) : AllDif (p :: r) → a ≠ b := fun k => h k.2
theorem dif_use {a b : Nat} {l : List Nat} (h : AllDif l) (k : AllDif l → a ≠ b) : a ≠ b := k h
theorem off_nil {adr : List Addr} : OwnOff [] adr := fun _ hp => nomatch hp
theorem off_cons {a : Addr} {o : Obj} {r : List (Addr × Obj)} {adr : List Addr} (h : AllNe a adr) (k : OwnOff r adr) : OwnOff ((a, o) :: r) adr := fun p hp => by
  rcases List.mem_cons.mp hp with rfl | hp
  · exact fun b hb => AllNe.mem h b hb
  · exact k p hp
theorem offv_nil {r : List (Addr × Obj)} : OwnOff r [] := fun _ _ _ hb => nomatch hb
theorem offv_cons {b : Addr} {r : List (Addr × Obj)} {adr : List Addr} (h : ∀ p ∈ r, p.1 ≠ b) (k : OwnOff r adr) : OwnOff r (b :: adr) := fun p hp c hc => by
  rcases List.mem_cons.mp hc with rfl | hc
  · exact h p hp
  · exact k p hp c hc
theorem offv_lt {b : Addr} {r : List (Addr × Obj)} (h : AllLt b r) : ∀ p ∈ r, p.1 ≠ b := fun p hp => Nat.ne_of_lt (kst_ltOf h p hp)
theorem offv_lt' {b : Addr} {r : List (Addr × Obj)} (h : ∀ p ∈ r, p.1 < b) : ∀ p ∈ r, p.1 ≠ b := fun p hp => Nat.ne_of_lt (h p hp)

/-- a turn's end: the state c', the iterator as it stands -/
def TurnEnd {σ : Type} (h₀ : Heap) (L : Addr) (x : Str) (Led : σ → List (Addr × Obj)) (mf : σ → Str → Option Value) (Inv : σ → Prop) (I : Addr) (io : Obj) (s₁ s₂ : Shared) : Prop :=
  ∃ (c : σ) (h' : Heap) (tk : Nat) (m' : Str → Option Value) (news' : List (Addr × Obj)), s₂ = { s₁ with heap := h', toks := tk } ∧ Fr h₀ L h' m' ∧ News h₀ L h' news' ∧ (I, io) ∈ news' ∧ (∀ p ∈ Led c, p ∈ news') ∧
    (∀ p ∈ Led c, @Ne Nat p.1 I) ∧ (∀ z, z ≠ x → m' z = mf c z) ∧ Inv c
def TurnPost {σ : Type} (h₀ : Heap) (L : Addr) (x : Str) (Led : σ → List (Addr × Obj)) (mf : σ → Str → Option Value) (Inv : σ → Prop) (I : Addr) (io : Obj) (s₁ : Shared) (Q : Flow → Shared → Prop) (f : Flow) (s₂ : Shared) : Prop :=
  match f with
  | .ret v => Q (.ret v) s₂
  | .brk => Q .next s₂
  | _ => TurnEnd h₀ L x Led mf Inv I io s₁ s₂

theorem turnEnd_of {σ : Type} {h₀ : Heap} {L : Addr} {x : Str} {Led : σ → List (Addr × Obj)} {mf : σ → Str → Option Value} {Inv : σ → Prop} {I : Addr} {io : Obj} {s₁ : Shared} (c : σ) {h' : Heap} {tk : Nat} {m' : Str → Option Value} {news' : List (Addr × Obj)}
    (F : Fr h₀ L h' m') (N : News h₀ L h' news') (hI : (I, io) ∈ news') (hn : ∀ p ∈ Led c, p ∈ news') (ha : ∀ p ∈ Led c, @Ne Nat p.1 I) (hm : ∀ z, z ≠ x → m' z = mf c z) (hi : Inv c) :
    TurnEnd h₀ L x Led mf Inv I io s₁ { s₁ with heap := h', toks := tk } := ⟨c, h', tk, m', news', rfl, F, N, hI, hn, ha, hm, hi⟩

theorem turnEnd_cons {σ : Type} {h₀ : Heap} {L : Addr} {x : Str} {Led : σ → List (Addr × Obj)} {mf : σ → Str → Option Value} {Inv : σ → Prop} {I : Addr} {io : Obj} {s₁ : Shared} {Q : Flow → Shared → Prop} (c : σ) {h' : Heap} {tk : Nat} {v : Option Value}
    (F : Fr h₀ L h' (fun y => if y = x then v else mf c y)) (N : News h₀ L h' ((I, io) :: Led c)) (ha : ∀ p ∈ Led c, @Ne Nat p.1 I) (hi : Inv c) :
    TurnPost h₀ L x Led mf Inv I io s₁ Q .next { s₁ with heap := h', toks := tk } := turnEnd_of c F N (.head _) (fun _ hp => .tail _ hp) ha (fun z hz => by simp [hz]) hi

section
variable {prog : Program} {w : World} {A : Around} {E : Value → Shared → Prop} {s : Shared} {env : Env} {h₀ : Heap} {x : Str} {body : List Stmt} {Q : Flow → Shared → Prop}

theorem fr_ext {L : Addr} {h : Heap} {m m' : Str → Option Value} (e : ∀ z, m z = m' z) (F : Fr h₀ L h m) : Fr h₀ L h m' := (funext e : m = m') ▸ F

theorem loopG {σ : Type} {I : Addr} {fp : List Addr} {n : Nat} {P : Nat → Value → Prop} {St : Nat → Heap → Prop} (Led : σ → List (Addr × Obj)) (mf : σ → Str → Option Value) (Inv : Nat → σ → Prop) (c₀ : σ)
    (W : Walks prog w A I fp [I] n P St) (live : ∀ i h, St i h → ∃ o, h.get? I = some o) (hLf : env.locals ∉ fp) (hI0 : h₀.get? I = none)
    (hown : ∀ (c : σ) (b : Addr), b ∈ fp → b = I ∨ (∃ o, h₀.get? b = some o) ∨ ∃ o, (b, o) ∈ Led c ∧ ∀ c', (b, o) ∈ Led c')
    (hst : St 0 s.heap) (F : Fr h₀ env.locals s.heap (mf c₀)) (N : News h₀ env.locals s.heap (Led c₀)) (hnI : ∀ p ∈ Led c₀, @Ne Nat p.1 I) (hj : Inv 0 c₀)
    (turn : ∀ i v (c : σ) h tk io, i < n → P i v → Inv i c → (∀ p ∈ Led c, @Ne Nat p.1 I) → Fr h₀ env.locals h (fun y => if y = x then some v else mf c y) → News h₀ env.locals h ((I, io) :: Led c) →
      wpAny (model prog w) A (execs body env) (TurnPost h₀ env.locals x Led mf (Inv (i + 1)) I io { s with heap := h, toks := tk } Q) E { s with heap := h, toks := tk })
    (done : ∀ (c : σ) u h tk, Inv n c → Fr h₀ env.locals h (fun y => if y = x then u else mf c y) → News h₀ env.locals h (Led c) → Q .next { s with heap := h, toks := tk }) :
    LoopAtV prog w A h₀ env x body Q E (.ref I) s := by
  let J : Nat → (Str → Option Value) → List (Addr × Obj) → Prop := fun i m nx => ∃ c : σ, nx = Led c ∧ (∀ z, z ≠ x → m z = mf c z) ∧ Inv i c
  refine ⟨I, fp, [I], n, P, St, mf c₀, Led c₀, J, rfl, W, hLf, ?_, ?_, hst, F, N, ⟨c₀, rfl, fun _ _ => rfl, hj⟩, ?_, ?_⟩
  · intro b hb; rw [List.mem_singleton.mp hb]; exact hI0
  · intro p hp hI; exact hnI p hp (List.mem_singleton.mp hI)
  · rintro i v m₁ news₁ s₁ own ⟨hh', tk', rfl⟩ hin hP ⟨c, rfl, hm, hJ⟩ hoff hsub hget hall hst₁ F₁ N₁
    obtain ⟨io, hio⟩ := live _ _ hst₁
    have hIown : (I, io) ∈ own := hall I (W.sub I (by simp)) hI0 io hio
    have hne : ∀ p ∈ Led c, @Ne Nat p.1 I := fun p hp e => hoff p hp (List.mem_singleton.mpr e)
    have F₂ : Fr h₀ env.locals hh' (fun y => if y = x then some v else mf c y) := fr_ext (fun z => by by_cases hz : z = x <;> simp [hz, hm]) F₁
    have N₂ : News h₀ env.locals hh' ((I, io) :: Led c) := fun p hp => by
      rcases List.mem_cons.mp hp with rfl | hp
      · exact N₁ _ (List.mem_append.mpr (.inl hIown))
      · exact N₁ p (List.mem_append.mpr (.inr hp))
    refine wpAny_mono (turn i v c hh' tk' io hin hP hJ hne F₂ N₂) (fun f s₂ q => ?_) fun _ _ e => e
    have fin : TurnEnd h₀ env.locals x Led mf (Inv (i + 1)) I io { s with heap := hh', toks := tk' } s₂ → LoopStepU h₀ env.locals [I] own (J (i + 1)) { s with heap := hh', toks := tk' } .next s₂ := by
      rintro ⟨c', h', tk, m', news', e, F', N', hI', hn', hne', hm', hi'⟩
      refine ⟨rfl, h', tk, m', Led c', e, F', fun p hp => ?_, fun p hp hq => hne' p hp (List.mem_singleton.mp hq), c', rfl, hm', hi'⟩
      rcases List.mem_append.mp hp with hp | hp
      · have hg : hh'.get? p.1 = some p.2 := hget p hp
        rcases hown c p.1 (hsub p hp) with e1 | ⟨o, e1⟩ | ⟨o, e1, e2⟩
        · have : p = (I, io) := Prod.ext e1 (by rw [e1, hio] at hg; exact (Option.some.inj hg).symm)
          rw [this]; exact N' _ hI'
        · have := (N₁ p (List.mem_append.mpr (.inl hp))).2.2
          rw [e1] at this; cases this
        · have h2 : hh'.get? p.1 = some o := (N₂ (p.1, o) (List.mem_cons_of_mem _ e1)).1
          have : p = (p.1, o) := Prod.ext rfl (by rw [h2] at hg; exact (Option.some.inj hg).symm)
          rw [this]; exact N' _ (hn' _ (e2 c'))
      · exact N' p (hn' p hp)
    cases f with
    | ret v => exact .ret q
    | brk => exact .brk q
    | next => exact .next (fin q)
    | cont => exact .cont (fin q)
  · rintro h' tk m' news' F' N' _ ⟨c, rfl, hm, hi⟩
    exact done c (m' x) h' tk hi (fr_ext (fun z => by by_cases hz : z = x <;> simp [hz, hm]) F') N'

/-- over a range, any step -/
theorem loopRange {σ : Type} {r : Addr} {a₀ b₀ st : Int} {t₀ u₀ v₀ : Tok} {n : Nat} (Led : σ → List (Addr × Obj)) (mf : σ → Str → Option Value) (Inv : Nat → σ → Prop) (c₀ : σ)
    (hh : A.handled = none) (hr : IsRange s.heap r a₀ b₀ st t₀ u₀ v₀) (hsmall : Builtin.Range.small a₀ b₀ st = true) (hn : Builtin.Range.rangeSize a₀ b₀ st = (n : Int))
    (F : Fr h₀ env.locals s.heap (mf c₀)) (N : News h₀ env.locals s.heap (Led c₀)) (hj : Inv 0 c₀)
    (turn : ∀ (i : Nat) t (c : σ) (I : Addr) h tk io, i < n → Inv i c → (∀ p ∈ Led c, @Ne Nat p.1 I) → Fr h₀ env.locals h (fun y => if y = x then some (.int (a₀ + (i : Int) * st) t) else mf c y) → News h₀ env.locals h ((I, io) :: Led c) →
      wpAny (model prog w) A (execs body env) (TurnPost h₀ env.locals x Led mf (Inv (i + 1)) I io { s with heap := h, toks := tk } Q) E { s with heap := h, toks := tk })
    (done : ∀ (c : σ) u h tk, Inv n c → Fr h₀ env.locals h (fun y => if y = x then u else mf c y) → News h₀ env.locals h (Led c) → Q .next { s with heap := h, toks := tk }) :
    wpAny (model prog w) A (pyIter (.ref r)) (fun it s₂ => LoopAtV prog w A h₀ env x body Q E it s₂) E s := by
  refine wpAny_pyIter_range hr hsmall ?_
  have W := Walks.range (prog := prog) (w := w) hh s.heap.objs.size a₀ st n
  refine loopG Led mf Inv c₀ W ?_ ?_ ?_ ?_ (by show IsRangeIter _ _ _ _ _; rw [hn]; simpa using Heap.get?_push_size _ rfl) (F.push _) (fun p hp => ⟨Heap.get?_push_of_some _ (N p hp).1, (N p hp).2⟩) ?_ hj ?_ ?_
  · exact fun i h st' => ⟨_, st'⟩
  · intro hm
    exact absurd F.ns.lt ((List.mem_singleton.mp hm) ▸ Nat.lt_irrefl _)
  · exact next_is_new F
  · exact fun c b hb => .inl (List.mem_singleton.mp hb)
  · intro p hp hI
    exact absurd (Heap.lt_size (N p hp).1) (by rw [show p.1 = s.heap.objs.size from hI]; exact Nat.lt_irrefl _)
  · rintro i v c h tk io hin ⟨t, rfl⟩ hi hne F₁ N₁
    exact turn i t c _ h tk io hin hi hne F₁ N₁
  · exact done

/-- over a list of ints of the ledger -/
theorem loopList {σ : Type} {l : Addr} {vs : List Value} {ns : List Int} {nn : Nat} (Led : σ → List (Addr × Obj)) (mf : σ → Str → Option Value) (Inv : Nat → σ → Prop) (c₀ : σ)
    (hh : A.handled = none) (hl : ∀ c : σ, (l, listOf vs.toArray nn) ∈ Led c) (hi : IntsAre vs ns)
    (F : Fr h₀ env.locals s.heap (mf c₀)) (N : News h₀ env.locals s.heap (Led c₀)) (hj : Inv 0 c₀)
    (turn : ∀ (i : Nat) k t (c : σ) (I : Addr) h tk io, ns[i]? = some k → Inv i c → (∀ p ∈ Led c, @Ne Nat p.1 I) → Fr h₀ env.locals h (fun y => if y = x then some (.int k t) else mf c y) → News h₀ env.locals h ((I, io) :: Led c) →
      wpAny (model prog w) A (execs body env) (TurnPost h₀ env.locals x Led mf (Inv (i + 1)) I io { s with heap := h, toks := tk } Q) E { s with heap := h, toks := tk })
    (done : ∀ (c : σ) u h tk, Inv ns.length c → Fr h₀ env.locals h (fun y => if y = x then u else mf c y) → News h₀ env.locals h (Led c) → Q .next { s with heap := h, toks := tk }) :
    wpAny (model prog w) A (pyIter (.ref l)) (fun it s₂ => LoopAtV prog w A h₀ env x body Q E it s₂) E s := by
  have hol : s.heap.get? l = some (listOf vs.toArray nn) := (N _ (hl c₀)).1
  have hls : s.heap.IsList l vs.toArray := ⟨_, hol, rfl, nn, rfl⟩
  have hne : l ≠ s.heap.objs.size := Nat.ne_of_lt (Heap.lt_size hol)
  refine wpAny_pyIter_list hls ?_
  have W := Walks.list (prog := prog) (w := w) hh s.heap.objs.size l hne vs.toArray
  have hlen : vs.toArray.size = ns.length := by simp [hi.length]
  rw [hlen] at W
  refine loopG Led mf Inv c₀ W ?_ ?_ ?_ ?_ ⟨⟨_, Heap.get?_push_size _ rfl, rfl, rfl⟩, hls.at fun o e => Heap.get?_push_of_some _ e⟩ (F.push _) (fun p hp => ⟨Heap.get?_push_of_some _ (N p hp).1, (N p hp).2⟩) ?_ hj ?_ ?_
  · rintro i h ⟨⟨o, ho, _⟩, _⟩; exact ⟨o, ho⟩
  · intro hm
    rcases List.mem_cons.mp hm with e | hm
    · exact absurd F.ns.lt (e ▸ Nat.lt_irrefl _)
    · exact (N _ (hl c₀)).2.1 ((List.mem_singleton.mp hm).symm)
  · exact next_is_new F
  · intro c b hb
    rcases List.mem_cons.mp hb with e | hb
    · exact .inl e
    · rw [List.mem_singleton.mp hb]; exact .inr (.inr ⟨_, hl c, hl⟩)
  · intro p hp hI
    exact absurd (Heap.lt_size (N p hp).1) (by rw [show p.1 = s.heap.objs.size from hI]; exact Nat.lt_irrefl _)
  · rintro i v c h tk io hin hP hi' hne F₁ N₁
    obtain ⟨t, hx⟩ := hi.get i ns[i] (by simp [hin])
    have hv : v = .int ns[i] t := by
      have hP' : vs[i]? = some v := by simpa using hP
      rw [hx] at hP'; exact (Option.some.inj hP').symm
    subst hv
    exact turn i ns[i] t c _ h tk io (by simp [hin]) hi' hne F₁ N₁
  · exact done

theorem loopRangeD {r d : Addr} {a₀ b₀ st : Int} {t₀ u₀ v₀ : Tok} {n : Nat} {o₀ : Obj} {tail : List (Addr × Obj)} {m₀ : Str → Option Value} (Inv : Nat → Obj → List Int → Prop) (ks₀ : List Int)
    (hh : A.handled = none) (hr : IsRange s.heap r a₀ b₀ st t₀ u₀ v₀) (hsmall : Builtin.Range.small a₀ b₀ st = true) (hn : Builtin.Range.rangeSize a₀ b₀ st = (n : Int))
    (F : Fr h₀ env.locals s.heap m₀) (N : News h₀ env.locals s.heap ((d, o₀) :: tail)) (hj : Inv 0 o₀ ks₀)
    (turn : ∀ (i : Nat) t o ks (I : Addr) h tk io, i < n → Inv i o ks → @Ne Nat d I → (∀ p ∈ tail, @Ne Nat p.1 I) → Fr h₀ env.locals h (fun y => if y = x then some (.int (a₀ + (i : Int) * st) t) else m₀ y) → News h₀ env.locals h ((I, io) :: (d, o) :: tail) →
      wpAny (model prog w) A (execs body env) (TurnPost h₀ env.locals x (fun c : Obj × List Int => (d, c.1) :: tail) (fun _ => m₀) (fun c => Inv (i + 1) c.1 c.2) I io { s with heap := h, toks := tk } Q) E { s with heap := h, toks := tk })
    (done : ∀ o ks u h tk, Inv n o ks → Fr h₀ env.locals h (fun y => if y = x then u else m₀ y) → News h₀ env.locals h ((d, o) :: tail) → Q .next { s with heap := h, toks := tk }) :
    wpAny (model prog w) A (pyIter (.ref r)) (fun it s₂ => LoopAtV prog w A h₀ env x body Q E it s₂) E s :=
  loopRange (σ := Obj × List Int) (fun c => (d, c.1) :: tail) (fun _ => m₀) (fun i c => Inv i c.1 c.2) (o₀, ks₀) hh hr hsmall hn F N hj
    (fun i t c I h tk io hi hI hne F₁ N₁ => turn i t c.1 c.2 I h tk io hi hI (hne _ (.head _)) (fun p hp => hne p (.tail _ hp)) F₁ N₁) fun c u h tk hI F₁ N₁ => done c.1 c.2 u h tk hI F₁ N₁
theorem loopListD {l d : Addr} {vs : List Value} {ns : List Int} {nn : Nat} {o₀ : Obj} {tail : List (Addr × Obj)} {m₀ : Str → Option Value} (Inv : Nat → Obj → List Int → Prop) (ks₀ : List Int)
    (hh : A.handled = none) (hl : (l, listOf vs.toArray nn) ∈ tail) (hi : IntsAre vs ns)
    (F : Fr h₀ env.locals s.heap m₀) (N : News h₀ env.locals s.heap ((d, o₀) :: tail)) (hj : Inv 0 o₀ ks₀)
    (turn : ∀ (i : Nat) k t o ks (I : Addr) h tk io, ns[i]? = some k → Inv i o ks → @Ne Nat d I → (∀ p ∈ tail, @Ne Nat p.1 I) → Fr h₀ env.locals h (fun y => if y = x then some (.int k t) else m₀ y) → News h₀ env.locals h ((I, io) :: (d, o) :: tail) →
      wpAny (model prog w) A (execs body env) (TurnPost h₀ env.locals x (fun c : Obj × List Int => (d, c.1) :: tail) (fun _ => m₀) (fun c => Inv (i + 1) c.1 c.2) I io { s with heap := h, toks := tk } Q) E { s with heap := h, toks := tk })
    (done : ∀ o ks u h tk, Inv ns.length o ks → Fr h₀ env.locals h (fun y => if y = x then u else m₀ y) → News h₀ env.locals h ((d, o) :: tail) → Q .next { s with heap := h, toks := tk }) :
    wpAny (model prog w) A (pyIter (.ref l)) (fun it s₂ => LoopAtV prog w A h₀ env x body Q E it s₂) E s :=
  loopList (σ := Obj × List Int) (fun c => (d, c.1) :: tail) (fun _ => m₀) (fun i c => Inv i c.1 c.2) (o₀, ks₀) hh (fun _ => .tail _ hl) hi F N hj
    (fun i k t c I h tk io hi hI hne F₁ N₁ => turn i k t c.1 c.2 I h tk io hi hI (hne _ (.head _)) (fun p hp => hne p (.tail _ hp)) F₁ N₁) fun c u h tk hI F₁ N₁ => done c.1 c.2 u h tk hI F₁ N₁
theorem loopListV {l : Addr} {vs : List Value} {ns : List Int} {nn : Nat} {news : List (Addr × Obj)} {m₀ : Str → Option Value} {a₀ : Int} {t₀ : Tok} (y : Str) (Inv : Nat → Int → Prop)
    (hh : A.handled = none) (hl : (l, listOf vs.toArray nn) ∈ news) (hi : IntsAre vs ns) (F : Fr h₀ env.locals s.heap m₀) (hy : m₀ y = some (.int a₀ t₀)) (N : News h₀ env.locals s.heap news) (hj : Inv 0 a₀)
    (turn : ∀ (i : Nat) k t a ta (I : Addr) h tk io, ns[i]? = some k → Inv i a → (∀ p ∈ news, @Ne Nat p.1 I) → Fr h₀ env.locals h (fun z => if z = x then some (.int k t) else if z = y then some (.int a ta) else m₀ z) → News h₀ env.locals h ((I, io) :: news) →
      wpAny (model prog w) A (execs body env) (TurnPost h₀ env.locals x (fun _ : Int × Tok => news) (fun c z => if z = y then some (.int c.1 c.2) else m₀ z) (fun c => Inv (i + 1) c.1) I io { s with heap := h, toks := tk } Q) E { s with heap := h, toks := tk })
    (done : ∀ a ta u h tk, Inv ns.length a → Fr h₀ env.locals h (fun z => if z = x then u else if z = y then some (.int a ta) else m₀ z) → News h₀ env.locals h news → Q .next { s with heap := h, toks := tk }) :
    wpAny (model prog w) A (pyIter (.ref l)) (fun it s₂ => LoopAtV prog w A h₀ env x body Q E it s₂) E s :=
  loopList (σ := Int × Tok) (fun _ => news) (fun c z => if z = y then some (.int c.1 c.2) else m₀ z) (fun i c => Inv i c.1) (a₀, t₀) hh (fun _ => hl) hi
    (fr_ext (fun z => by by_cases hz : z = y <;> simp [hz, hy]) F) N hj (fun i k t c I h tk io hi hI hne F₁ N₁ => turn i k t c.1 c.2 I h tk io hi hI hne F₁ N₁) fun c u h tk hI F₁ N₁ => done c.1 c.2 u h tk hI F₁ N₁
theorem turnEndV {y : Str} {news : List (Addr × Obj)} {m₀ : Str → Option Value} {Inv : Int × Tok → Prop} {I : Addr} {io : Obj} {s₁ : Shared} {L : Addr} (a : Int) (ta : Tok) {h' : Heap} {tk : Nat} {m' : Str → Option Value} {news' : List (Addr × Obj)}
    (F : Fr h₀ L h' m') (N : News h₀ L h' news') (hI : (I, io) ∈ news') (ht : ∀ p ∈ news, p ∈ news') (e2 : ∀ p ∈ news, @Ne Nat p.1 I) (hy : m' y = some (.int a ta)) (hm : ∀ z, z ≠ x → z ≠ y → m' z = m₀ z) (hi : Inv (a, ta)) :
    TurnPost h₀ L x (fun _ : Int × Tok => news) (fun c z => if z = y then some (.int c.1 c.2) else m₀ z) Inv I io s₁ Q .next { s₁ with heap := h', toks := tk } :=
  turnEnd_of (a, ta) F N hI ht e2 (fun z hz => by by_cases h : z = y <;> simp [h, hy, hm z hz]) hi

theorem turnEndD {d : Addr} {tail : List (Addr × Obj)} {m₀ : Str → Option Value} {Inv : Obj × List Int → Prop} {I : Addr} {io : Obj} {s₁ : Shared} {L : Addr} {o' : Obj} (ks' : List Int) {h' : Heap} {tk : Nat} {m' : Str → Option Value} {news' : List (Addr × Obj)}
    (F : Fr h₀ L h' m') (N : News h₀ L h' news') (hI : (I, io) ∈ news') (hd : (d, o') ∈ news') (ht : ∀ p ∈ tail, p ∈ news') (e1 : @Ne Nat d I) (e2 : ∀ p ∈ tail, @Ne Nat p.1 I) (hm : ∀ z, z ≠ x → m' z = m₀ z) (hi : Inv (o', ks')) :
    TurnPost h₀ L x (fun c : Obj × List Int => (d, c.1) :: tail) (fun _ => m₀) Inv I io s₁ Q .next { s₁ with heap := h', toks := tk } :=
  turnEnd_of (o', ks') F N hI (fun p hp => by
    rcases List.mem_cons.mp hp with rfl | hp
    · exact hd
    · exact ht p hp) (fun p hp => by
    rcases List.mem_cons.mp hp with rfl | hp
    · exact e1
    · exact e2 p hp) hm hi

def Held (P : Prop) : Prop := P
theorem held_of {P : Prop} (h : Held P) : P := h
theorem held_at {M : Model} {A : Around} (f : Addr) {vs : List Value} {Q E : Value → Shared → Prop} {s : Shared} (h : Held (wpAny M A (call (.ref f) vs) Q E s)) : wpAny M A (call (.ref f) vs) Q E s := h

def ScanEnd (h₀ : Heap) (L : Addr) (x : Str) (m₀ : Str → Option Value) (news : List (Addr × Obj)) (P : Int → Prop) (μ : Int → Nat) (k : Int) (s s₂ : Shared) : Prop :=
  ∃ k' t' h' tk' m', s₂ = { s with heap := h', toks := tk' } ∧ Fr h₀ L h' m' ∧ News h₀ L h' news ∧ m' x = some (.int k' t') ∧ (∀ z, z ≠ x → m' z = m₀ z) ∧ P k' ∧ μ k' < μ k
def ScanPost (h₀ : Heap) (L : Addr) (x : Str) (m₀ : Str → Option Value) (news : List (Addr × Obj)) (P : Int → Prop) (μ : Int → Nat) (k : Int) (s : Shared) (Q : Flow → Shared → Prop) (f : Flow) (s₂ : Shared) : Prop :=
  match f with
  | .ret v => Q (.ret v) s₂
  | .brk => Q .next s₂
  | _ => ScanEnd h₀ L x m₀ news P μ k s s₂
theorem scanEnd_of {L : Addr} {m₀ m' : Str → Option Value} {news : List (Addr × Obj)} {P : Int → Prop} {μ : Int → Nat} {k k' : Int} {t' : Tok} {h' : Heap} {tk' : Nat}
    (F : Fr h₀ L h' m') (N : News h₀ L h' news) (hx : m' x = some (.int k' t')) (hm : ∀ z, z ≠ x → m' z = m₀ z) (hp : P k') (hm' : μ k' < μ k) : ScanPost h₀ L x m₀ news P μ k s Q .next { s with heap := h', toks := tk' } :=
  ⟨k', t', h', tk', m', rfl, F, N, hx, hm, hp, hm'⟩
theorem scan_while {test : Expr} {pos : Pos} {L : Addr} {m₀ m₁ : Str → Option Value} {k₀ : Int} {t₀ : Tok} {news : List (Addr × Obj)} (x : Str) (P : Int → Prop) (μ : Int → Nat)
    (F : Fr h₀ L s.heap m₁) (hx : m₁ x = some (.int k₀ t₀)) (hm : ∀ z, z ≠ x → m₁ z = m₀ z) (N : News h₀ L s.heap news) (hp : P k₀)
    (turn : ∀ k t h tk, P k → Fr h₀ L h (fun y => if y = x then some (.int k t) else m₀ y) → News h₀ L h news →
      wpAny (model prog w) A (isTrue test env (eval test env)) (fun b s₂ =>
        if b = true then wpAny (model prog w) A (execs body env) (ScanPost h₀ L x m₀ news P μ k s Q) E s₂ else Q .next s₂) E { s with heap := h, toks := tk })
    (hE : PassesOwn (model prog w) A env E := by passes_own) :
    wpAny (model prog w) A (exec (.While test body [] pos) env) Q E s := by
  refine While_inv2 (fun n m nx => nx = news ∧ ∃ k t, m x = some (.int k t) ∧ (∀ z, z ≠ x → m z = m₀ z) ∧ P k ∧ μ k = n) F N ⟨rfl, k₀, t₀, hx, hm, hp, rfl⟩ ?_ hE
  rintro n m₁ nx h tk F₁ N₁ ⟨rfl, k, t, h1, h2, hp', rfl⟩
  refine wpAny_mono (turn k t h tk hp' (fr_ext (fun z => by by_cases hz : z = x <;> simp [hz, h1, h2]) F₁) N₁) (fun b s₂ p => ?_) fun _ _ x => x
  cases b with
  | false => simpa using p
  | true =>
    simp only [if_true] at p ⊢
    refine wpAny_mono p (fun f s₃ q => ?_) fun _ _ x => x
    cases f with
    | ret v => exact q
    | brk => exact q
    | next =>
      obtain ⟨k', t', h', tk', m', rfl, F', N', hx', hm', hp'', hl⟩ := q
      exact ⟨h', tk', m', nx, _, rfl, F', N', hl, rfl, k', t', hx', hm', hp'', rfl⟩
    | cont =>
      obtain ⟨k', t', h', tk', m', rfl, F', N', hx', hm', hp'', hl⟩ := q
      exact ⟨h', tk', m', nx, _, rfl, F', N', hl, rfl, k', t', hx', hm', hp'', rfl⟩

theorem st_ints {K : List (Int × Value)} : ∀ {vs : List Value}, vs.length = K.length → (∀ (j : Nat) (v : Value), vs[j]? = some v → ∃ k x, K[j]? = some (k, x) ∧ (PySem.intKind prog w).is k v = true) → IntsAre vs (K.map (·.1)) := by
  intro vs hl h
  refine kdy_ints (by rw [hl, List.length_map]) fun j v hv => ?_
  obtain ⟨k, x, hx, hk⟩ := h j v hv
  obtain ⟨t, rfl⟩ := Value.isInt_shape hk
  exact ⟨k, by rw [List.getElem?_map, hx]; rfl, t, rfl⟩

theorem st_sorted {L d : Addr} {m : Str → Option Value} {news : List (Addr × Obj)} {o : Obj} {ks : List Int} {Q : Value → Shared → Prop} (hh : A.handled = none) (F : Fr h₀ L s.heap m) (N : News h₀ L s.heap news) (hp : (d, o) ∈ news) (hd : Stops prog w d o ks) (hz : ks.length < 64)
    (h : ∀ (D : Addr) h' tk vs ns c, Fr h₀ L h' m → News h₀ L h' ((D, listOf (List.toArray vs) c) :: news) → (∀ q ∈ news, q.1 < D) → IntsAre vs ns → ns.Perm ks → ns.Pairwise (· ≤ ·) → Q (.ref D) { s with heap := h', toks := tk }) :
    wpAny (model prog w) A (call (.builtin "sorted") [.ref d]) Q E s := by
  obtain ⟨lo, kvs, hd, rfl⟩ := hd
  rw [List.length_map] at hz
  obtain ⟨ep, hat⟩ := (kda_dict N hp hd).dictAt
  refine kdu_sorted (kdl_dict (knd := PySem.intKind prog w) (kvs := kvs) (ep := ep) lo) hh F N hat (by rw [sizeLine_eq]; omega) fun B h' tk vs F' N' l1 hl hv => ?_
  have hI := st_ints hl hv
  refine ksk_lsort (news' := fun o => (B, o) :: news) F' N' (fun o => Upd.head fun p hp => ?_) (by simp) hI (by rw [List.length_map]; omega) fun vs' ns' c h'' F'' N'' i' e' p' o' _ => h B h'' tk vs' ns' c F'' N'' l1 i' p' o'
  exact Nat.ne_of_lt (l1 p hp)
end
-- part B3
theorem fb (x : Int) {b : Int} (hb : 0 < b) : 0 ≤ x.fmod b ∧ x.fmod b < b := by
  rw [Int.fmod_eq_emod_of_nonneg x (Int.le_of_lt hb)]
  exact ⟨Int.emod_nonneg _ (by omega), Int.emod_lt_of_pos _ hb⟩
section
variable {prog : Program} {w : World} {A : Around} {E : Value → Shared → Prop} {s : Shared} {h₀ : Heap} {L a b : Addr} {m : Str → Option Value} {news : List (Addr × Obj)} {g : Obj → List (Addr × Obj)} {vs us : List Value} {ns ms : List Int} {n n' : Nat}
theorem ls_list (N : News h₀ L s.heap news) (ha : (a, PySem.W.listOf (List.toArray vs) n) ∈ news) : s.heap.IsList a vs.toArray := ⟨_, (N _ ha).1, rfl, n, rfl⟩
theorem ls_eq {Q : Value → Shared → Prop} (N : News h₀ L s.heap news) (ha : (a, PySem.W.listOf (List.toArray vs) n) ∈ news) (hb : (b, PySem.W.listOf (List.toArray us) n') ∈ news) (hi : IntsAre vs ns) (hi' : IntsAre us ms) (hu : A.units + 64 < cLine)
    (h : Q (.bool (decide (ns = ms))) s) : wpAny (model prog w) A (compareOp .Eq (.ref a) (.ref b)) Q E s := eq_intsK (ls_list N ha) hi (ls_list N hb) hi' hu h
theorem ls_ne {Q : Value → Shared → Prop} (N : News h₀ L s.heap news) (ha : (a, PySem.W.listOf (List.toArray vs) n) ∈ news) (hb : (b, PySem.W.listOf (List.toArray us) n') ∈ news) (hi : IntsAre vs ns) (hi' : IntsAre us ms) (hu : A.units + 64 < cLine)
    (h : Q (.bool (!decide (ns = ms))) s) : wpAny (model prog w) A (compareOp .NotEq (.ref a) (.ref b)) Q E s := ne_intsK (ls_list N ha) hi (ls_list N hb) hi' hu h
theorem ls_pop {Q : Value → Shared → Prop} (F : Fr h₀ L s.heap m) (N : News h₀ L s.heap news) (U : UpdF a (PySem.W.listOf (List.toArray vs) n) news g) (hi : IntsAre vs ns) (hne : ¬ ns = []) (hz : ns.length ≤ 10000)
    (h : ∀ h' k t vs' ns' c, k ∈ ns → IntsAre vs' ns' → ns'.length + 1 = ns.length → Fr h₀ L h' m → News h₀ L h' (g (PySem.W.listOf (List.toArray vs') c)) → (∀ x ∈ ns', x ∈ ns) → Q (.int k t) { s with heap := h' }) :
    wpAny (model prog w) A (call (.builtin "list.pop") [.ref a]) Q E s := by
  obtain ⟨pre, post, rfl, hg, x1, x2⟩ := U.split
  have hl := hi.length
  have hp : 0 < ns.length := List.length_pos_iff.mpr hne
  have U' : Upd a (PySem.W.listOf vs.toArray n) (PySem.W.listOf vs.dropLast.toArray (n + 1)) (pre ++ (a, PySem.W.listOf vs.toArray n) :: post) (pre ++ (a, PySem.W.listOf vs.dropLast.toArray (n + 1)) :: post) := by
    clear N hg U
    induction pre with
    | nil => exact Upd.head x2
    | cons p r ih => exact Upd.tail (x1 p (.head _)) (ih fun q hq => x1 q (.tail _ hq))
  refine kpa_pop F N U' hi (by omega) (by rw [sizeLine_eq]; omega) fun h' t F' N' hI' => h h' _ t _ _ _ ?_ hI' ?_ F' (by rw [hg]; exact N') ?_
  · rw [List.getLastD_eq_getLast?, List.getLast?_eq_some_getLast hne]; exact List.getLast_mem hne
  · rw [List.length_dropLast]; omega
  · exact fun x hx => List.dropLast_subset ns hx
theorem ls_append {Q : Value → Shared → Prop} {k : Int} {t : Tok} (F : Fr h₀ L s.heap m) (N : News h₀ L s.heap news) (U : UpdF a (PySem.W.listOf (List.toArray vs) n) news g) (hi : IntsAre vs ns) (hz : ns.length ≤ 10000)
    (h : ∀ h' c, IntsAre (vs ++ [.int k t]) (ns ++ [k]) → Fr h₀ L h' m → News h₀ L h' (g (PySem.W.listOf (List.toArray (vs ++ [.int k t])) c)) → Q .none { s with heap := h' }) :
    wpAny (model prog w) A (call (.builtin "list.append") [.ref a, .int k t]) Q E s := by
  obtain ⟨pre, post, rfl, hg, x1, x2⟩ := U.split
  have hl := hi.length
  have U' : Upd a (PySem.W.listOf vs.toArray n) (PySem.W.listOf (vs.toArray.push (.int k t)) (n + 1)) (pre ++ (a, PySem.W.listOf vs.toArray n) :: post) (pre ++ (a, PySem.W.listOf (vs.toArray.push (.int k t)) (n + 1)) :: post) := by
    clear N hg U
    induction pre with
    | nil => exact Upd.head x2
    | cons p r ih => exact Upd.tail (x1 p (.head _)) (ih fun q hq => x1 q (.tail _ hq))
  refine append_K F N U' (fun h' F' N' => h h' (n + 1) (IntsAre.append hi (.cons _ _ .nil)) F' ?_) (by rw [List.size_toArray, sizeLine_eq]; omega)
  rw [hg, ← List.push_toArray]; exact N'
theorem ls_add {Q : Value → Shared → Prop} (F : Fr h₀ L s.heap m) (N : News h₀ L s.heap news) (ha : (a, PySem.W.listOf (List.toArray vs) n) ∈ news) (hb : (b, PySem.W.listOf (List.toArray us) n') ∈ news) (hi : IntsAre vs ns) (hi' : IntsAre us ms) (hz : ns.length + ms.length ≤ 10000)
    (h : ∀ D h', Fr h₀ L h' m → News h₀ L h' ((D, PySem.W.listOf (List.toArray (vs ++ us)) 0) :: news) → (∀ q ∈ news, q.1 < D) → IntsAre (vs ++ us) (ns ++ ms) → Q (.ref D) { s with heap := h' }) :
    wpAny (model prog w) A (binaryOp .Add (.ref a) (.ref b)) Q E s :=
  add_arrays_ints (hsz := by rw [sizeLine_eq]; omega) F N (ls_list N ha) (ls_list N hb) hi hi' fun h' F' N' i' => h _ h' F' N' (fun p hp => Heap.lt_size (N p hp).1) i'
theorem ls_min {Q : Value → Shared → Prop} (hh : A.handled = none) (F : Fr h₀ L s.heap m) (N : News h₀ L s.heap news) (ha : (a, PySem.W.listOf (List.toArray vs) n) ∈ news) (hi : IntsAre vs ns) (hne : 0 < ns.length)
    (h : ∀ h' M (t : Tok) tk, Fr h₀ L h' m → News h₀ L h' news → M ∈ ns → (∀ a, a ∈ ns → M ≤ a) → Q (.int M t) { s with heap := h', toks := tk }) : wpAny (model prog w) A (call (.builtin "min") [.ref a]) Q E s := kso_min F N (ls_list N ha) hi hne hh h
theorem ls_max {Q : Value → Shared → Prop} (hh : A.handled = none) (F : Fr h₀ L s.heap m) (N : News h₀ L s.heap news) (ha : (a, PySem.W.listOf (List.toArray vs) n) ∈ news) (hi : IntsAre vs ns) (hne : 0 < ns.length)
    (h : ∀ h' M (t : Tok) tk, Fr h₀ L h' m → News h₀ L h' news → M ∈ ns → (∀ a, a ∈ ns → a ≤ M) → Q (.int M t) { s with heap := h', toks := tk }) : wpAny (model prog w) A (call (.builtin "max") [.ref a]) Q E s := kso_max F N (ls_list N ha) hi hne hh h
theorem ls_sorted {Q : Value → Shared → Prop} (F : Fr h₀ L s.heap m) (N : News h₀ L s.heap news) (ha : (a, PySem.W.listOf (List.toArray vs) n) ∈ news) (hi : IntsAre vs ns) (hz : ns.length < 64)
    (h : ∀ D vs' ns' c h', Fr h₀ L h' m → News h₀ L h' ((D, PySem.W.listOf (List.toArray vs') c) :: news) → (∀ q ∈ news, q.1 < D) → IntsAre vs' ns' → ns'.Perm ns → ns'.Pairwise (· ≤ ·) → Q (.ref D) { s with heap := h' }) :
    wpAny (model prog w) A (call (.builtin "sorted") [.ref a]) Q E s := kso_sorted F N (ls_list N ha) hi hz fun D vs' ns' c h' F' N' l i _ p o _ => h D vs' ns' c h' F' N' l i p o
theorem any_mem {ns : List Int} {k : Int} : ns.any (· == k) = decide (k ∈ ns) := by
  induction ns with
  | nil => rfl
  | cons x r ih =>
    simp only [List.any_cons, ih, List.mem_cons, Bool.decide_or]
    congr 1
    rw [show (x == k) = decide (x = k) from rfl]
    exact decide_eq_decide.mpr eq_comm
theorem ls_notin {k : Int} {t : Tok} {Q : Value → Shared → Prop} (N : News h₀ L s.heap news) (ha : (a, PySem.W.listOf (List.toArray vs) n) ∈ news) (hi : IntsAre vs ns)
    (h : Q (.bool (!decide (k ∈ ns))) s) : wpAny (model prog w) A (compareOp .NotIn (.int k t) (.ref a)) Q E s := notin_list_ints (ls_list N ha) hi (by rw [any_mem]; exact h)
theorem ls_copy {Q : Value → Shared → Prop} (F : Fr h₀ L s.heap m) (N : News h₀ L s.heap news) (ha : (a, PySem.W.listOf (List.toArray vs) n) ∈ news) (hi : IntsAre vs ns) (hz : ns.length ≤ 10000)
    (h : ∀ D c h', Fr h₀ L h' m → News h₀ L h' ((D, PySem.W.listOf (List.toArray vs) c) :: news) → (∀ q ∈ news, q.1 < D) → Q (.ref D) { s with heap := h' }) :
    wpAny (model prog w) A (call (.type "list") [.ref a]) Q E s := list_copyK F N (ls_list N ha) h (by have := hi.length; rw [List.size_toArray, sizeLine_eq]; omega)
end
-- part B4
/-- the tests of a comprehension, at a state s₂ -/
def TestsAt (prog : Program) (w : World) (A : Around) (env : Env) (scope : Scope) (cl : List (Str × Addr)) (x : Str) (ifs : List Expr) (pz : Int → Bool) (I : Addr) (s₂ : Shared) : Prop :=
  ∀ C k t s₃ m₃ E', s₃.heap.Ns C m₃ → m₃ x = some (.int k t) → (∀ b o, b ≠ I → s₂.heap.get? b = some o → s₃.heap.get? b = some o) →
    wpAny (model prog w) A (forIn ifs true fun c r => if r = true then do let ok ← isTrue c (compEnvC scope cl C env) (eval c (compEnvC scope cl C env)); pure (ForInStep.yield ok) else pure (ForInStep.yield r))
      (fun ok s₄ => ok = pz k ∧ Keeps s₃ s₄) E' s₃

def liftZ (pz : Int → Bool) : Value → Bool
  | .int k _ => pz k
  | _ => false
theorem ints_filter (pz : Int → Bool) : ∀ {vs : List Value} {ns : List Int}, IntsAre vs ns → IntsAre (vs.filter (liftZ pz)) (ns.filter pz)
  | _, _, .nil => .nil
  | _, _, .cons k t r => by
    have ih := ints_filter pz r
    by_cases h : pz k = true
    · rw [List.filter_cons_of_pos (by exact h), List.filter_cons_of_pos h]; exact .cons k t ih
    · rw [List.filter_cons_of_neg (by exact h), List.filter_cons_of_neg h]; exact ih
def SameInt (v y : Value) : Prop := ∃ k t t', v = .int k t ∧ y = .int k t'
theorem paired_same : ∀ {l ys : List Value} {ns : List Int}, IntsAre l ns → Paired SameInt l ys → IntsAre ys ns
  | _, _, _, .nil, .nil => .nil
  | _, _, _, .cons k t r, .cons h q => by
    obtain ⟨k', t', u, e1, e2⟩ := h
    cases e1
    rw [e2]
    exact .cons k u (paired_same r q)
/-- the element of a comprehension: an int, the int that is walked -/
def EltAt (prog : Program) (w : World) (A : Around) (env : Env) (scope : Scope) (cl : List (Str × Addr)) (x : Str) (elt : Expr) (I : Addr) (s₂ : Shared) : Prop :=
  ∀ C k t s₃ m₃ E', s₃.heap.Ns C m₃ → m₃ x = some (.int k t) → (∀ b o, b ≠ I → s₂.heap.get? b = some o → s₃.heap.get? b = some o) →
    wpAny (model prog w) A (eval elt (compEnvC scope cl C env)) (fun y s₄ => (∃ t', y = .int k t') ∧ Keeps s₃ s₄) E' s₃

theorem keeps_refl (s : Shared) : Keeps s s := ⟨s.heap, s.toks, rfl, fun _ _ e => e⟩
section
variable {prog : Program} {w : World} {A : Around} {E : Value → Shared → Prop} {s : Shared} {env : Env} {h₀ : Heap} {L : Addr} {m : Str → Option Value} {news : List (Addr × Obj)}

theorem elt_name {scope : Scope} {cl : List (Str × Addr)} {x : Str} {px : Pos} {I : Addr} (hkind : scope.kind = .function) (hx : scope.names.lookup x = some .local) (hxd : (x == ("__debug__" : Str)) = false) : EltAt prog w A env scope cl x (.Name x px) I s :=
  fun C k t s₃ m₃ E' hn hm _ => wpAny_Name (wpAny_loadName_local (show (compEnvC scope cl C env).scope.kind = .function from hkind) (lookup_relabel_local hx) hn hm ⟨⟨t, rfl⟩, keeps_refl _⟩) hxd
theorem elt_int {p : Program} {loose : List Str} {mean : ExcName → Option Value} {mg mb : Str → Option Value} {K : Frag} {scope : Scope} {cl : List (Str × Addr)} {x : Str} {p1 p2 p3 : Pos} {I : Addr} (F : Fr h₀ L s.heap m) (X : K.In h₀) (T : Top p loose mean mg mb h₀) (hI : h₀.get? I = none)
    (he : nsIn K mainGlobals (Str.ofString "int") = some none) (hv : bootBuiltins (Str.ofString "int") = some (.type "int")) (hg : env.globals = mainGlobals) (hb : env.builtins = builtinsNs) (hkind : scope.kind = .function) (hx : scope.names.lookup x = some .local) (hxd : (x == ("__debug__" : Str)) = false)
    (hint : (relabel scope env).names.lookup (Str.ofString "int") = some .globalImplicit) : EltAt prog w A env scope cl x (.Call (.Name (Str.ofString "int") p1) [.Name x p2] [] p3) I s := fun C k t s₃ m₃ E' hn hm keep => by
  have hs : (compEnvC scope cl C env).scope.kind = .function := hkind
  have keep' : ∀ b o, h₀.get? b = some o → s₃.heap.get? b = some o := fun b o e => keep b o (by rintro rfl; rw [hI] at e; cases e) (F.keep b o e)
  have hname : ∀ {Q : Value → Shared → Prop}, Q (.type "int") s₃ → wpAny (model prog w) A (eval (.Name (Str.ofString "int") p1) (compEnvC scope cl C env)) Q E' s₃ := fun {Q} h => by
    refine Name_function_global hs hint (loadGlobal_builtin (env := compEnvC scope cl C env) ?_ (mg_none_of X T.g he) ?_ ((T.builtins (Str.ofString "int") (by decide)).trans hv) h) (by decide)
    · rw [show (compEnvC scope cl C env).globals = mainGlobals from hg]; exact T.g.keeps keep'
    · rw [show (compEnvC scope cl C env).builtins = builtinsNs from hb]; exact T.b.keeps keep'
  have he2 : eval (.Call (.Name (Str.ofString "int") p1) [.Name x p2] [] p3) (compEnvC scope cl C env) = (do callWith p3 (← eval (.Name (Str.ofString "int") p1) (compEnvC scope cl C env)) [] (backTo p3 (starEach [.Name x p2] (compEnvC scope cl C env))) (backToKw p3 (keywordEach [] (compEnvC scope cl C env)))) := by rfl
  refine Call_ (hname ?_) he2
  refine PyProof.Rows.callWith_type1 (args_cons (wpAny_Name (wpAny_loadName_local hs (lookup_relabel_local hx) hn hm ?_) hxd))
  exact args_nil (call_int_int ⟨⟨t, rfl⟩, keeps_refl _⟩)

theorem tests_none {scope : Scope} {cl : List (Str × Addr)} {x : Str} {I : Addr} : TestsAt prog w A env scope cl x [] (fun _ => true) I s := fun C k t s₃ m₃ E' _ _ _ => by
  simp only [List.forIn_nil]
  exact wpAny_pure ⟨rfl, keeps_refl _⟩

def cmpI (op : CmpOp) (a b : Int) : Bool := match op with
  | .Lt => decide (a < b)
  | .Gt => decide (b < a)
  | .GtE => decide (b ≤ a)
  | .NotEq => a != b
  | _ => false
def cmpOk (op : CmpOp) : Bool := match op with
  | .Lt | .Gt | .GtE | .NotEq => true
  | _ => false
theorem cmp_int {op : CmpOp} {a b : Int} {t u : Tok} {Q : Value → Shared → Prop} (ho : cmpOk op = true) (h : Q (.bool (cmpI op a b)) s) : wpAny (model prog w) A (compareOp op (.int a t) (.int b u)) Q E s := by
  cases op with
  | Lt => exact PyProof.Rows.lt_int h
  | Gt => exact PyProof.Rows.gt_int h
  | GtE => exact PyProof.Rows.ge_int h
  | NotEq => exact PyProof.Rows.ne_int h
  | _ => cases ho

theorem tests_cell {scope : Scope} {cl : List (Str × Addr)} {x y : Str} {I c : Addr} {oc : Obj} {b : Int} {tb : Tok} {op : CmpOp} {p1 p2 p3 : Pos} (hkind : scope.kind = .function) (hx : scope.names.lookup x = some .local)
    (hy : (relabel scope env).names.lookup y = some .cell ∨ (relabel scope env).names.lookup y = some .free) (hxd : (x == ("__debug__" : Str)) = false) (hyd : (y == ("__debug__" : Str)) = false) (hyc : (y == ("__classdict__" : Str)) = false)
    (hc : cl.lookup y = some c) (N : News h₀ L s.heap news) (hm : (c, oc) ∈ news) (hcI : c ≠ I) (hd : oc.data = .cell (some (.int b tb))) (ho : cmpOk op = true) (hmk : behindInMarks op (.Name y p2) = false) :
    TestsAt prog w A env scope cl x [.Compare (.Name x p1) [op] [.Name y p2] p3] (fun k => cmpI op k b) I s := fun C k t s₃ m₃ E' hn hk keep => by
  refine wpAny_tests_one (wpAny_isTrue_Compare1 ?_ hmk)
  have hs : (compEnvC scope cl C env).scope.kind = .function := hkind
  refine wpAny_Name (wpAny_loadName_local hs (lookup_relabel_local hx) hn hk ?_) hxd
  have hcell : s₃.heap.IsCell c (some (.int b tb)) := ⟨oc, keep _ _ hcI (N _ hm).1, hd⟩
  refine wpAny_Name ?_ hyd
  have fin : wpAny (model prog w) A (compareOp op (.int k t) (.int b tb)) (fun c s₅ => wpAny (model prog w) A (truthy c) (fun ok s₄ => ok = cmpI op k b ∧ Keeps s₃ s₄) E' s₅) E' s₃ :=
    cmp_int ho (wpAny_truthy_bool ⟨rfl, keeps_refl _⟩)
  rcases hy with hy | hy
  · exact wpAny_loadName_cell hs hy hc hcell fin
  · exact wpAny_loadName_free hs hy hc hcell fin hyc

/-- what a comprehension's source hands on -/
def CompAt (prog : Program) (w : World) (A : Around) (h₀ : Heap) (L : Addr) (env : Env) (scope : Scope) (cl : List (Str × Addr)) (x : Str) (elt : Expr) (ifs : List Expr) (fm : Addr → (Str → Option Value) → Str → Option Value) (Q : Value → Shared → Prop) (xv : Value) (s₁ : Shared) : Prop :=
  ∃ (m : Str → Option Value) (news : List (Addr × Obj)) (ns : List Int) (pz : Int → Bool) (I : Addr) (oI : Obj) (fp : List Addr) (n : Nat) (P : Nat → Value → Prop) (St : Nat → Heap → Prop),
    Fr h₀ L s₁.heap m ∧ News h₀ L s₁.heap news ∧ I = s₁.heap.objs.size ∧
    (∀ (E : Value → Shared → Prop) (R : Value → Shared → Prop), R (.ref I) { s₁ with heap := s₁.heap.push oI } → wpAny (model prog w) A (pyIter xv) R E s₁) ∧
    Walks prog w A I fp [I] n P St ∧ n ≤ sizeLine ∧ St 0 (s₁.heap.push oI) ∧ (∀ b ∈ fp, b < (s₁.heap.push oI).objs.size) ∧
    (∀ i v, P i v → ∃ k t, v = .int k t) ∧ (∀ vs : List Value, vs.length = n → (∀ (j : Nat) v, vs[j]? = some v → P j v) → IntsAre vs ns) ∧
    EltAt prog w A env scope cl x elt I s₁ ∧ TestsAt prog w A env scope cl x ifs pz I s₁ ∧
    ∀ D vs' c h' tk, Fr h₀ L h' (fm D m) → News h₀ L h' ((D, PySem.W.listOf (List.toArray vs') c) :: news) → OffD D news → IntsAre vs' (ns.filter pz) → Q (.ref D) { s₁ with heap := h', toks := tk }

theorem comp_tells {iter elt : Expr} {x : Str} {px : Pos} {ifs : List Expr} {scope : Scope} {cl : List (Str × Addr)} {pos : Pos} {Q : Value → Shared → Prop} (_F : Fr h₀ L s.heap m)
    (hclos : closureFor scope env = pure cl) (hcell : ∀ y ∈ scope.names, y.2 ≠ .cell) (hkind : scope.kind = .function)
    (hnames : ∀ y ∈ scope.names, y.2 = .local → scope.names.lookup y.1 = some .local) (hx : scope.names.lookup x = some .local)
    (h : wpAny (model prog w) A (eval iter env) (fun xv s₁ => CompAt prog w A h₀ L env scope cl x elt ifs (fun _ m => m) Q xv s₁) E s)
    (hs : ∀ x, foldedSetIterable iter env x = pure x := by intro _; rfl) :
    wpAny (model prog w) A (eval (.ListComp elt [⟨.Name x px, iter, ifs, 0⟩] scope pos) env) Q E s := by
  have key : ∀ (pz : Int → Bool), True := fun _ => trivial
  rw [eval_ListComp]
  refine wpAny_comprehension_free (use := none) rfl hs hclos hkind hnames (wpAny_mono h (fun xv s₁ h₁ => ?_) fun _ _ e => e)
  obtain ⟨m, news, ns, pz, I, oI, fp, n, P, St, F, N, rfl, hit, W, hsz, hst, hfp, hP, hns, hel, ht, hQ⟩ := h₁
  refine hit _ _ ?_
  have hsize : (s₁.heap.push oI).objs.size = s₁.heap.objs.size + 1 := Heap.size_push ..
  have up : ∀ b o, s₁.heap.get? b = some o → (s₁.heap.push oI).get? b = some o := fun b o e => Heap.get?_push_of_some _ e
  have old : ∀ b o, s₁.heap.get? b = some o → b ∉ [s₁.heap.objs.size] := fun b o e hb => by rw [List.mem_singleton.mp hb] at e; exact Nat.lt_irrefl _ (Heap.lt_size e)
  refine comp_block_walkC (RR := fun acc C => compPost (model prog w) A E none Q acc C) W hsz (liftZ pz) SameInt hcell hkind hx hst hfp ⟨?_, ?_⟩ ?_
  · intro C i v s₃ m₃ E' _ hPv hn hm hk _
    obtain ⟨k, t, rfl⟩ := hP i v hPv
    exact ht C k t s₃ m₃ E' hn hm fun b o hb e => hk b o (fun hb' => hb (List.mem_singleton.mp hb')) (up b o e)
  · intro C i v s₃ m₃ E' _ hPv _ hn hm hk _
    obtain ⟨k, t, rfl⟩ := hP i v hPv
    exact wpAny_mono (hel C k t s₃ m₃ E' hn hm fun b o hb e => hk b o (fun hb' => hb (List.mem_singleton.mp hb')) (up b o e)) (fun y s₄ h₄ => ⟨⟨k, t, h₄.1.elim fun t' e => ⟨t', rfl, e⟩⟩, h₄.2⟩) fun _ _ e => e
  · intro D C h' tk m' ys vs hD hC hDC hn hl hpl hlen hPs hF hk
    have keep : ∀ b o, s₁.heap.get? b = some o → h'.get? b = some o := fun b o e => hk b o (old b o e) (up b o e)
    obtain ⟨cap, hDo⟩ := hpl
    refine ⟨m', hn, fun h'' hs'' => ?_⟩
    have keep2 : ∀ b o, s₁.heap.get? b = some o → h''.get? b = some o := fun b o e => hs''.extBut b o (by rintro rfl; rw [up _ _ e] at hC; cases hC) (keep b o e)
    have hDnone : s₁.heap.get? D = none := by
      cases e : s₁.heap.get? D with
      | none => rfl
      | some o => rw [up _ _ e] at hD; cases hD
    refine hQ D ys.toList cap h'' tk (F.keeps keep2) (fun p hp => ?_) (fun q hq e => ?_) (paired_same (ints_filter pz (hns vs hlen hPs)) hF)
    · rcases List.mem_cons.mp hp with rfl | hp
      · refine ⟨?_, ?_, ?_⟩
        · show h''.get? D = _
          rw [Array.toArray_toList]
          exact hs''.extBut _ _ hDC hDo
        · rintro rfl
          obtain ⟨oL, _, _, e, _⟩ := F.ns
          rw [e] at hDnone; cases hDnone
        · show h₀.get? D = none
          cases e : h₀.get? D with
          | none => rfl
          | some o => rw [F.keep _ _ e] at hDnone; cases hDnone
      · exact ⟨keep2 _ _ (N p hp).1, (N p hp).2⟩
    · have := (N q hq).1
      rw [show q.1 = D from e, hDnone] at this; cases this

theorem compA_tells {iter elt : Expr} {x y : Str} {px py : Pos} {ifs : List Expr} {scope : Scope} {cl : List (Str × Addr)} {pos spos : Pos} {Q : Flow → Shared → Prop} (_F : Fr h₀ L s.heap m) (hLe : env.locals = L)
    (hsw : swapsWith (.ListComp elt [⟨.Name x px, iter, ifs, 0⟩] scope pos) (some (.Name y py)) spos.line env = pure true) (hy : env.kindOf y = some .local) (hp : (env.scope.kind == .class || (env.scope.kind == .module && env.locals != env.globals)) = false)
    (hclos : closureFor scope env = pure cl) (hcell : ∀ y ∈ scope.names, y.2 ≠ .cell) (hkind : scope.kind = .function)
    (hnames : ∀ y ∈ scope.names, y.2 = .local → scope.names.lookup y.1 = some .local) (hx : scope.names.lookup x = some .local)
    (h : wpAny (model prog w) A (eval iter env) (fun xv s₁ => CompAt prog w A h₀ L env scope cl x elt ifs (fun D m z => if z = y then some (.ref D) else m z) (fun _ s' => Q .next s') xv s₁) E s)
    (hs : ∀ x, foldedSetIterable iter env x = pure x := by intro _; rfl) :
    wpAny (model prog w) A (exec (.Assign [.Name y py] (.ListComp elt [⟨.Name x px, iter, ifs, 0⟩] scope pos) spos) env) Q E s := by
  subst hLe
  have key : ∀ (pz : Int → Bool), True := fun _ => trivial
  rw [exec_Assign_Name_used _ _ _ _ hsw]
  refine wpAny_bind (wpAny_standAt (wpAny_bind ?_))
  show wpAny _ A (do let _ ← comprehension (.ListComp elt [⟨.Name x px, iter, ifs, 0⟩] scope pos) scope env _ (newList []) false (eval iter env) (some (assign (.Name y py) env))) _ _ s
  refine wpAny_bind (wpAny_mono (wpAny_comprehension_free (use := some (assign (.Name y py) env)) (Q := fun _ s' => Q .next s') rfl hs hclos hkind hnames
    (wpAny_mono h (fun xv s₁ h₁ => ?_) fun _ _ e => e)) (fun _ s' hq => wpAny_pure (wpAny_pure hq)) fun _ _ e => e)
  obtain ⟨m, news, ns, pz, I, oI, fp, n, P, St, F, N, rfl, hit, W, hsz, hst, hfp, hP, hns, hel, ht, hQ⟩ := h₁
  refine hit _ _ ?_
  have hsize : (s₁.heap.push oI).objs.size = s₁.heap.objs.size + 1 := Heap.size_push ..
  have up : ∀ b o, s₁.heap.get? b = some o → (s₁.heap.push oI).get? b = some o := fun b o e => Heap.get?_push_of_some _ e
  have old : ∀ b o, s₁.heap.get? b = some o → b ∉ [s₁.heap.objs.size] := fun b o e hb => by rw [List.mem_singleton.mp hb] at e; exact Nat.lt_irrefl _ (Heap.lt_size e)
  refine comp_block_walkC (RR := fun acc C => compPost (model prog w) A E (some (assign (.Name y py) env)) (fun _ s' => Q .next s') acc C) W hsz (liftZ pz) SameInt hcell hkind hx hst hfp ⟨?_, ?_⟩ ?_
  · intro C i v s₃ m₃ E' _ hPv hn hm hk _
    obtain ⟨k, t, rfl⟩ := hP i v hPv
    exact ht C k t s₃ m₃ E' hn hm fun b o hb e => hk b o (fun hb' => hb (List.mem_singleton.mp hb')) (up b o e)
  · intro C i v s₃ m₃ E' _ hPv _ hn hm hk _
    obtain ⟨k, t, rfl⟩ := hP i v hPv
    exact wpAny_mono (hel C k t s₃ m₃ E' hn hm fun b o hb e => hk b o (fun hb' => hb (List.mem_singleton.mp hb')) (up b o e)) (fun y s₄ h₄ => ⟨⟨k, t, h₄.1.elim fun t' e => ⟨t', rfl, e⟩⟩, h₄.2⟩) fun _ _ e => e
  · intro D C h' tk m' ys vs hD hC hDC hn hl hpl hlen hPs hF hk
    have keep : ∀ b o, s₁.heap.get? b = some o → h'.get? b = some o := fun b o e => hk b o (old b o e) (up b o e)
    obtain ⟨cap, hDo⟩ := hpl
    show wpAny _ A (assign (.Name y py) env (.ref D)) _ _ _
    have F1 : Fr h₀ env.locals h' m := F.keeps keep
    have hCL : C ≠ env.locals := by
      rintro rfl
      obtain ⟨oL, _, _, e, _⟩ := F.ns
      rw [up _ _ e] at hC; cases hC
    have hDL : D ≠ env.locals := by
      rintro rfl
      obtain ⟨oL, _, _, e, _⟩ := F.ns
      rw [up _ _ e] at hD; cases hD
    have hC₀ : h₀.get? C = none := by
      cases e : h₀.get? C with
      | none => rfl
      | some o => rw [up _ _ (F.keep _ _ e)] at hC; cases hC
    have hL₀ : h₀.get? env.locals = none := Heap.get?_none_of_le F1.above
    refine wpAny_assign_Name (wpAny_storeName_local hy F1.ns (fun h₂ hn₂ hs₂ => ?_) hp)
    have F₂ : Fr h₀ env.locals h₂ (fun z => if z = y then some (.ref D) else m z) := ⟨hn₂, fun b o e => hs₂.extBut b o (fun q => by rw [q, hL₀] at e; cases e) (F1.keep b o e), F1.above⟩
    refine ⟨m', hn.sameBut hs₂ hCL, fun h'' hs'' => ?_⟩
    have hDnone : s₁.heap.get? D = none := by
      cases e : s₁.heap.get? D with
      | none => rfl
      | some o => rw [up _ _ e] at hD; cases hD
    show Q .next _
    refine hQ D ys.toList cap h'' _ (F₂.change hs'' hCL hC₀) (fun p hp => ?_) (fun q hq e => ?_) (paired_same (ints_filter pz (hns vs hlen hPs)) hF)
    · rcases List.mem_cons.mp hp with rfl | hp
      · refine ⟨?_, hDL, ?_⟩
        · show h''.get? D = _
          rw [Array.toArray_toList]
          exact hs''.extBut _ _ hDC (hs₂.extBut _ _ hDL hDo)
        · show h₀.get? D = none
          cases e : h₀.get? D with
          | none => rfl
          | some o => rw [F.keep _ _ e] at hDnone; cases hDnone
      · refine ⟨hs''.extBut _ _ (fun q => ?_) (hs₂.extBut _ _ (N p hp).2.1 (keep _ _ (N p hp).1)), (N p hp).2⟩
        have := up _ _ (N p hp).1
        rw [q, hC] at this; cases this
    · have := (N q hq).1
      rw [show q.1 = D from e, hDnone] at this; cases this

theorem compAt_list {l : Addr} {vs : List Value} {ns : List Int} {nn : Nat} {scope : Scope} {cl : List (Str × Addr)} {x : Str} {elt : Expr} {ifs : List Expr} {fm : Addr → (Str → Option Value) → Str → Option Value} {Q : Value → Shared → Prop} {pz : Int → Bool} (hh : A.handled = none)
    (F : Fr h₀ L s.heap m) (N : News h₀ L s.heap news) (hl : (l, PySem.W.listOf (List.toArray vs) nn) ∈ news) (hi : IntsAre vs ns) (hz : ns.length ≤ 10000) (hel : ∀ I, h₀.get? I = none → EltAt prog w A env scope cl x elt I s) (ht : ∀ I, (∀ p ∈ news, p.1 ≠ I) → TestsAt prog w A env scope cl x ifs pz I s)
    (h : ∀ D vs' c h' tk, Fr h₀ L h' (fm D m) → News h₀ L h' ((D, PySem.W.listOf (List.toArray vs') c) :: news) → OffD D news → IntsAre vs' (ns.filter pz) → Q (.ref D) { s with heap := h', toks := tk }) :
    CompAt prog w A h₀ L env scope cl x elt ifs fm Q (.ref l) s := by
  have hls := ls_list N hl
  have hlt : l < s.heap.objs.size := Heap.lt_size (N _ hl).1
  have hlen := hi.length
  refine ⟨m, news, ns, pz, s.heap.objs.size, _, _, _, _, _, F, N, rfl, fun E R hR => wpAny_pyIter_list hls hR, Walks.list hh _ _ (Nat.ne_of_lt hlt) vs.toArray, ?_, ⟨⟨_, Heap.get?_push_size _ rfl, rfl, rfl⟩, hls.push _⟩, ?_, ?_, ?_, hel _ (next_is_new F), ht _ fun p hp => Nat.ne_of_lt (Heap.lt_size (N p hp).1), h⟩
  · rw [List.size_toArray, sizeLine_eq]; omega
  · intro b hb
    rw [Heap.size_push]
    rcases List.mem_cons.mp hb with rfl | hb
    · exact Nat.lt_succ_self _
    · rw [List.mem_singleton.mp hb]; exact Nat.lt_succ_of_lt hlt
  · intro i v hv
    obtain ⟨k, t, e, _⟩ := hi.at i v (by simpa using hv)
    exact ⟨k, t, e⟩
  · intro vs2 hl2 hp2
    have e : vs2 = vs := by simpa using list_of_places hl2 hp2
    rw [e]; exact hi

theorem compAt_tuple {l : Addr} {vs : List Value} {ns : List Int} {scope : Scope} {cl : List (Str × Addr)} {x : Str} {elt : Expr} {ifs : List Expr} {fm : Addr → (Str → Option Value) → Str → Option Value} {Q : Value → Shared → Prop} {pz : Int → Bool} (hh : A.handled = none)
    (F : Fr h₀ L s.heap m) (N : News h₀ L s.heap news) (hl : (l, ({ cls := .type "tuple", data := .seq (List.toArray vs) } : Obj)) ∈ news) (hi : IntsAre vs ns) (hz : ns.length ≤ 10000) (hel : ∀ I, h₀.get? I = none → EltAt prog w A env scope cl x elt I s) (ht : ∀ I, (∀ p ∈ news, p.1 ≠ I) → TestsAt prog w A env scope cl x ifs pz I s)
    (h : ∀ D vs' c h' tk, Fr h₀ L h' (fm D m) → News h₀ L h' ((D, PySem.W.listOf (List.toArray vs') c) :: news) → OffD D news → IntsAre vs' (ns.filter pz) → Q (.ref D) { s with heap := h', toks := tk }) :
    CompAt prog w A h₀ L env scope cl x elt ifs fm Q (.ref l) s := by
  have hls : s.heap.IsTuple l vs.toArray := ⟨_, (N _ hl).1, rfl, _, rfl⟩
  have hlt : l < s.heap.objs.size := Heap.lt_size (N _ hl).1
  have hlen := hi.length
  refine ⟨m, news, ns, pz, s.heap.objs.size, _, _, _, _, _, F, N, rfl, fun E R hR => wpAny_pyIter_tuple hls hR, Walks.tuple hh _ _ (Nat.ne_of_lt hlt) vs.toArray, ?_, ⟨⟨_, Heap.get?_push_size _ rfl, rfl, rfl⟩, hls.push _⟩, ?_, ?_, ?_, hel _ (next_is_new F), ht _ fun p hp => Nat.ne_of_lt (Heap.lt_size (N p hp).1), h⟩
  · rw [List.size_toArray, sizeLine_eq]; omega
  · intro b hb
    rw [Heap.size_push]
    rcases List.mem_cons.mp hb with rfl | hb
    · exact Nat.lt_succ_self _
    · rw [List.mem_singleton.mp hb]; exact Nat.lt_succ_of_lt hlt
  · intro i v hv
    obtain ⟨k, t, e, _⟩ := hi.at i v (by simpa using hv)
    exact ⟨k, t, e⟩
  · intro vs2 hl2 hp2
    have e : vs2 = vs := by simpa using list_of_places hl2 hp2
    rw [e]; exact hi

theorem compAt_range {r : Addr} {a b st : Int} {t u v : Tok} {n : Nat} {scope : Scope} {cl : List (Str × Addr)} {x : Str} {elt : Expr} {ifs : List Expr} {fm : Addr → (Str → Option Value) → Str → Option Value} {Q : Value → Shared → Prop} {pz : Int → Bool} (hh : A.handled = none)
    (F : Fr h₀ L s.heap m) (N : News h₀ L s.heap news) (hr : IsRange s.heap r a b st t u v) (hsm : Builtin.Range.small a b st = true) (hn : Builtin.Range.rangeSize a b st = (n : Int)) (hz : n ≤ 10000)
    (hel : ∀ I, h₀.get? I = none → EltAt prog w A env scope cl x elt I s) (ht : ∀ I, (∀ p ∈ news, p.1 ≠ I) → TestsAt prog w A env scope cl x ifs pz I s)
    (h : ∀ D vs' c h' tk, Fr h₀ L h' (fm D m) → News h₀ L h' ((D, PySem.W.listOf (List.toArray vs') c) :: news) → OffD D news → IntsAre vs' (((List.range n).map fun (i : Nat) => a + (i : Int) * st).filter pz) → Q (.ref D) { s with heap := h', toks := tk }) :
    CompAt prog w A h₀ L env scope cl x elt ifs fm Q (.ref r) s := by
  refine ⟨m, news, _, pz, s.heap.objs.size, _, _, _, _, _, F, N, rfl, fun E R hR => wpAny_pyIter_range hr hsm hR, Walks.range hh _ a st n, ?_, (by show IsRangeIter _ _ _ _ _; rw [hn]; simpa using Heap.get?_push_size _ rfl), ?_, ?_, ?_, hel _ (next_is_new F), ht _ fun p hp => Nat.ne_of_lt (Heap.lt_size (N p hp).1), h⟩
  · rw [sizeLine_eq]; omega
  · intro b hb
    rw [Heap.size_push, List.mem_singleton.mp hb]
    exact Nat.lt_succ_self _
  · rintro i v ⟨t, e⟩; exact ⟨_, t, e⟩
  · intro vs2 hl2 hp2
    refine kdy_ints (by simp [hl2]) fun j v hv => ?_
    obtain ⟨t, e⟩ := hp2 j v hv
    have hj : j < n := by
      rw [← hl2]
      rcases Nat.lt_or_ge j vs2.length with h | h
      · exact h
      · rw [List.getElem?_eq_none h] at hv; cases hv
    exact ⟨_, by simp [hj], t, e⟩
end
local macro_rules | `(tactic| k_ne) => `(tactic| (refine neN ?_; (try dsimp only); first
  | exact Nat.ne_of_lt (by with_reducible assumption)
  | exact Nat.ne_of_gt (by with_reducible assumption)
  | exact offd_r (by with_reducible assumption) (by with_reducible ((repeat (first | apply List.mem_cons_self | apply List.mem_cons_of_mem)); done))
  | exact offd_l (by with_reducible assumption) (by with_reducible ((repeat (first | apply List.mem_cons_self | apply List.mem_cons_of_mem)); done))
  | ((repeat ((with_reducible rename AllDif _ => q9); first | (refine dif_use q9 ?_; (with_reducible (repeat (first | (apply sep1; (repeat (first | apply List.mem_cons_self | apply List.mem_cons_of_mem)); done) | (apply sep2; (repeat (first | apply List.mem_cons_self | apply List.mem_cons_of_mem)); done) | apply sep3))); done) | clear q9)); done)))
local macro_rules | `(tactic| tb_rel) => `(tactic| first | exact Pick.head | (apply Pick.tail; tb_rel))
local macro_rules | `(tactic| ktr_rel) => `(tactic| first
  | with_reducible assumption
  | exact off_nil
  | (refine' off_cons ?_ ?_; ((repeat' (first | exact True.intro | (refine' And.intro ?_ ?_))) <;> k_ne); ktr_rel)
  | exact offv_nil
  | (refine' offv_cons ?_ ?_; (first | exact OwnOff.ne (by assumption) (by k_memK) | exact offv_lt (by assumption) | exact offv_lt' (by assumption) | exact offd_tail (by assumption) (by (intro p hp; k_ownIn))); ktr_rel))
local macro_rules | `(tactic| walk_at "setItem ref int") => `(tactic| (k_here; k_dflt (refine' st_set ?F ?N ?U ?d ?z ?_; (case F | N => k_asm); (case U => k_updF); (case d => k_asm); (case z => omega); k_whole); intro h' o' F' N' D'; (try dsimp only at N'); (try k_sweep)))
local macro_rules | `(tactic| walk_at "compareOp In int ref") => `(tactic| (k_here; k_dflt (refine' st_in ?N ?p ?d ?_; (case N => k_asm); (case p => k_mem); (case d => k_asm); k_whole)))
local macro_rules | `(tactic| walk_at "compareOp NotIn int ref") => `(tactic| (k_here; k_dflt (refine' st_notin ?N ?p ?d ?_; (case N => k_asm); (case p => k_mem); (case d => k_asm); k_whole)))
local macro_rules | `(tactic| walk_at "getMethod ref") => `(tactic| (k_here; k_dflt (refine' st_popM ?N ?p ?d ?_; (case N => k_asm); (case p => k_mem); (case d => k_asm); k_whole)))
local macro_rules | `(tactic| walk_at "call builtin:dict.pop") => `(tactic| (k_here; k_dflt (refine' st_pop ?F ?N ?U ?d ?k ?z ?_; (case F | N => k_asm); (case U => k_updF); (case d => k_asm); (case k => first | assumption | (simp_all; done)); (case z => omega); k_whole); intro h' o' v' F' N' D'; (try dsimp only at N'); (try k_sweep)))
local macro_rules | `(tactic| walk_at "call builtin:sorted") => `(tactic| (k_here; k_dflt (refine' st_sorted ?h ?F ?N ?p ?d ?z ?_; (case h => exact rfl); (case F | N => k_asm); (case p => k_mem); (case d => k_asm); (case z => omega); k_whole); intro D' h' tk' v' n' c' F' N' l1 i' p' o'; (try k_lt l1); (repeat (have l9 := And.left l1; replace l1 := And.right l1)); (try k_sweep)))
local macro_rules | `(tactic| walk_at "eval Dict nil nil") => `(tactic| (k_here; k_dflt (refine' st_new ?k1 ?k2 (TopRead.nolimit (by k_asm)) ?_; (case k1 | k2 => k_asm); k_whole); intro d' h' o' F' N' l1 S'; (try k_lt l1); (repeat (have l9 := And.left l1; replace l1 := And.right l1)); (try k_sweep)))
local macro_rules | `(tactic| tb_start) => `(tactic| first
  | exact List.forall_mem_nil _
  | (refine' List.forall_mem_cons.mpr ⟨?_, ?_⟩; k_memK; tb_start)
  | (intro p hp; k_ownIn))
local macro_rules | `(tactic| kwd_less) => `(tactic| first | ktr_units | (have hcL9 := cLine_is; (simp only [units_under_make, units_in1, units_deeper, Around.mark_units, units_caller] at *); (try dsimp only [ktrTop] at *); omega))
local macro_rules | `(tactic| kxs_still) => `(tactic| first | omega | ((try simp only [List.length_nil, List.length_cons, List.length_append] at *); omega) | ((rename List.Perm _ _ => hp9); (have hl9 := List.Perm.length_eq hp9); omega))
local macro_rules | `(tactic| kwd_inv) => `(tactic| ((try k_sweep); (try dsimp only); (try k_fold)))
-- part C2
section
set_option maxHeartbeats 4000000 in
theorem set_tells {prog : Program} {w : World} {mean : ExcName → Option Value} {mg mb : Str → Option Value} {p : Program} {loose : List Str} {dp un : Nat} {gd : Option (List Code)} {cn : Str} {cs : Scope} {a : Addr} {ccd : Value} {cl : List (Str × Addr)} {outer : List Env} {A₀ : Around} {base h₀ : Heap} {L : Addr} {m : Str → Option Value} {s : Shared} {Q E : Value → Shared → Prop} {x dx d : Addr} {hcdx hsdx : Int} {t1dx t2dx tcdx : Tok} {o : Obj} {c k : Int} {tk : Tok} {ks : List Int} {news r1 r2 rest : List (Addr × Obj)}
    (B : Below A₀ base outer h₀) (F : Fr h₀ L s.heap m) (X : (hd.heap_39 w.params).In h₀) (T : Top p loose mean mg mb h₀) (hk : cs.kind = .function) (N : News h₀ L s.heap news) (px : Pick x (instObj 109 dx) news r1) (pdx : Pick dx (PySem.W.dictOf [⟨hcdx, Value.str (Str.ofString "columns") t1dx, Value.int c tcdx⟩, ⟨hsdx, Value.str (Str.ofString "stops") t2dx, Value.ref d⟩] 2) r1 r2) (pd : Pick d o r2 rest) (hr : OwnOff rest [d, dx, x]) (h1 : @Ne Nat d dx) (h2 : @Ne Nat d x) (h3 : @Ne Nat dx x)
    (S : Stops prog w d o ks) (hz : ks.length ≤ 10000) (hd : dp + 5 < recursionLimit) (hu : un + 50 < cLine)
    (ret : ∀ h' o' tk', Fr h₀ L h' m → News h₀ L h' ((d, o') :: (dx, PySem.W.dictOf [⟨hcdx, Value.str (Str.ofString "columns") t1dx, Value.int c tcdx⟩, ⟨hsdx, Value.str (Str.ofString "stops") t2dx, Value.ref d⟩] 2) :: (x, instObj 109 dx) :: rest) → Stops prog w d o' (if 0 ≤ k ∧ k < c then putK ks k else ks) → Q .none { s with heap := h', toks := tk' }) :
    wpAny (model prog w) (ktrTop dp un gd cn cs L a ccd cl outer) (call (.ref 42) [.ref x, .int k tk]) Q E s := by
  replace N := pick3 N px pdx pd; clear px pdx pd
  refine wpAny_call ?_
  k_dflt cell_enter
  k_steps
  all_goals (refine ret _ _ _ (by k_asm) (by k_asm) ?_)
  · rwa [if_pos ⟨by assumption, by assumption⟩]
  · rwa [if_neg (by omega)]
  · rwa [if_neg (by omega)]

set_option maxHeartbeats 4000000 in
theorem clear_tells {prog : Program} {w : World} {mean : ExcName → Option Value} {mg mb : Str → Option Value} {p : Program} {loose : List Str} {dp un : Nat} {gd : Option (List Code)} {cn : Str} {cs : Scope} {a : Addr} {ccd : Value} {cl : List (Str × Addr)} {outer : List Env} {A₀ : Around} {base h₀ : Heap} {L : Addr} {m : Str → Option Value} {s : Shared} {Q E : Value → Shared → Prop} {x dx d : Addr} {hcdx hsdx : Int} {t1dx t2dx tcdx : Tok} {o : Obj} {c k : Int} {tk : Tok} {ks : List Int} {news r1 r2 rest : List (Addr × Obj)}
    (B : Below A₀ base outer h₀) (F : Fr h₀ L s.heap m) (X : (hd.heap_39 w.params).In h₀) (T : Top p loose mean mg mb h₀) (hk : cs.kind = .function) (N : News h₀ L s.heap news) (px : Pick x (instObj 109 dx) news r1) (pdx : Pick dx (PySem.W.dictOf [⟨hcdx, Value.str (Str.ofString "columns") t1dx, Value.int c tcdx⟩, ⟨hsdx, Value.str (Str.ofString "stops") t2dx, Value.ref d⟩] 2) r1 r2) (pd : Pick d o r2 rest) (hr : OwnOff rest [d, dx, x]) (h1 : @Ne Nat d dx) (h2 : @Ne Nat d x) (h3 : @Ne Nat dx x)
    (S : Stops prog w d o ks) (hz : ks.length ≤ 10000) (hd : dp + 5 < recursionLimit) (hu : un + 50 < cLine)
    (ret : ∀ h' o' tk', Fr h₀ L h' m → News h₀ L h' ((d, o') :: (dx, PySem.W.dictOf [⟨hcdx, Value.str (Str.ofString "columns") t1dx, Value.int c tcdx⟩, ⟨hsdx, Value.str (Str.ofString "stops") t2dx, Value.ref d⟩] 2) :: (x, instObj 109 dx) :: rest) → Stops prog w d o' (if k ∈ ks then delK ks k else ks) → Q .none { s with heap := h', toks := tk' }) :
    wpAny (model prog w) (ktrTop dp un gd cn cs L a ccd cl outer) (call (.ref 49) [.ref x, .int k tk]) Q E s := by
  replace N := pick3 N px pdx pd; clear px pdx pd
  refine wpAny_call ?_
  k_dflt cell_enter
  k_steps
  all_goals (refine ret _ _ _ (by k_asm) (by k_asm) ?_)
  · rwa [if_pos (by assumption)]
  · rwa [if_neg (by assumption)]

theorem stops_nil {prog : Program} {w : World} {d : Addr} {o : Obj} (lo : (d == sysModules) = false) (h : o.IsDictOf (PySem.intKind prog w) []) : Stops prog w d o [] := ⟨lo, [], h, rfl⟩

set_option maxHeartbeats 4000000 in
theorem clear_all_tells {prog : Program} {w : World} {mean : ExcName → Option Value} {mg mb : Str → Option Value} {p : Program} {loose : List Str} {dp un : Nat} {gd : Option (List Code)} {cn : Str} {cs : Scope} {a : Addr} {ccd : Value} {cl : List (Str × Addr)} {outer : List Env} {A₀ : Around} {base h₀ : Heap} {L : Addr} {m : Str → Option Value} {s : Shared} {Q E : Value → Shared → Prop} {x dx d : Addr} {hcdx hsdx : Int} {t1dx t2dx tcdx : Tok} {c : Int} {news r1 r2 rest : List (Addr × Obj)}
    (B : Below A₀ base outer h₀) (F : Fr h₀ L s.heap m) (X : (hd.heap_39 w.params).In h₀) (T : Top p loose mean mg mb h₀) (hk : cs.kind = .function) (N : News h₀ L s.heap news) (px : Pick x (instObj 109 dx) news r1) (pdx : Pick dx (PySem.W.dictOf [⟨hcdx, Value.str (Str.ofString "columns") t1dx, Value.int c tcdx⟩, ⟨hsdx, Value.str (Str.ofString "stops") t2dx, Value.ref d⟩] 2) r1 rest) (hr : OwnOff rest [dx, x]) (h3 : @Ne Nat dx x)
    (hd : dp + 5 < recursionLimit) (hu : un + 50 < cLine)
    (ret : ∀ (d' : Addr) h' o' tk', Fr h₀ L h' m → News h₀ L h' ((d', o') :: (dx, PySem.W.dictOf [⟨hcdx, Value.str (Str.ofString "columns") t1dx, Value.int c tcdx⟩, ⟨hsdx, Value.str (Str.ofString "stops") t2dx, Value.ref d'⟩] 2) :: (x, instObj 109 dx) :: rest) → Stops prog w d' o' [] → (∀ q ∈ rest, q.1 < d') → @LT.lt Nat _ dx d' → @LT.lt Nat _ x d' → Q .none { s with heap := h', toks := tk' }) :
    wpAny (model prog w) (ktrTop dp un gd cn cs L a ccd cl outer) (call (.ref 56) [.ref x]) Q E s := by
  replace N := pick2 N px pdx; clear px pdx
  refine wpAny_call ?_
  k_dflt cell_enter
  k_steps
  exact ret _ _ _ _ (by k_asm) (by k_asm) (by assumption) (kst_ltOf (by assumption)) (by assumption) (by assumption)

set_option maxHeartbeats 4000000 in
theorem told_tells {prog : Program} {w : World} {mean : ExcName → Option Value} {mg mb : Str → Option Value} {p : Program} {loose : List Str} {dp un : Nat} {gd : Option (List Code)} {cn : Str} {cs : Scope} {a : Addr} {ccd : Value} {cl : List (Str × Addr)} {outer : List Env} {A₀ : Around} {base h₀ : Heap} {L : Addr} {m : Str → Option Value} {s : Shared} {Q E : Value → Shared → Prop} {x dx d : Addr} {hcdx hsdx : Int} {t1dx t2dx tcdx : Tok} {o : Obj} {c : Int} {ks : List Int} {news r1 r2 rest : List (Addr × Obj)}
    (B : Below A₀ base outer h₀) (F : Fr h₀ L s.heap m) (X : (hd.heap_39 w.params).In h₀) (T : Top p loose mean mg mb h₀) (hk : cs.kind = .function) (N : News h₀ L s.heap news) (px : Pick x (instObj 109 dx) news r1) (pdx : Pick dx (PySem.W.dictOf [⟨hcdx, Value.str (Str.ofString "columns") t1dx, Value.int c tcdx⟩, ⟨hsdx, Value.str (Str.ofString "stops") t2dx, Value.ref d⟩] 2) r1 r2) (pd : Pick d o r2 rest)
    (S : Stops prog w d o ks) (hz : ks.length < 64) (hd : dp + 5 < recursionLimit) (hu : un + 50 < cLine)
    (ret : ∀ (D : Addr) h' vs ns n tk', Fr h₀ L h' m → News h₀ L h' ((D, PySem.W.listOf (List.toArray vs) n) :: news) → (∀ q ∈ news, q.1 < D) → IntsAre vs ns → ns.Perm ks → ns.Pairwise (· ≤ ·) → Q (.ref D) { s with heap := h', toks := tk' }) :
    wpAny (model prog w) (ktrTop dp un gd cn cs L a ccd cl outer) (call (.ref 70) [.ref x]) Q E s := by
  replace N := pick3 N px pdx pd
  refine wpAny_call ?_
  k_dflt cell_enter
  k_steps
  exact ret _ _ _ _ _ _ (by k_asm) (unpick3c (by k_asm) px pdx pd) (lt_unpick3 px pdx pd (by assumption) (by assumption) (by assumption) (by assumption)) (by assumption) (by assumption) (by assumption)

def ups (c : Int) : List Int := (List.range (Builtin.Range.rangeSize 8 c 8).toNat).map fun (i : Nat) => 8 + (i : Int) * 8
def putF (b : Int) (ks : List Int) (k : Int) : List Int := if b ≤ k then putK ks k else ks
theorem small8 {c : Int} (h0 : 0 ≤ c) (h1 : c ≤ 1000) : Builtin.Range.small 8 c 8 = true := by
  unfold Builtin.Range.small Builtin.Range.rangeSize
  simp only [Builtin.Range.rangeFitsLong, Bool.and_eq_true, Bool.or_eq_true, decide_eq_true_eq, beq_iff_eq, show (8 : Int) > 0 by decide, if_true]
  split <;> omega
theorem size8 (c : Int) : Builtin.Range.rangeSize 8 c 8 = ((Builtin.Range.rangeSize 8 c 8).toNat : Int) := by
  unfold Builtin.Range.rangeSize
  simp only [show (8 : Int) > 0 by decide, if_true]
  split <;> omega
theorem size8_le {c : Int} (h1 : c ≤ 1000) : (Builtin.Range.rangeSize 8 c 8).toNat ≤ 1000 := by
  unfold Builtin.Range.rangeSize
  simp only [show (8 : Int) > 0 by decide, if_true]
  split <;> omega
theorem putK_len (ks : List Int) (k : Int) : (putK ks k).length ≤ ks.length + 1 := by
  unfold putK; split <;> simp
theorem putF_len (b : Int) (ks : List Int) (k : Int) : (putF b ks k).length ≤ ks.length + 1 := by
  unfold putF; split
  · exact putK_len _ _
  · omega
theorem ups_take {c : Int} {i : Nat} (h : i < (Builtin.Range.rangeSize 8 c 8).toNat) : (ups c).take (i + 1) = (ups c).take i ++ [8 + (i : Int) * 8] := by
  unfold ups
  rw [List.take_add_one]
  congr 1
  simp [h]

set_option maxHeartbeats 4000000 in
theorem put_eighths_tells {prog : Program} {w : World} {mean : ExcName → Option Value} {mg mb : Str → Option Value} {p : Program} {loose : List Str} {dp un : Nat} {gd : Option (List Code)} {cn : Str} {cs : Scope} {a : Addr} {ccd : Value} {cl : List (Str × Addr)} {outer : List Env} {A₀ : Around} {base h₀ : Heap} {L : Addr} {m : Str → Option Value} {s : Shared} {Q E : Value → Shared → Prop} {x dx d : Addr} {hcdx hsdx : Int} {t1dx t2dx tcdx : Tok} {o : Obj} {c b : Int} {tk : Tok} {ks : List Int} {news r1 r2 rest : List (Addr × Obj)}
    (B : Below A₀ base outer h₀) (F : Fr h₀ L s.heap m) (X : (hd.heap_39 w.params).In h₀) (T : Top p loose mean mg mb h₀) (hk : cs.kind = .function) (N : News h₀ L s.heap news) (px : Pick x (instObj 109 dx) news r1) (pdx : Pick dx (PySem.W.dictOf [⟨hcdx, Value.str (Str.ofString "columns") t1dx, Value.int c tcdx⟩, ⟨hsdx, Value.str (Str.ofString "stops") t2dx, Value.ref d⟩] 2) r1 r2) (pd : Pick d o r2 rest) (hr : OwnOff rest [d, dx, x]) (h1 : @Ne Nat d dx) (h2 : @Ne Nat d x) (h3 : @Ne Nat dx x)
    (S : Stops prog w d o ks) (hz : ks.length ≤ 5000) (hc0 : 0 ≤ c) (hc1 : c ≤ 1000) (hd : dp + 5 < recursionLimit) (hu : un + 50 < cLine)
    (ret : ∀ h' o' tk', Fr h₀ L h' m → News h₀ L h' ((d, o') :: (dx, PySem.W.dictOf [⟨hcdx, Value.str (Str.ofString "columns") t1dx, Value.int c tcdx⟩, ⟨hsdx, Value.str (Str.ofString "stops") t2dx, Value.ref d⟩] 2) :: (x, instObj 109 dx) :: rest) → Stops prog w d o' ((ups c).foldl (putF b) ks) → Q .none { s with heap := h', toks := tk' }) :
    wpAny (model prog w) (ktrTop dp un gd cn cs L a ccd cl outer) (call (.ref 35) [.ref x, .int b tk]) Q E s := by
  replace N := pick3 N px pdx pd; clear px pdx pd
  refine wpAny_call ?_
  k_dflt cell_enter
  k_steps
  (rename Fr _ _ _ _ => lF'); (rename News _ _ _ _ => lN'); (rename IsRange _ _ _ _ _ _ _ _ => rgX)
  k_dflt (refine' loopRangeD (fun i o ks' => Stops prog w d o ks' ∧ ks' = ((ups c).take i).foldl (putF b) ks ∧ ks'.length ≤ ks.length + i) ks rfl rgX (small8 hc0 hc1) (size8 c) lF' lN' ⟨S, rfl, Nat.le_refl _⟩ ?turn ?done)
  · intro i t o' ks' I h tk io hi hI e1 e2 F₁ N₁
    obtain ⟨S', hs, hl⟩ := hI
    have hn := size8_le (c := c) hc1
    k_steps
    · refine turnEndD _ (by k_asm) (by k_asm) (by k_memK) (by k_memK) (by tb_start) e1 e2 (fun z hz => if_neg hz) ⟨by k_asm, ?_, ?_⟩
      · rw [ups_take hi, List.foldl_append, ← hs]; exact (if_pos (by assumption)).symm
      · exact Nat.le_trans (putK_len _ _) (by omega)
    · refine turnEndD ks' (by k_asm) (by k_asm) (by k_memK) (by k_memK) (by tb_start) e1 e2 (fun z hz => if_neg hz) ⟨by k_asm, ?_, ?_⟩
      · rw [ups_take hi, List.foldl_append, ← hs]; exact (if_neg (by assumption)).symm
      · show ks'.length ≤ _
        omega
  · intro o' ks' u h tk hI F₁ N₁
    obtain ⟨S', hs, hl⟩ := hI
    k_steps
    refine ret _ _ _ (by k_asm) (by k_asm) ?_
    rw [List.take_of_length_le (by simp [ups])] at hs
    rw [← hs]; exact S'
end
local macro_rules | `(tactic| walk_at "call ref") => `(tactic| (k_here; k_dflt (refine' set_tells ?u0 ?u1 ?u2 ?u3 ?u4 ?u5 ?u6 ?u7 ?u8 ?u9 ?u10 ?u11 ?u12 ?u13 ?u14 ?u15 ?u16 ?_; (case u0 | u1 | u2 | u3 => k_asm); (case u4 => first | exact rfl | assumption); (case u5 => k_asm); (case u6 | u7 | u8 => tb_rel); (case u9 => ktr_rel); (case u10 | u11 | u12 => k_ne); (case u13 => k_asm); (case u14 => kxs_still); (case u15 => ktr_room); (case u16 => kwd_less); k_whole); intros; kwd_inv))
local macro_rules | `(tactic| walk_at "call ref") => `(tactic| (k_here; k_dflt (refine' put_eighths_tells ?u0 ?u1 ?u2 ?u3 ?u4 ?u5 ?u6 ?u7 ?u8 ?u9 ?u10 ?u11 ?u12 ?u13 ?u14 ?u15 ?u16 ?u17 ?u18 ?_; (case u0 | u1 | u2 | u3 => k_asm); (case u4 => first | exact rfl | assumption); (case u5 => k_asm); (case u6 | u7 | u8 => tb_rel); (case u9 => ktr_rel); (case u10 | u11 | u12 => k_ne); (case u13 => k_asm); (case u14 => kxs_still); (case u15 | u16 => first | assumption | omega); (case u17 => ktr_room); (case u18 => kwd_less); k_whole); intros; kwd_inv))
local macro_rules | `(tactic| walk_at "call ref") => `(tactic| (k_here; k_dflt (refine' told_tells ?u0 ?u1 ?u2 ?u3 ?u4 ?u5 ?u6 ?u7 ?u8 ?u9 ?u10 ?u11 ?u12 ?_; (case u0 | u1 | u2 | u3 => k_asm); (case u4 => first | exact rfl | assumption); (case u5 => k_asm); (case u6 | u7 | u8 => tb_rel); (case u9 => k_asm); (case u10 => kxs_still); (case u11 => ktr_room); (case u12 => kwd_less); k_whole); intro D' h' v' n' c' tk' F' N' l1 i' p' o'; (try k_lt l1); (repeat (have l9 := And.left l1; replace l1 := And.right l1)); kwd_inv))
-- part C3
section
set_option maxHeartbeats 4000000 in
theorem reset_tells {prog : Program} {w : World} {mean : ExcName → Option Value} {mg mb : Str → Option Value} {p : Program} {loose : List Str} {dp un : Nat} {gd : Option (List Code)} {cn : Str} {cs : Scope} {a : Addr} {ccd : Value} {cl : List (Str × Addr)} {outer : List Env} {A₀ : Around} {base h₀ : Heap} {L : Addr} {m : Str → Option Value} {s : Shared} {Q E : Value → Shared → Prop} {x dx d : Addr} {hcdx hsdx : Int} {t1dx t2dx tcdx : Tok} {c : Int} {news r1 r2 rest : List (Addr × Obj)}
    (B : Below A₀ base outer h₀) (F : Fr h₀ L s.heap m) (X : (hd.heap_39 w.params).In h₀) (T : Top p loose mean mg mb h₀) (hk : cs.kind = .function) (N : News h₀ L s.heap news) (px : Pick x (instObj 109 dx) news r1) (pdx : Pick dx (PySem.W.dictOf [⟨hcdx, Value.str (Str.ofString "columns") t1dx, Value.int c tcdx⟩, ⟨hsdx, Value.str (Str.ofString "stops") t2dx, Value.ref d⟩] 2) r1 rest) (hr : OwnOff rest [dx, x]) (h3 : @Ne Nat dx x)
    (hc0 : 0 ≤ c) (hc1 : c ≤ 1000) (hd : dp + 10 < recursionLimit) (hu : un + 60 < cLine)
    (ret : ∀ (d' : Addr) h' o' tk', Fr h₀ L h' m → News h₀ L h' ((d', o') :: (dx, PySem.W.dictOf [⟨hcdx, Value.str (Str.ofString "columns") t1dx, Value.int c tcdx⟩, ⟨hsdx, Value.str (Str.ofString "stops") t2dx, Value.ref d'⟩] 2) :: (x, instObj 109 dx) :: rest) → Stops prog w d' o' ((ups c).foldl (putF 0) []) → (∀ q ∈ rest, q.1 < d') → @LT.lt Nat _ dx d' → @LT.lt Nat _ x d' → Q .none { s with heap := h', toks := tk' }) :
    wpAny (model prog w) (ktrTop dp un gd cn cs L a ccd cl outer) (call (.ref 63) [.ref x]) Q E s := by
  replace N := pick2 N px pdx; clear px pdx
  refine wpAny_call ?_
  k_dflt cell_enter
  k_steps
  exact ret _ _ _ _ (by k_asm) (by k_asm) (by assumption) (kst_ltOf (by assumption)) (by assumption) (by assumption)
end
-- part C4
section
def putC (c : Int) (ks : List Int) (k : Int) : List Int := if 0 ≤ k ∧ k < c then putK ks k else ks
theorem putC_len (c : Int) (ks : List Int) (k : Int) : (putC c ks k).length ≤ ks.length + 1 := by
  unfold putC; split
  · exact putK_len _ _
  · omega

set_option maxHeartbeats 4000000 in
theorem put_tells {prog : Program} {w : World} {mean : ExcName → Option Value} {mg mb : Str → Option Value} {p : Program} {loose : List Str} {dp un : Nat} {gd : Option (List Code)} {cn : Str} {cs : Scope} {a : Addr} {ccd : Value} {cl : List (Str × Addr)} {outer : List Env} {A₀ : Around} {base h₀ : Heap} {L : Addr} {m : Str → Option Value} {s : Shared} {Q E : Value → Shared → Prop} {x dx d l : Addr} {hcdx hsdx : Int} {t1dx t2dx tcdx : Tok} {c : Int} {vs : List Value} {ns : List Int} {nn : Nat} {news r1 r2 rest : List (Addr × Obj)}
    (B : Below A₀ base outer h₀) (F : Fr h₀ L s.heap m) (X : (hd.heap_39 w.params).In h₀) (T : Top p loose mean mg mb h₀) (hk : cs.kind = .function) (N : News h₀ L s.heap news) (px : Pick x (instObj 109 dx) news r1) (pdx : Pick dx (PySem.W.dictOf [⟨hcdx, Value.str (Str.ofString "columns") t1dx, Value.int c tcdx⟩, ⟨hsdx, Value.str (Str.ofString "stops") t2dx, Value.ref d⟩] 2) r1 r2) (pl : Pick l (PySem.W.listOf (List.toArray vs) nn) r2 rest)
    (hr : OwnOff rest [dx, x, l]) (h1 : @Ne Nat l dx) (h2 : @Ne Nat l x) (h3 : @Ne Nat dx x) (hi : IntsAre vs ns) (hz : ns.length ≤ 5000)
    (hd : dp + 10 < recursionLimit) (hu : un + 60 < cLine)
    (ret : ∀ (d' : Addr) h' o' tk', Fr h₀ L h' m → News h₀ L h' ((d', o') :: (dx, PySem.W.dictOf [⟨hcdx, Value.str (Str.ofString "columns") t1dx, Value.int c tcdx⟩, ⟨hsdx, Value.str (Str.ofString "stops") t2dx, Value.ref d'⟩] 2) :: (x, instObj 109 dx) :: (l, PySem.W.listOf (List.toArray vs) nn) :: rest) → Stops prog w d' o' (ns.foldl (putC c) []) → (∀ q ∈ (l, PySem.W.listOf (List.toArray vs) nn) :: rest, q.1 < d') → @LT.lt Nat _ dx d' → @LT.lt Nat _ x d' → Q .none { s with heap := h', toks := tk' }) :
    wpAny (model prog w) (ktrTop dp un gd cn cs L a ccd cl outer) (call (.ref 77) [.ref x, .ref l]) Q E s := by
  replace N := pick3 N px pdx pl; clear px pdx pl
  refine wpAny_call ?_
  k_dflt cell_enter
  k_steps
  (rename Fr _ _ _ _ => lF'); (rename News _ _ _ _ => lN'); (rename Stops _ _ _ _ _ => S0)
  k_dflt (refine' loopListD (fun i o ks' => Stops prog w _ o ks' ∧ ks' = (ns.take i).foldl (putC c) [] ∧ ks'.length ≤ i) [] rfl (.head _) (by assumption) lF' lN' ⟨S0, rfl, Nat.le_refl _⟩ ?turn ?done)
  · intro i k t o' ks' I h tk io hi hI e1 e2 F₁ N₁
    obtain ⟨S', hs, hl⟩ := hI
    have e3 : @Ne Nat l I := e2 (l, _) (by k_memK)
    have e4 : @Ne Nat dx I := e2 (dx, _) (by k_memK)
    have e5 : @Ne Nat x I := e2 (x, _) (by k_memK)
    have hn : i < ns.length := by
      rcases Nat.lt_or_ge i ns.length with h | h
      · exact h
      · rw [List.getElem?_eq_none h] at hi; cases hi
    k_steps
    refine turnEndD _ (by k_asm) (by k_asm) (by k_memK) (by k_memK) (by tb_start) e1 e2 (fun z hz => if_neg hz) ⟨by k_asm, ?_, ?_⟩
    · rw [List.take_add_one, hi, Option.toList_some, List.foldl_append, ← hs]; rfl
    · exact Nat.le_trans (putC_len _ _ _) (by omega)
  · intro o' ks' u h tk hI F₁ N₁
    obtain ⟨S', hs, hl⟩ := hI
    k_steps
    rw [List.take_length] at hs
    subst hs
    exact ret _ _ _ _ (by k_asm) (kst_newsOf (by k_asm) (by tb_start)) S' (List.forall_mem_cons.mpr ⟨by assumption, kst_ltOf (by assumption)⟩) (by assumption) (by assumption)
end
-- part C5
section
local macro_rules | `(tactic| walk_at "exec While") => `(tactic| refine held_of ?_)
/-- the next stop behind c, at most b -/
def NextIs (ks : List Int) (c b r : Int) : Prop := if c < b then c < r ∧ r ≤ b ∧ (r = b ∨ r ∈ ks) ∧ ∀ j, c < j → j < r → j ∉ ks else r = c
def BackIs (ks : List Int) (c b r : Int) : Prop := if c > b then r < c ∧ b ≤ r ∧ (r = b ∨ r ∈ ks) ∧ ∀ j, j < c → r < j → j ∉ ks else r = c

set_option maxHeartbeats 4000000 in
theorem next_from_tells {prog : Program} {w : World} {mean : ExcName → Option Value} {mg mb : Str → Option Value} {p : Program} {loose : List Str} {dp un : Nat} {gd : Option (List Code)} {cn : Str} {cs : Scope} {a : Addr} {ccd : Value} {cl : List (Str × Addr)} {outer : List Env} {A₀ : Around} {base h₀ : Heap} {L : Addr} {m : Str → Option Value} {s : Shared} {Q E : Value → Shared → Prop} {x dx d : Addr} {hcdx hsdx : Int} {t1dx t2dx tcdx : Tok} {o : Obj} {c k b : Int} {tk tb : Tok} {ks : List Int} {news r1 r2 rest : List (Addr × Obj)}
    (B : Below A₀ base outer h₀) (F : Fr h₀ L s.heap m) (X : (hd.heap_39 w.params).In h₀) (T : Top p loose mean mg mb h₀) (hk : cs.kind = .function) (N : News h₀ L s.heap news) (px : Pick x (instObj 109 dx) news r1) (pdx : Pick dx (PySem.W.dictOf [⟨hcdx, Value.str (Str.ofString "columns") t1dx, Value.int c tcdx⟩, ⟨hsdx, Value.str (Str.ofString "stops") t2dx, Value.ref d⟩] 2) r1 r2) (pd : Pick d o r2 rest) (S : Stops prog w d o ks) (hd : dp + 5 < recursionLimit) (hu : un + 50 < cLine)
    (ret : ∀ r t h' tk', NextIs ks k b r → Fr h₀ L h' m → News h₀ L h' news → Q (.int r t) { s with heap := h', toks := tk' }) :
    wpAny (model prog w) (ktrTop dp un gd cn cs L a ccd cl outer) (call (.ref 84) [.ref x, .int k tk, .int b tb]) Q E s := by
  replace N := pick3 N px pdx pd
  refine wpAny_call ?_
  k_dflt cell_enter
  k_steps
  unfold Held
  (rename Fr _ _ _ _ => lF'); (rename News _ _ _ _ => lN')
  k_dflt (refine' scan_while (Str.ofString "found") (fun f => k < f ∧ (f = k + 1 ∨ f ≤ b) ∧ ∀ j, k < j → j < f → j ∉ ks) (fun f => (b - f).toNat) lF' rfl (fun z hz => if_neg hz) lN' ⟨by omega, .inl rfl, fun j h1 h2 => by omega⟩ ?turn)
  intro f t h tk ⟨q1, q2, q3⟩ F₁ N₁
  k_steps
  · refine ret _ _ _ _ ?_ (by k_asm) (unpick3 (by k_asm) px pdx pd)
    unfold NextIs
    rw [if_pos (by omega)]
    rw [if_neg (by omega)]
    exact ⟨q1, by omega, .inr (by assumption), q3⟩
  · refine scanEnd_of (by k_asm) (by k_asm) rfl (fun z hz => by simp [hz]) ⟨by omega, by omega, fun j h1 h2 => ?_⟩ (by omega)
    by_cases e : j = f
    · subst e; assumption
    · exact q3 j h1 (by omega)
  · refine ret _ _ _ _ ?_ (by k_asm) (unpick3 (by k_asm) px pdx pd)
    unfold NextIs
    rw [if_pos (by omega)]
    have e : (if b < f then b else f) = b := by split <;> omega
    rw [e]
    exact ⟨by omega, by omega, .inl rfl, fun j h1 h2 => q3 j h1 (by omega)⟩
  · refine ret _ _ _ _ ?_ (by k_asm) (unpick3 (by k_asm) px pdx pd)
    unfold NextIs
    rw [if_neg (by omega)]

set_option maxHeartbeats 4000000 in
theorem back_from_tells {prog : Program} {w : World} {mean : ExcName → Option Value} {mg mb : Str → Option Value} {p : Program} {loose : List Str} {dp un : Nat} {gd : Option (List Code)} {cn : Str} {cs : Scope} {a : Addr} {ccd : Value} {cl : List (Str × Addr)} {outer : List Env} {A₀ : Around} {base h₀ : Heap} {L : Addr} {m : Str → Option Value} {s : Shared} {Q E : Value → Shared → Prop} {x dx d : Addr} {hcdx hsdx : Int} {t1dx t2dx tcdx : Tok} {o : Obj} {c k b : Int} {tk tb : Tok} {ks : List Int} {news r1 r2 rest : List (Addr × Obj)}
    (B : Below A₀ base outer h₀) (F : Fr h₀ L s.heap m) (X : (hd.heap_39 w.params).In h₀) (T : Top p loose mean mg mb h₀) (hk : cs.kind = .function) (N : News h₀ L s.heap news) (px : Pick x (instObj 109 dx) news r1) (pdx : Pick dx (PySem.W.dictOf [⟨hcdx, Value.str (Str.ofString "columns") t1dx, Value.int c tcdx⟩, ⟨hsdx, Value.str (Str.ofString "stops") t2dx, Value.ref d⟩] 2) r1 r2) (pd : Pick d o r2 rest) (S : Stops prog w d o ks) (hd : dp + 5 < recursionLimit) (hu : un + 50 < cLine)
    (ret : ∀ r t h' tk', BackIs ks k b r → Fr h₀ L h' m → News h₀ L h' news → Q (.int r t) { s with heap := h', toks := tk' }) :
    wpAny (model prog w) (ktrTop dp un gd cn cs L a ccd cl outer) (call (.ref 92) [.ref x, .int k tk, .int b tb]) Q E s := by
  replace N := pick3 N px pdx pd
  refine wpAny_call ?_
  k_dflt (refine' code_def ?k1 ?k2 ?k3 ?k4 ?k5 ?kA ?kF ?kK ?k6 ?k7 ?k8 ?k9 ?kB ?_ ?c2 ?c3 ?c4 ?c5; (case kA | kF => exact rfl); (case kK => assumption); (case k1 | k2 => k_asm); (case k3 | k4 | k5 => k_asm); (case k6 | k7 => k_is); (case k8 => ktr_room); (case k9 => first | exact BindsTo.of_eq rfl | exact binds_K (by k_in) rfl (by k_is) rfl rfl rfl); (case c5 => decide); (case kB => exact locs rfl); (case c2 | c3 | c4 => exact rfl); k_whole; intro g' L' h' FG' F' N' B' X' T'; (try dsimp only); (try k_lift B'); (try k_fold))
  k_steps
  unfold Held
  (rename Fr _ _ _ _ => lF'); (rename News _ _ _ _ => lN')
  k_dflt (refine' scan_while (Str.ofString "found") (fun f => f < k ∧ (f = k - 1 ∨ b ≤ f) ∧ ∀ j, j < k → f < j → j ∉ ks) (fun f => (f - b).toNat) lF' rfl (fun z hz => if_neg hz) lN' ⟨by omega, .inl rfl, fun j h1 h2 => by omega⟩ ?turn)
  intro f t h tk ⟨q1, q2, q3⟩ F₁ N₁
  k_steps
  · refine ret _ _ _ _ ?_ (by k_asm) (unpick3 (by k_asm) px pdx pd)
    unfold BackIs
    rw [if_pos (by omega)]
    have e : (if b > f then b else f) = f := by split <;> omega
    rw [e]
    exact ⟨q1, by omega, .inr (by assumption), q3⟩
  · refine scanEnd_of (by k_asm) (by k_asm) rfl (fun z hz => by simp [hz]) ⟨by omega, by omega, fun j h1 h2 => ?_⟩ (by omega)
    by_cases e : j = f
    · subst e; assumption
    · exact q3 j h1 (by omega)
  · refine ret _ _ _ _ ?_ (by k_asm) (unpick3 (by k_asm) px pdx pd)
    unfold BackIs
    rw [if_pos (by omega)]
    have e : (if b > f then b else f) = b := by split <;> omega
    rw [e]
    exact ⟨by omega, by omega, .inl rfl, fun j h1 h2 => q3 j h1 (by omega)⟩
  · refine ret _ _ _ _ ?_ (by k_asm) (unpick3 (by k_asm) px pdx pd)
    unfold BackIs
    rw [if_neg (by omega)]

set_option maxHeartbeats 4000000 in
theorem back_from_tells1 {prog : Program} {w : World} {mean : ExcName → Option Value} {mg mb : Str → Option Value} {p : Program} {loose : List Str} {dp un : Nat} {gd : Option (List Code)} {cn : Str} {cs : Scope} {a : Addr} {ccd : Value} {cl : List (Str × Addr)} {outer : List Env} {A₀ : Around} {base h₀ : Heap} {L : Addr} {m : Str → Option Value} {s : Shared} {Q E : Value → Shared → Prop} {x dx d : Addr} {hcdx hsdx : Int} {t1dx t2dx tcdx : Tok} {o : Obj} {c k : Int} {tk : Tok} {ks : List Int} {news r1 r2 rest : List (Addr × Obj)}
    (B : Below A₀ base outer h₀) (F : Fr h₀ L s.heap m) (X : (hd.heap_39 w.params).In h₀) (T : Top p loose mean mg mb h₀) (hk : cs.kind = .function) (N : News h₀ L s.heap news) (px : Pick x (instObj 109 dx) news r1) (pdx : Pick dx (PySem.W.dictOf [⟨hcdx, Value.str (Str.ofString "columns") t1dx, Value.int c tcdx⟩, ⟨hsdx, Value.str (Str.ofString "stops") t2dx, Value.ref d⟩] 2) r1 r2) (pd : Pick d o r2 rest) (S : Stops prog w d o ks) (hd : dp + 5 < recursionLimit) (hu : un + 50 < cLine)
    (ret : ∀ r t h' tk', BackIs ks k 0 r → Fr h₀ L h' m → News h₀ L h' news → Q (.int r t) { s with heap := h', toks := tk' }) :
    wpAny (model prog w) (ktrTop dp un gd cn cs L a ccd cl outer) (call (.ref 92) [.ref x, .int k tk]) Q E s := by
  replace N := pick3 N px pdx pd
  refine wpAny_call ?_
  k_dflt (refine' code_def ?k1 ?k2 ?k3 ?k4 ?k5 ?kA ?kF ?kK ?k6 ?k7 ?k8 ?k9 ?kB ?_ ?c2 ?c3 ?c4 ?c5; (case kA | kF => exact rfl); (case kK => assumption); (case k1 | k2 => k_asm); (case k3 | k4 | k5 => k_asm); (case k6 | k7 => k_is); (case k8 => ktr_room); (case k9 => first | exact BindsTo.of_eq rfl | exact binds_K (by k_in) rfl (by k_is) rfl rfl rfl); (case c5 => decide); (case kB => exact locs rfl); (case c2 | c3 | c4 => exact rfl); k_whole; intro g' L' h' FG' F' N' B' X' T'; (try dsimp only); (try k_lift B'); (try k_fold))
  k_steps
  unfold Held
  (rename Fr _ _ _ _ => lF'); (rename News _ _ _ _ => lN')
  k_dflt (refine' scan_while (Str.ofString "found") (fun f => f < k ∧ (f = k - 1 ∨ 0 ≤ f) ∧ ∀ j, j < k → f < j → j ∉ ks) (fun f => (f - 0).toNat) lF' rfl (fun z hz => if_neg hz) lN' ⟨by omega, .inl rfl, fun j h1 h2 => by omega⟩ ?turn)
  intro f t h tk ⟨q1, q2, q3⟩ F₁ N₁
  k_steps
  · refine ret _ _ _ _ ?_ (by k_asm) (unpick3 (by k_asm) px pdx pd)
    unfold BackIs
    rw [if_pos (by omega)]
    have e : (if 0 > f then 0 else f) = f := by split <;> omega
    rw [e]
    exact ⟨q1, by omega, .inr (by assumption), q3⟩
  · refine scanEnd_of (by k_asm) (by k_asm) rfl (fun z hz => by simp [hz]) ⟨by omega, by omega, fun j h1 h2 => ?_⟩ (by omega)
    by_cases e : j = f
    · subst e; assumption
    · exact q3 j h1 (by omega)
  · refine ret _ _ _ _ ?_ (by k_asm) (unpick3 (by k_asm) px pdx pd)
    unfold BackIs
    rw [if_pos (by omega)]
    have e : (if 0 > f then 0 else f) = 0 := by split <;> omega
    rw [e]
    exact ⟨by omega, by omega, .inl rfl, fun j h1 h2 => q3 j h1 (by omega)⟩
  · refine ret _ _ _ _ ?_ (by k_asm) (unpick3 (by k_asm) px pdx pd)
    unfold BackIs
    rw [if_neg (by omega)]
end
-- part C6
section
def keepT (c : Int) (t ks : List Int) : List Int := ks.filter fun z => !(decide (c ≤ z) && decide (z ∈ t))
theorem keepT_nil (c : Int) (ks : List Int) : keepT c [] ks = ks := by
  unfold keepT; simp
theorem keepT_ge {c k : Int} (h : c ≤ k) (t ks : List Int) : delK (keepT c t ks) k = keepT c (t ++ [k]) ks := by
  unfold keepT delK
  rw [List.filter_filter]
  refine List.filter_congr fun z _ => ?_
  by_cases e : z = k
  · subst e; simp [h]
  · simp [e]
theorem keepT_lt {c k : Int} (h : ¬ c ≤ k) (t ks : List Int) : keepT c t ks = keepT c (t ++ [k]) ks := by
  unfold keepT
  refine List.filter_congr fun z _ => ?_
  by_cases e : z = k
  · subst e; simp [h]
  · simp [e]
theorem keepT_mem {c k : Int} {t ks : List Int} (h : k ∈ ks) (hn : k ∉ t) : k ∈ keepT c t ks := by
  unfold keepT; simp [h, hn]
theorem keepT_all {c : Int} {t ks : List Int} (h : ∀ z ∈ ks, z ∈ t) : keepT c t ks = ks.filter fun z => decide (z < c) := by
  unfold keepT
  refine List.filter_congr fun z hz => ?_
  simp only [h z hz, decide_true, Bool.and_true]
  by_cases e : c ≤ z
  · simp [e, Int.not_lt.mpr e]
  · simp [e, Int.not_le.mp e]
theorem keepT_len (c : Int) (t ks : List Int) : (keepT c t ks).length ≤ ks.length := List.length_filter_le _ _
theorem not_in_take {ns : List Int} (h : ns.Nodup) {i : Nat} {k : Int} (hi : ns[i]? = some k) : k ∉ ns.take i := by
  intro hk
  obtain ⟨j, hj, e⟩ := List.getElem_of_mem hk
  rw [List.length_take] at hj
  rw [List.getElem_take] at e
  obtain ⟨hi', e2⟩ := List.getElem?_eq_some_iff.mp hi
  exact List.pairwise_iff_getElem.mp h j i (by omega) hi' (by omega) (e.trans e2.symm)

set_option maxHeartbeats 4000000 in
theorem resize_tells {prog : Program} {w : World} {mean : ExcName → Option Value} {mg mb : Str → Option Value} {p : Program} {loose : List Str} {dp un : Nat} {gd : Option (List Code)} {cn : Str} {cs : Scope} {a : Addr} {ccd : Value} {cl : List (Str × Addr)} {outer : List Env} {A₀ : Around} {base h₀ : Heap} {L : Addr} {m : Str → Option Value} {s : Shared} {Q E : Value → Shared → Prop} {x dx d : Addr} {hcdx hsdx : Int} {t1dx t2dx tcdx : Tok} {o : Obj} {c k : Int} {tk : Tok} {ks : List Int} {news r1 r2 rest : List (Addr × Obj)}
    (B : Below A₀ base outer h₀) (F : Fr h₀ L s.heap m) (X : (hd.heap_39 w.params).In h₀) (T : Top p loose mean mg mb h₀) (hk : cs.kind = .function) (N : News h₀ L s.heap news) (px : Pick x (instObj 109 dx) news r1) (pdx : Pick dx (PySem.W.dictOf [⟨hcdx, Value.str (Str.ofString "columns") t1dx, Value.int c tcdx⟩, ⟨hsdx, Value.str (Str.ofString "stops") t2dx, Value.ref d⟩] 2) r1 r2) (pd : Pick d o r2 rest) (hr : OwnOff rest [d, dx, x]) (h1 : @Ne Nat d dx) (h2 : @Ne Nat d x) (h3 : @Ne Nat dx x)
    (S : Stops prog w d o ks) (hnd : ks.Nodup) (hz : ks.length < 64) (hc0 : 0 ≤ k) (hc1 : k ≤ 1000) (hd : dp + 10 < recursionLimit) (hu : un + 60 < cLine)
    (ret : ∀ h' o' tk', Fr h₀ L h' m → News h₀ L h' ((d, o') :: (dx, PySem.W.dictOf [⟨hcdx, Value.str (Str.ofString "columns") t1dx, Value.int k tk⟩, ⟨hsdx, Value.str (Str.ofString "stops") t2dx, Value.ref d⟩] 2) :: (x, instObj 109 dx) :: rest) → Stops prog w d o' (if k > c then (ups k).foldl (putF c) (ks.filter fun z => decide (z < k)) else (ks.filter fun z => decide (z < k))) → Q .none { s with heap := h', toks := tk' }) :
    wpAny (model prog w) (ktrTop dp un gd cn cs L a ccd cl outer) (call (.ref 99) [.ref x, .int k tk]) Q E s := by
  replace N := pick3 N px pdx pd; clear px pdx pd
  refine wpAny_call ?_
  k_dflt cell_enter
  k_steps
  (rename Fr _ _ _ _ => lF'); (rename News _ _ _ _ => lN'); (rename List.Perm _ _ => hp); (rename IntsAre _ _ => hI); (rename List.Pairwise _ _ => ho)
  have lN2 := pick1 lN' (by tb_rel : Pick d o _ _)
  k_dflt (refine' loopListD ((fun (ns : List Int) (_ : List.Perm ns ks) i o ks' => Stops prog w d o ks' ∧ ks' = keepT k (List.take i ns) ks) _ hp) ks rfl (by k_mem) hI lF' lN2 ⟨S, ?s0⟩ ?turn ?done)
  case s0 => rw [List.take_zero]; exact (keepT_nil _ _).symm
  case turn =>
    intro i kk t o' ks' I h tk io hi hJ e1 e2 F₁ N₁
    obtain ⟨S', hs⟩ := hJ
    have e3 : @Ne Nat dx I := e2 (dx, _) (by k_memK)
    have e4 : @Ne Nat x I := e2 (x, _) (by k_memK)
    have hin : kk ∈ ks := hp.mem_iff.mp (List.mem_of_getElem? hi)
    have hout := not_in_take (hp.nodup_iff.mpr hnd) hi
    have hmem : kk ∈ ks' := by rw [hs]; exact keepT_mem hin hout
    have hlen : ks'.length ≤ ks.length := by rw [hs]; exact keepT_len _ _ _
    have hlz : ks'.length ≤ 10000 := by omega
    k_steps
    · refine turnEndD _ (by k_asm) (by k_asm) (by k_memK) (by k_memK) (by tb_start) e1 e2 (fun z hz => if_neg hz) ⟨by k_asm, ?_⟩
      rw [List.take_add_one, hi, Option.toList_some, hs]
      exact keepT_ge (by assumption) _ _
    · refine turnEndD ks' (by k_asm) (by k_asm) (by k_memK) (by k_memK) (by tb_start) e1 e2 (fun z hz => if_neg hz) ⟨by k_asm, ?_⟩
      rw [List.take_add_one, hi, Option.toList_some, hs]
      exact keepT_lt (by assumption) _ _
  case done =>
    intro o' ks' u h tk hJ F₁ N₁
    obtain ⟨S', hs⟩ := hJ
    rw [List.take_length, keepT_all (fun z hz => hp.mem_iff.mpr hz)] at hs
    have hlen : ks'.length ≤ 5000 := by
      rw [hs]
      exact Nat.le_trans (List.length_filter_le _ _) (by omega)
    k_steps
    · refine ret _ _ _ (by k_asm) (kst_newsOf (by k_asm) (by tb_start)) ?_
      rw [if_pos (by assumption), ← hs]; assumption
    · refine ret _ _ _ (by k_asm) (kst_newsOf (by k_asm) (by tb_start)) ?_
      rw [if_neg (by assumption), ← hs]; assumption
end
-- part C7
section
set_option maxHeartbeats 4000000 in
theorem tabs_tells {prog : Program} {w : World} {mean : ExcName → Option Value} {mg mb : Str → Option Value} {p : Program} {loose : List Str} {dp un : Nat} {gd : Option (List Code)} {cn : Str} {cs : Scope} {a : Addr} {ccd : Value} {cl : List (Str × Addr)} {outer : List Env} {A₀ : Around} {base h₀ : Heap} {L : Addr} {m : Str → Option Value} {s : Shared} {Q E : Value → Shared → Prop} {c : Int} {tk : Tok} {news : List (Addr × Obj)}
    (B : Below A₀ base outer h₀) (F : Fr h₀ L s.heap m) (X : (hd.heap_39 w.params).In h₀) (T : Top p loose mean mg mb h₀) (hk : cs.kind = .function) (N : News h₀ L s.heap news) (hc0 : 0 ≤ c) (hc1 : c ≤ 1000) (hd : dp + 10 < recursionLimit) (hu : un + 60 < cLine)
    (ret : ∀ (x dx d : Addr) (hcdx hsdx : Int) (t1dx t2dx tcdx : Tok) h' o' tk', Fr h₀ L h' m → News h₀ L h' ((d, o') :: (dx, PySem.W.dictOf [⟨hcdx, Value.str (Str.ofString "columns") t1dx, Value.int c tcdx⟩, ⟨hsdx, Value.str (Str.ofString "stops") t2dx, Value.ref d⟩] 2) :: (x, instObj 109 dx) :: news) → Stops prog w d o' ((ups c).foldl (putF 0) []) → (∀ q ∈ news, q.1 < dx) → (∀ q ∈ news, q.1 < x) → (∀ q ∈ news, q.1 < d) → @LT.lt Nat _ dx x → @LT.lt Nat _ x d → Q (.ref x) { s with heap := h', toks := tk' }) :
    wpAny (model prog w) (ktrTop dp un gd cn cs L a ccd cl outer) (call (.ref 109) [.int c tk]) Q E s := by
  k_dflt (refine' call_cls ?k1 ?k2 ?k3 ?k4 ?k5 ?k6 ?_; (case k1 | k2 | k3 => k_asm); (case k4 | k5 | k6 => k_is); k_whole; intro x' d' h' F' N' l1 l2; (try k_lt2 l2); (try k_sweep))
  have off : ∀ p ∈ news, p.1 < x' := fun p hp => Nat.lt_trans (l1 p hp) l2
  k_dflt (refine' code_def ?k1 ?k2 ?k3 ?k4 ?k5 ?kA ?kF ?kK ?k6 ?k7 ?k8 ?k9 ?kB ?_ ?c2 ?c3 ?c4 ?c5; (case kA | kF => exact rfl); (case kK => assumption); (case k1 | k2 => k_asm); (case k3 | k4 | k5 => k_asm); (case k6 | k7 => k_is); (case k8 => ktr_room); (case k9 => first | exact BindsTo.of_eq rfl | exact binds_K (by k_in) rfl (by k_is) rfl rfl rfl); (case c5 => decide); (case kB => exact locs rfl); (case c2 | c3 | c4 => exact rfl); k_whole; intro g' L' h' FG' F' N' B' X' T'; (try dsimp only); (try k_lift B'); (try k_fold))
  k_steps
  exact ret _ _ _ _ _ _ _ _ _ _ _ (by k_asm) (by k_asm) (by assumption) (by assumption) off (kst_ltOf (by assumption)) (by assumption) (by assumption)
end
-- part C8
section
local macro_rules | `(tactic| walk_at "call ref") => `(tactic| (k_here; k_dflt (refine' tabs_tells ?u0 ?u1 ?u2 ?u3 ?u4 ?u5 ?u6 ?u7 ?u8 ?u9 ?_; (case u0 | u1 | u2 | u3 => k_asm); (case u4 => first | exact rfl | assumption); (case u5 => k_asm); (case u6 | u7 => first | assumption | omega); (case u8 => ktr_room); (case u9 => kwd_less); k_whole); intro x' dx' d' hc' hs' u1 u2 u3 h' o' tk' F' N' S' l1 l1b l1c l2 l3; (try k_lt l1); (repeat (have l9 := And.left l1; replace l1 := And.right l1)); (try k_lt l1b); (repeat (have l9 := And.left l1b; replace l1b := And.right l1b)); (try k_lt l1c); (repeat (have l9 := And.left l1c; replace l1c := And.right l1c)); kwd_inv))
local macro_rules | `(tactic| walk_at "call ref") => `(tactic| (k_here; k_dflt (refine' put_tells ?u0 ?u1 ?u2 ?u3 ?u4 ?u5 ?u6 ?u7 ?u8 ?u9 ?u10 ?u11 ?u12 ?u13 ?u14 ?u15 ?u16 ?_; (case u0 | u1 | u2 | u3 => k_asm); (case u4 => first | exact rfl | assumption); (case u5 => k_asm); (case u6 | u7 | u8 => tb_rel); (case u9 => ktr_rel); (case u10 | u11 | u12 => k_ne); (case u13 => first | assumption | l_ints); (case u14 => kxs_still); (case u15 => ktr_room); (case u16 => kwd_less); k_whole); intro d' h' o' tk' F' N' S' l1 l2 l3; (try k_lt l1); (repeat (have l9 := And.left l1; replace l1 := And.right l1)); kwd_inv))

set_option maxHeartbeats 4000000 in
theorem copy_tells {prog : Program} {w : World} {mean : ExcName → Option Value} {mg mb : Str → Option Value} {p : Program} {loose : List Str} {dp un : Nat} {gd : Option (List Code)} {cn : Str} {cs : Scope} {a : Addr} {ccd : Value} {cl : List (Str × Addr)} {outer : List Env} {A₀ : Around} {base h₀ : Heap} {L : Addr} {m : Str → Option Value} {s : Shared} {Q E : Value → Shared → Prop} {x dx d : Addr} {hcdx hsdx : Int} {t1dx t2dx tcdx : Tok} {o : Obj} {c : Int} {ks : List Int} {news r1 r2 rest : List (Addr × Obj)}
    (B : Below A₀ base outer h₀) (F : Fr h₀ L s.heap m) (X : (hd.heap_39 w.params).In h₀) (T : Top p loose mean mg mb h₀) (hk : cs.kind = .function) (N : News h₀ L s.heap news) (px : Pick x (instObj 109 dx) news r1) (pdx : Pick dx (PySem.W.dictOf [⟨hcdx, Value.str (Str.ofString "columns") t1dx, Value.int c tcdx⟩, ⟨hsdx, Value.str (Str.ofString "stops") t2dx, Value.ref d⟩] 2) r1 r2) (pd : Pick d o r2 rest) (hr : OwnOff rest [d, dx, x]) (h1 : @Ne Nat d dx) (h2 : @Ne Nat d x) (h3 : @Ne Nat dx x) (S : Stops prog w d o ks) (hz : ks.length < 64) (hc0 : 0 ≤ c) (hc1 : c ≤ 1000) (hd : dp + 20 < recursionLimit) (hu : un + 100 < cLine)
    (ret : ∀ (y dy e : Addr) (hcdy hsdy : Int) (t1dy t2dy tcdy : Tok) h' o' tk' (ns : List Int), Fr h₀ L h' m → News h₀ L h' ((e, o') :: (dy, PySem.W.dictOf [⟨hcdy, Value.str (Str.ofString "columns") t1dy, Value.int c tcdy⟩, ⟨hsdy, Value.str (Str.ofString "stops") t2dy, Value.ref e⟩] 2) :: (y, instObj 109 dy) :: news) → ns.Perm ks → ns.Pairwise (· ≤ ·) → Stops prog w e o' (ns.foldl (putC c) []) → (∀ q ∈ news, q.1 < dy) → @LT.lt Nat _ dy y → @LT.lt Nat _ y e → Q (.ref y) { s with heap := h', toks := tk' }) :
    wpAny (model prog w) (ktrTop dp un gd cn cs L a ccd cl outer) (call (.ref 106) [.ref x]) Q E s := by
  replace N := pick3 N px pdx pd
  refine wpAny_call ?_
  k_dflt cell_enter
  k_steps
  refine ret _ _ _ _ _ _ _ _ _ _ _ _ (by k_asm) (unpickP [_, _, _] (kst_newsOf (by k_asm) (by tb_start)) px pdx pd) (by assumption) (by assumption) (by assumption) (lt_unpick3 px pdx pd (by assumption) (by assumption) (by assumption) (by assumption)) (by assumption) (by assumption)
end
-- part P1
/-- the tabs' keys, the law's list, the columns -/
structure Rel (ks own : List Int) (c : Int) : Prop where
  perm : ks.Perm own
  up : own.Pairwise (· < ·)
  lo : ∀ k ∈ own, 0 ≤ k ∧ k < c

theorem up_nodup {l : List Int} (h : l.Pairwise (· < ·)) : l.Nodup := h.imp fun h => Int.ne_of_lt h
theorem up_len {c : Int} : ∀ {l : List Int} {a : Int}, l.Pairwise (· < ·) → (∀ k ∈ l, a ≤ k ∧ k < c) → (l.length : Int) ≤ max 0 (c - a)
  | [], a, _, _ => by simp; omega
  | x :: r, a, h, hl => by
    have h1 := List.pairwise_cons.mp h
    have hx := hl x (.head _)
    have := up_len (l := r) (a := x + 1) h1.2 (fun k hk => ⟨by have := h1.1 k hk; omega, (hl k (.tail _ hk)).2⟩)
    simp only [List.length_cons]
    omega
theorem Rel.len {ks own : List Int} {c : Int} (r : Rel ks own c) (h0 : 0 ≤ c) : (own.length : Int) ≤ c := by
  have := up_len r.up r.lo
  omega
theorem Rel.lenK {ks own : List Int} {c : Int} (r : Rel ks own c) (h0 : 0 ≤ c) : (ks.length : Int) ≤ c := by rw [r.perm.length_eq]; exact r.len h0
theorem Rel.nodup {ks own : List Int} {c : Int} (r : Rel ks own c) : ks.Nodup := r.perm.nodup_iff.mpr (up_nodup r.up)

theorem fold_putF {b : Int} : ∀ (us ks : List Int), us.Nodup → (∀ u ∈ us, b ≤ u → u ∉ ks) → us.foldl (putF b) ks = ks ++ us.filter fun z => decide (b ≤ z)
  | [], ks, _, _ => by simp
  | u :: r, ks, hn, hd => by
    have hn' := List.nodup_cons.mp hn
    rw [List.foldl_cons]
    by_cases h : b ≤ u
    · have e : putF b ks u = ks ++ [u] := by
        unfold putF putK
        rw [if_pos h, if_neg (hd u (.head _) h)]
      rw [e, fold_putF r _ hn'.2 (fun v hv hb hm => ?_), List.filter_cons_of_pos (by simpa using h), List.append_assoc]
      · rfl
      · rcases List.mem_append.mp hm with hm | hm
        · exact hd v (.tail _ hv) hb hm
        · rw [List.mem_singleton.mp hm] at hv; exact hn'.1 hv
    · have e : putF b ks u = ks := by unfold putF; rw [if_neg h]
      rw [e, fold_putF r _ hn'.2 (fun v hv hb => hd v (.tail _ hv) hb), List.filter_cons_of_neg (by simpa using h)]
theorem fold_putC {c : Int} : ∀ (us ks : List Int), us.Nodup → (∀ u ∈ us, 0 ≤ u ∧ u < c) → (∀ u ∈ us, u ∉ ks) → us.foldl (putC c) ks = ks ++ us
  | [], ks, _, _, _ => by simp
  | u :: r, ks, hn, hl, hd => by
    have hn' := List.nodup_cons.mp hn
    rw [List.foldl_cons]
    have e : putC c ks u = ks ++ [u] := by
      unfold putC putK
      rw [if_pos (hl u (.head _)), if_neg (hd u (.head _))]
    rw [e, fold_putC r _ hn'.2 (fun v hv => hl v (.tail _ hv)) (fun v hv hm => ?_), List.append_assoc]
    · rfl
    · rcases List.mem_append.mp hm with hm | hm
      · exact hd v (.tail _ hv) hm
      · rw [List.mem_singleton.mp hm] at hv; exact hn'.1 hv

theorem ups_mem {c u : Int} (h : u ∈ ups c) : 8 ≤ u ∧ u < c := by
  unfold ups at h
  obtain ⟨i, hi, rfl⟩ := List.mem_map.mp h
  have := List.mem_range.mp hi
  unfold Builtin.Range.rangeSize at this
  simp only [show (8 : Int) > 0 by decide, if_true] at this
  split at this <;> omega
theorem ups_up (c : Int) : (ups c).Pairwise (· < ·) := by
  unfold ups
  rw [List.pairwise_map]
  refine List.Pairwise.imp (fun {a b} (h : a < b) => ?_) List.pairwise_lt_range
  omega

theorem rel_first (c : Int) : Rel ((ups c).foldl (putF 0) []) (ups c) c := by
  have e : (ups c).foldl (putF 0) [] = ups c := by
    rw [fold_putF _ _ (up_nodup (ups_up c)) (fun _ _ _ h => by cases h), List.nil_append, List.filter_eq_self]
    intro z hz
    have := ups_mem hz
    simp; omega
  rw [e]
  exact ⟨.refl _, ups_up c, fun k hk => by have := ups_mem hk; omega⟩
theorem rel_put {own : List Int} {c : Int} (hu : own.Pairwise (· < ·)) (hl : ∀ k ∈ own, 0 ≤ k ∧ k < c) : Rel (own.foldl (putC c) []) own c := by
  rw [fold_putC _ _ (up_nodup hu) hl (fun _ _ h => by cases h), List.nil_append]
  exact ⟨.refl _, hu, hl⟩
theorem rel_nil (c : Int) : Rel [] [] c := ⟨.refl _, .nil, fun _ h => nomatch h⟩
theorem up_of_le {l : List Int} (h : l.Pairwise (· ≤ ·)) (hn : l.Nodup) : l.Pairwise (· < ·) := by
  have := List.Pairwise.and h hn
  exact this.imp fun ⟨a, b⟩ => by omega
theorem rel_set_new {ks own own' : List Int} {c k : Int} (r : Rel ks own c) (h0 : 0 ≤ k) (hk : k < c) (hn : k ∉ own) (hp : own'.Perm (own ++ [k])) (hu : own'.Pairwise (· ≤ ·)) : Rel (if 0 ≤ k ∧ k < c then putK ks k else ks) own' c := by
  have hks : k ∉ ks := fun h => hn (r.perm.mem_iff.mp h)
  have hnd : (own ++ [k]).Nodup := by
    rw [List.nodup_append]
    exact ⟨up_nodup r.up, by simp, fun a ha b hb => by rw [List.mem_singleton.mp hb]; rintro rfl; exact hn ha⟩
  rw [if_pos ⟨h0, hk⟩]
  unfold putK
  rw [if_neg hks]
  refine ⟨(r.perm.append_right [k]).trans hp.symm, up_of_le hu (hp.nodup_iff.mpr hnd), fun z hz => ?_⟩
  rcases List.mem_append.mp (hp.mem_iff.mp hz) with h | h
  · exact r.lo z h
  · rw [List.mem_singleton.mp h]; exact ⟨h0, hk⟩
theorem rel_set_old {ks own : List Int} {c k : Int} (r : Rel ks own c) (h : ¬ k < c ∨ k ∈ own) : Rel (if 0 ≤ k ∧ k < c then putK ks k else ks) own c := by
  by_cases hc : 0 ≤ k ∧ k < c
  · rw [if_pos hc]
    unfold putK
    have : k ∈ own := h.resolve_left (fun q => q hc.2)
    rw [if_pos (r.perm.mem_iff.mpr this)]
    exact r
  · rw [if_neg hc]; exact r
theorem rel_clear {ks own : List Int} {c k : Int} (r : Rel ks own c) : Rel (if k ∈ ks then delK ks k else ks) (own.filter fun z => cmpI .NotEq z k) c := by
  have e : (if k ∈ ks then delK ks k else ks) = ks.filter fun z => cmpI .NotEq z k := by
    have e1 : delK ks k = ks.filter fun z => cmpI .NotEq z k := by
      unfold delK
      refine List.filter_congr fun z _ => ?_
      show decide (z ≠ k) = (z != k)
      by_cases h : z = k <;> simp [h]
    by_cases h : k ∈ ks
    · rw [if_pos h, e1]
    · rw [if_neg h, List.filter_eq_self.mpr]
      intro z hz
      show (z != k) = true
      simp only [bne_iff_ne, ne_eq]
      rintro rfl; exact h hz
  rw [e]
  exact ⟨r.perm.filter _, r.up.filter _, fun z hz => r.lo z (List.mem_filter.mp hz).1⟩
theorem rel_resize {ks own : List Int} {c k : Int} (r : Rel ks own c) :
    Rel (if k > c then (ups k).foldl (putF c) (ks.filter fun z => decide (z < k)) else (ks.filter fun z => decide (z < k))) (own.filter (fun z => cmpI .Lt z k) ++ (ups k).filter fun z => cmpI .GtE z c) k := by
  have lt : ∀ z ∈ own.filter (fun z => cmpI .Lt z k), z < c ∧ 0 ≤ z ∧ z < k := fun z hz => by
    have h1 := List.mem_filter.mp hz
    have h2 : z < k := by simpa [cmpI] using h1.2
    have h3 := r.lo z h1.1
    omega
  have ge : ∀ z ∈ (ups k).filter (fun z => cmpI .GtE z c), c ≤ z ∧ 0 ≤ z ∧ z < k := fun z hz => by
    have h1 := List.mem_filter.mp hz
    have h2 : c ≤ z := by simpa [cmpI] using h1.2
    have h3 := ups_mem h1.1
    omega
  refine ⟨?_, ?_, ?_⟩
  · have hp : (ks.filter fun z => decide (z < k)).Perm (own.filter fun z => cmpI .Lt z k) := r.perm.filter _
    by_cases h : k > c
    · rw [if_pos h, fold_putF _ _ (up_nodup (ups_up k))]
      · exact hp.append_right _
      · intro u hu hb hm
        have := r.lo u (r.perm.mem_iff.mp (List.mem_filter.mp hm).1)
        omega
    · rw [if_neg h]
      have e : (ups k).filter (fun z => cmpI .GtE z c) = [] := by
        rw [List.filter_eq_nil_iff]
        intro z hz
        have := ups_mem hz
        simp [cmpI]; omega
      rw [e, List.append_nil]
      exact hp
  · rw [List.pairwise_append]
    exact ⟨r.up.filter _, (ups_up k).filter _, fun a ha b hb => by have h1 := lt a ha; have h2 := ge b hb; omega⟩
  · intro z hz
    rcases List.mem_append.mp hz with h | h
    · have := lt z h; omega
    · have := ge z h; omega
theorem up_139 (c : Int) : (([1, 3, 9] : List Int).filter fun z => cmpI .Lt z c).Pairwise (· < ·) := List.Pairwise.filter _ (by decide)
theorem lo_139 (c : Int) : ∀ k ∈ (([1, 3, 9] : List Int).filter fun z => cmpI .Lt z c), 0 ≤ k ∧ k < c := fun k hk => by
  have h1 := List.mem_filter.mp hk
  have h2 : k < c := by simpa [cmpI] using h1.2
  have h3 := h1.1
  simp only [List.mem_cons, List.not_mem_nil, or_false] at h3
  omega
theorem told_is {ks own ns : List Int} {c : Int} (r : Rel ks own c) (hp : ns.Perm ks) (hu : ns.Pairwise (· ≤ ·)) : ns = own := ksm_same (hp.trans r.perm) hu (r.up.imp fun h => Int.le_of_lt h)
theorem ups_len {c : Int} (h : c ≤ 1000) : (ups c).length ≤ 10000 := by
  have := up_len (a := 8) (ups_up c) (fun k hk => ups_mem hk)
  omega
theorem ups_len9 {c : Int} (h : c ≤ 1000) : (ups c).length ≤ 1000 := by
  have := up_len (a := 8) (ups_up c) (fun k hk => ups_mem hk)
  omega
theorem Rel.len40 {ks own : List Int} {c : Int} (r : Rel ks own c) (h : c ≤ 40) : own.length ≤ 40 := by
  have := up_len r.up r.lo
  omega
local macro_rules | `(tactic| ktr_unf) => `(tactic| first | assumption | exact IntsAre.nil | exact IntsAre.cons _ _ IntsAre.nil | (repeat (first | exact IntsAre.nil | apply IntsAre.cons)))
local macro_rules | `(tactic| walk_at "compareOp Eq ref ref") => `(tactic| (k_here; k_dflt (refine' ls_eq ?N ?a ?b ?i ?j ?u ?_; (case N => k_asm); (case a | b => k_mem); (case i | j => ktr_unf); (case u => ktr_units); k_whole)))
local macro_rules | `(tactic| walk_at "compareOp NotEq ref ref") => `(tactic| (k_here; k_dflt (refine' ls_ne ?N ?a ?b ?i ?j ?u ?_; (case N => k_asm); (case a | b => k_mem); (case i | j => ktr_unf); (case u => ktr_units); k_whole)))
local macro_rules | `(tactic| walk_at "call builtin:list.pop") => `(tactic| (k_here; k_dflt (refine' ls_pop ?F ?N ?U ?i ?k ?z ?_; (case F | N => k_asm); (case U => k_updF); (case i => ktr_unf); (case k => first | assumption | exact of_decide_eq_false (by assumption)); (case z => omega); k_whole); intro h' v' t' us' ns' c' hk' i' hl' F' N' hs'; (try dsimp only at N'); (try k_sweep)))
local macro_rules | `(tactic| walk_at "call builtin:list.append") => `(tactic| (k_here; k_dflt (refine' ls_append ?F ?N ?U ?i ?z ?_; (case F | N => k_asm); (case U => k_updF); (case i => ktr_unf); (case z => omega); k_whole); intro h' c' i' F' N'; (try dsimp only at N'); (try k_sweep)))
local macro_rules | `(tactic| walk_at "binaryOp Add ref ref") => `(tactic| (k_here; k_dflt (refine' ls_add ?F ?N ?a ?b ?i ?j ?z ?_; (case F | N => k_asm); (case a | b => k_mem); (case i | j => ktr_unf); (case z => first | ((with_reducible rename Rel _ _ _ => q9); (have q8 := Rel.len40 q9 (by omega)); (simp only [List.length_append, List.length_cons, List.length_nil] at q8 ⊢); omega) | omega | (simp only [List.length_append, List.length_cons, List.length_nil]; first | omega | ((repeat (first | omega | (refine Nat.le_trans (Nat.add_le_add_right (List.length_filter_le _ _) _) ?_) | (refine Nat.le_trans (Nat.add_le_add (List.length_filter_le _ _) (List.length_filter_le _ _)) ?_)))))); k_whole); intro D' h' F' N' l1 i'; (try k_lt l1); (repeat (have l9 := And.left l1; replace l1 := And.right l1)); (try dsimp only [List.cons_append, List.nil_append] at i'); (try k_sweep); (try dsimp only)))
local macro_rules | `(tactic| walk_at "call builtin:min") => `(tactic| (k_here; k_dflt (refine' ls_min ?h ?F ?N ?a ?i ?z ?_; (case h => exact rfl); (case F | N => k_asm); (case a => k_mem); (case i => ktr_unf); (case z => first | omega | (simp only [List.length_append, List.length_cons, List.length_nil]; omega)); k_whole); intro h' M' t' tk' F' N' a' b'; (try k_sweep)))
local macro_rules | `(tactic| walk_at "call builtin:max") => `(tactic| (k_here; k_dflt (refine' ls_max ?h ?F ?N ?a ?i ?z ?_; (case h => exact rfl); (case F | N => k_asm); (case a => k_mem); (case i => ktr_unf); (case z => first | omega | (simp only [List.length_append, List.length_cons, List.length_nil]; omega)); k_whole); intro h' M' t' tk' F' N' a' b'; (try k_sweep)))
local macro_rules | `(tactic| walk_at "call builtin:sorted") => `(tactic| (k_here; k_dflt (refine' ls_sorted ?F ?N ?a ?i ?z ?_; (case F | N => k_asm); (case a => k_mem); (case i => ktr_unf); (case z => first | ((with_reducible rename Rel _ _ _ => q9); (have q8 := Rel.len40 q9 (by omega)); (simp only [List.length_append, List.length_cons, List.length_nil] at q8 ⊢); omega) | omega | (simp only [List.length_append, List.length_cons, List.length_nil]; omega)); k_whole); intro D' v' n' c' h' F' N' l1 i' p' o'; (try k_lt l1); (repeat (have l9 := And.left l1; replace l1 := And.right l1)); (try k_sweep)))
local macro_rules | `(tactic| walk_at "compareOp NotIn int ref") => `(tactic| (k_here; k_dflt (refine' ls_notin ?N ?a ?i ?_; (case N => k_asm); (case a => k_mem); (case i => ktr_unf); k_whole)))
local macro_rules | `(tactic| walk_at "call type:list") => `(tactic| (k_here; k_dflt (refine' ls_copy ?F ?N ?a ?i ?z ?_; (case F | N => k_asm); (case a => k_mem); (case i => ktr_unf); (case z => first | exact ups_len (by omega) | exact Nat.le_trans (Rel.len40 (by with_reducible assumption) (by omega)) (by decide) | exact Nat.le_trans (List.length_filter_le _ _) (by decide) | omega | ((rename List.Perm _ _ => hp9); (have hl9 := List.Perm.length_eq hp9); omega) | (simp only [List.length_append, List.length_cons, List.length_nil]; omega)); k_whole); intro D' c' h' F' N' l1; (try k_lt l1); (repeat (have l9 := And.left l1; replace l1 := And.right l1)); (try k_sweep)))
-- part D1
section
set_option maxHeartbeats 4000000 in
theorem draw_tells {prog : Program} {w : World} {mean : ExcName → Option Value} {mg mb : Str → Option Value} {p : Program} {loose : List Str} {dp un : Nat} {gd : Option (List Code)} {cn : Str} {cs : Scope} {a : Addr} {ccd : Value} {cl : List (Str × Addr)} {outer : List Env} {A₀ : Around} {base h₀ : Heap} {L : Addr} {m : Str → Option Value} {s : Shared} {Q E : Value → Shared → Prop} {dk ql : Addr} {od : Obj} {mx tn b : Int} {t1 t2 tb : Tok} {vs : List Value} {ns : List Int} {nn : Nat} {news r1 rest : List (Addr × Obj)}
    (B : Below A₀ base outer h₀) (F : Fr h₀ L s.heap m) (X : (hd.heap_39 w.params).In h₀) (T : Top p loose mean mg mb h₀) (hk : cs.kind = .function) (N : News h₀ L s.heap news) (p1 : Pick dk od news r1) (p2 : Pick ql (PySem.W.listOf (List.toArray vs) nn) r1 rest) (hr : OwnOff rest [dk, ql]) (h1 : @Ne Nat dk ql)
    (lo : (dk == sysModules) = false) (hD : od.IsDictOf (PySem.strKind prog w) [(Str.ofString "cells", Value.ref ql), (Str.ofString "mixed", Value.int mx t1), (Str.ofString "turn", Value.int tn t2)])
    (hm0 : 0 ≤ mx) (hm1 : mx < 2147483587) (ht0 : 0 ≤ tn) (ht1 : tn ≤ 10000) (hi : IntsAre vs ns) (hz : ns.length ≤ 100) (hb0 : 0 < b) (hb1 : b ≤ 1000)
    (hd : dp + 5 < recursionLimit) (hu : un + 150 < cLine)
    (ret : ∀ r t od' t2' vs' ns' nn' h' tk', 0 ≤ r → r < b → Fr h₀ L h' m → News h₀ L h' ((dk, od') :: (ql, PySem.W.listOf (List.toArray vs') nn') :: rest) →
      od'.IsDictOf (PySem.strKind prog w) [(Str.ofString "cells", Value.ref ql), (Str.ofString "mixed", Value.int mx t1), (Str.ofString "turn", Value.int (tn + 1) t2')] → IntsAre vs' ns' → ns'.length ≤ ns.length → Q (.int r t) { s with heap := h', toks := tk' }) :
    wpAny (model prog w) (ktrTop dp un gd cn cs L a ccd cl outer) (call (.ref 125) [.ref dk, .int b tb]) Q E s := by
  replace N := pick2 N p1 p2; clear p1 p2
  refine wpAny_call ?_
  k_dflt cell_enter
  k_steps
  all_goals exact ret _ _ _ _ _ _ _ _ _ (fb _ hb0).1 (fb _ hb0).2 (by k_asm) (kst_newsOf (by k_asm) (by tb_start)) (by assumption) (by assumption) (by first | omega | (simp only [List.length_append, List.length_cons, List.length_nil]; omega))

/-- the deck: its dict, its list of cells -/
def Deck (prog : Program) (w : World) (dk : Addr) (od : Obj) (ql : Addr) (n : Int) : Prop :=
  (dk == sysModules) = false ∧ ∃ mx t1 tn t2, od.IsDictOf (PySem.strKind prog w) [(Str.ofString "cells", Value.ref ql), (Str.ofString "mixed", Value.int mx t1), (Str.ofString "turn", Value.int tn t2)] ∧ 0 ≤ mx ∧ mx < 2147483587 ∧ 0 ≤ tn ∧ tn ≤ n
def Cells (oq : Obj) : Prop := ∃ vs ns nn, oq = PySem.W.listOf (List.toArray vs) nn ∧ IntsAre vs ns ∧ ns.length ≤ 100

theorem drawn_tells {prog : Program} {w : World} {mean : ExcName → Option Value} {mg mb : Str → Option Value} {p : Program} {loose : List Str} {dp un : Nat} {gd : Option (List Code)} {cn : Str} {cs : Scope} {a : Addr} {ccd : Value} {cl : List (Str × Addr)} {outer : List Env} {A₀ : Around} {base h₀ : Heap} {L : Addr} {m : Str → Option Value} {s : Shared} {Q E : Value → Shared → Prop} {dk ql : Addr} {od oq : Obj} {b n : Int} {tb : Tok} {news r1 rest : List (Addr × Obj)}
    (B : Below A₀ base outer h₀) (F : Fr h₀ L s.heap m) (X : (hd.heap_39 w.params).In h₀) (T : Top p loose mean mg mb h₀) (hk : cs.kind = .function) (N : News h₀ L s.heap news) (p1 : Pick dk od news r1) (D : Deck prog w dk od ql n) (p2 : Pick ql oq r1 rest) (C : Cells oq) (hr : OwnOff rest [dk, ql]) (h1 : @Ne Nat dk ql)
    (hn : n ≤ 9999) (hb0 : 0 < b) (hb1 : b ≤ 1000)
    (hd : dp + 5 < recursionLimit) (hu : un + 150 < cLine)
    (ret : ∀ r t od' oq' h' tk', Fr h₀ L h' m → News h₀ L h' ((dk, od') :: (ql, oq') :: rest) → Deck prog w dk od' ql (n + 1) → Cells oq' → 0 ≤ r → r < b → Q (.int r t) { s with heap := h', toks := tk' }) :
    wpAny (model prog w) (ktrTop dp un gd cn cs L a ccd cl outer) (call (.ref 125) [.ref dk, .int b tb]) Q E s := by
  obtain ⟨lo, mx, t1, tn, t2, hD, a1, a2, a3, a4⟩ := D
  obtain ⟨vs, ns, nn, rfl, hi, hz⟩ := C
  exact draw_tells B F X T hk N p1 p2 hr h1 lo hD a1 a2 a3 (by omega) hi hz hb0 hb1 hd hu fun r t od' t2' vs' ns' nn' h' tk' e1 e2 F' N' D' i' z' =>
    ret r t od' _ h' tk' F' N' ⟨lo, mx, t1, tn + 1, t2', D', a1, a2, by omega, by omega⟩ ⟨vs', ns', nn', rfl, i', by omega⟩ e1 e2
end
local macro_rules | `(tactic| walk_at "call ref") => `(tactic| refine held_of ?_)
local macro_rules | `(tactic| walk_at "call ref") => `(tactic| (k_here; k_dflt (refine' drawn_tells ?u0 ?u1 ?u2 ?u3 ?u4 ?u5 ?u6 ?u7 ?u8 ?u9 ?u10 ?u11 ?u12 ?u13 ?u14 ?u15 ?u16 ?_; (case u0 | u1 | u2 | u3 => k_asm); (case u4 => first | exact rfl | assumption); (case u5 => k_asm); (case u6 => tb_rel); (case u7 => k_asm); (case u8 => tb_rel); (case u9 => k_asm); (case u10 => ktr_rel); (case u11 => k_ne); (case u12 => kxs_still); (case u13 | u14 => first | assumption | omega); (case u15 => ktr_room); (case u16 => kwd_less); k_whole); intros; kwd_inv))
local macro_rules | `(tactic| walk_at "CompAt") => `(tactic| refine held_of ?_)
local macro_rules | `(tactic| ktn_open) => `(tactic| first
  | exact fun _ _ => tests_none
  | exact fun _ _ => elt_name rfl rfl (by decide)
  | exact fun I hI => elt_int (by k_asm) (by k_asm) (by k_asm) hI (by k_is) (by boot_fast) rfl rfl rfl rfl (by decide) rfl
  | exact fun I hI => tests_cell rfl rfl (by first | exact .inl rfl | exact .inr rfl) (by decide) (by decide) (by decide) rfl (by k_asm) (by k_mem) (hI (_, _) (by k_mem)) (by k_asm) rfl rfl)
local macro_rules | `(tactic| walk_at "eval ListComp") => `(tactic| (k_here; k_dflt (refine' comp_tells ?k0 ?c1 ?c2 ?c3 ?c4 ?c5 ?_ ?c7; (case k0 => k_asm); (case c1 => with_unfolding_all exact rfl); (case c2 => decide); (case c3 => exact rfl); (case c4 => decide); (case c5 => exact rfl); (case c7 => intro _; with_unfolding_all rfl); k_whole)))
local macro_rules | `(tactic| walk_at "CompAt") => `(tactic| (k_here; first
  | (k_dflt (refine' compAt_range ?h ?F ?N ?r ?s ?n ?z ?e ?t ?_; (case h => exact rfl); (case F | N => k_asm); (case r => assumption); (case s => exact small8 (by omega) (by omega)); (case n => exact size8 _); (case z => exact Nat.le_trans (size8_le (by omega)) (by decide)); (case e | t => ktn_open)); intro D' v' c' h' tk' F' N' l1 i'; (try dsimp only at F'); (try k_sweep); (try dsimp only); (try k_fold))
  | (k_dflt (refine' compAt_tuple ?h ?F ?N ?l ?i ?z ?e ?t ?_; (case h => exact rfl); (case F | N => k_asm); (case l => k_mem); (case i => ktr_unf); (case z => decide); (case e | t => ktn_open)); intro D' v' c' h' tk' F' N' l1 i'; (try dsimp only at F'); (try k_sweep); (try dsimp only); (try k_fold))
  | (k_dflt (refine' compAt_list ?h ?F ?N ?l ?i ?z ?e ?t ?_; (case h => exact rfl); (case F | N => k_asm); (case l => k_mem); (case i => ktr_unf); (case z => first | assumption | exact ups_len (by omega) | exact Nat.le_trans (Rel.len40 (by with_reducible assumption) (by omega)) (by decide) | omega); (case e | t => ktn_open)); intro D' v' c' h' tk' F' N' l1 i'; (try dsimp only at F'); (try k_sweep); (try dsimp only); (try k_fold))))
local macro_rules | `(tactic| walk_at "exec Assign cons ListComp") => `(tactic| (k_here; k_dflt (refine' compA_tells ?k0 ?hL ?hsw ?hy ?hp ?c1 ?c2 ?c3 ?c4 ?c5 ?_ ?c7; (case k0 => k_asm); (case hL => exact rfl); (case hsw => with_unfolding_all exact rfl); (case hy | hp => exact rfl); (case c1 => with_unfolding_all exact rfl); (case c2 => decide); (case c3 => exact rfl); (case c4 => decide); (case c5 => exact rfl); (case c7 => intro _; with_unfolding_all rfl); k_whole)))
-- part D2
section
set_option maxHeartbeats 4000000 in
theorem pick_tells {prog : Program} {w : World} {mean : ExcName → Option Value} {mg mb : Str → Option Value} {p : Program} {loose : List Str} {dp un : Nat} {gd : Option (List Code)} {cn : Str} {cs : Scope} {a : Addr} {ccd : Value} {cl : List (Str × Addr)} {outer : List Env} {A₀ : Around} {base h₀ : Heap} {L : Addr} {m : Str → Option Value} {s : Shared} {Q E : Value → Shared → Prop} {dk ql l : Addr} {od oq : Obj} {n : Int} {vs : List Value} {ns : List Int} {nn : Nat} {news r1 r2 rest : List (Addr × Obj)}
    (B : Below A₀ base outer h₀) (F : Fr h₀ L s.heap m) (X : (hd.heap_39 w.params).In h₀) (T : Top p loose mean mg mb h₀) (hk : cs.kind = .function) (N : News h₀ L s.heap news) (p1 : Pick dk od news r1) (D : Deck prog w dk od ql n) (p2 : Pick ql oq r1 r2) (C : Cells oq) (p3 : Pick l (PySem.W.listOf (List.toArray vs) nn) r2 rest) (hr : OwnOff rest [dk, ql]) (h1 : @Ne Nat dk ql) (h2 : @Ne Nat l dk) (h3 : @Ne Nat l ql)
    (hi : IntsAre vs ns) (hn : n ≤ 9999) (hz0 : 0 < ns.length) (hz : ns.length ≤ 100)
    (hd : dp + 10 < recursionLimit) (hu : un + 170 < cLine)
    (ret : ∀ r t od' oq' h' tk', Fr h₀ L h' m → News h₀ L h' ((dk, od') :: (ql, oq') :: (l, PySem.W.listOf (List.toArray vs) nn) :: rest) → Deck prog w dk od' ql (n + 1) → Cells oq' → r ∈ ns → Q (.int r t) { s with heap := h', toks := tk' }) :
    wpAny (model prog w) (ktrTop dp un gd cn cs L a ccd cl outer) (call (.ref 132) [.ref dk, .ref l]) Q E s := by
  replace N := pick3 N p1 p2 p3; clear p1 p2 p3
  refine wpAny_call ?_
  k_dflt cell_enter
  k_steps
  exact ret _ _ _ _ _ _ (by k_asm) (by k_asm) (by assumption) (by assumption) (kso_getD (by omega))

set_option maxHeartbeats 4000000 in
theorem first_tells {prog : Program} {w : World} {mean : ExcName → Option Value} {mg mb : Str → Option Value} {p : Program} {loose : List Str} {dp un : Nat} {gd : Option (List Code)} {cn : Str} {cs : Scope} {a : Addr} {ccd : Value} {cl : List (Str × Addr)} {outer : List Env} {A₀ : Around} {base h₀ : Heap} {L : Addr} {m : Str → Option Value} {s : Shared} {Q E : Value → Shared → Prop} {c : Int} {tk : Tok} {news : List (Addr × Obj)}
    (B : Below A₀ base outer h₀) (F : Fr h₀ L s.heap m) (X : (hd.heap_39 w.params).In h₀) (T : Top p loose mean mg mb h₀) (hk : cs.kind = .function) (N : News h₀ L s.heap news) (hc0 : 0 ≤ c) (hc1 : c ≤ 1000)
    (hd : dp + 10 < recursionLimit) (hu : un + 170 < cLine)
    (ret : ∀ (l : Addr) vs nn h' tk', Fr h₀ L h' m → News h₀ L h' ((l, PySem.W.listOf (List.toArray vs) nn) :: news) → OffD l news → IntsAre vs (ups c) → Q (.ref l) { s with heap := h', toks := tk' }) :
    wpAny (model prog w) (ktrTop dp un gd cn cs L a ccd cl outer) (call (.ref 137) [.int c tk]) Q E s := by
  refine wpAny_call ?_
  k_dflt cell_enter
  k_steps
  exact ret _ _ _ _ _ (by k_asm) (by k_asm) (by assumption) (by (rename IntsAre _ _ => hI9); rwa [List.filter_eq_self.mpr (fun _ _ => rfl)] at hI9)
end
-- part D3
section
theorem nextIs_of {ns : List Int} {c b M : Int} (hb : ¬ b ≤ c) (h1 : M ∈ ns.filter (fun k => cmpI .Gt k c) ++ [b]) (h2 : ∀ a ∈ ns.filter (fun k => cmpI .Gt k c) ++ [b], M ≤ a) : NextIs ns c b M := by
  unfold NextIs
  rw [if_pos (by omega)]
  simp only [List.mem_append, List.mem_filter, List.mem_cons, List.not_mem_nil, or_false, cmpI, decide_eq_true_eq] at h1 h2
  have hb2 := h2 b (.inr rfl)
  refine ⟨?_, hb2, ?_, fun j h3 h4 hj => ?_⟩
  · rcases h1 with h | h
    · exact h.2
    · omega
  · rcases h1 with h | h
    · exact .inr h.1
    · exact .inl h
  · have := h2 j (.inl ⟨hj, h3⟩)
    omega
theorem backIs_of {ns : List Int} {c b M : Int} (hb : ¬ c ≤ b) (h1 : M ∈ ns.filter (fun k => cmpI .Lt k c) ++ [b]) (h2 : ∀ a ∈ ns.filter (fun k => cmpI .Lt k c) ++ [b], a ≤ M) : BackIs ns c b M := by
  unfold BackIs
  rw [if_pos (by omega)]
  simp only [List.mem_append, List.mem_filter, List.mem_cons, List.not_mem_nil, or_false, cmpI, decide_eq_true_eq] at h1 h2
  have hb2 := h2 b (.inr rfl)
  refine ⟨?_, hb2, ?_, fun j h3 h4 hj => ?_⟩
  · rcases h1 with h | h
    · exact h.2
    · omega
  · rcases h1 with h | h
    · exact .inr h.1
    · exact .inl h
  · have := h2 j (.inl ⟨hj, h3⟩)
    omega

set_option maxHeartbeats 4000000 in
theorem next_tells {prog : Program} {w : World} {mean : ExcName → Option Value} {mg mb : Str → Option Value} {p : Program} {loose : List Str} {dp un : Nat} {gd : Option (List Code)} {cn : Str} {cs : Scope} {a : Addr} {ccd : Value} {cl : List (Str × Addr)} {outer : List Env} {A₀ : Around} {base h₀ : Heap} {L : Addr} {m : Str → Option Value} {s : Shared} {Q E : Value → Shared → Prop} {l : Addr} {c b : Int} {tc tb : Tok} {vs : List Value} {ns : List Int} {nn : Nat} {news rest : List (Addr × Obj)}
    (B : Below A₀ base outer h₀) (F : Fr h₀ L s.heap m) (X : (hd.heap_39 w.params).In h₀) (T : Top p loose mean mg mb h₀) (hk : cs.kind = .function) (N : News h₀ L s.heap news) (p1 : Pick l (PySem.W.listOf (List.toArray vs) nn) news rest) (hi : IntsAre vs ns) (hz : ns.length ≤ 100)
    (hd : dp + 10 < recursionLimit) (hu : un + 170 < cLine)
    (ret : ∀ r t h' tk', NextIs ns c b r → Fr h₀ L h' m → News h₀ L h' news → Q (.int r t) { s with heap := h', toks := tk' }) :
    wpAny (model prog w) (ktrTop dp un gd cn cs L a ccd cl outer) (call (.ref 142) [.ref l, .int c tc, .int b tb]) Q E s := by
  replace N := pick1 N p1
  refine wpAny_call ?_
  k_dflt (refine' code_defC ?k1 ?k2 ?k3 ?k4 ?k5 ?kA ?kF ?kK ?k6 ?k7 ?k8 ?k9 ?kB ?kD ?_ ?c2 ?c3 ?c4; (case kA | kF => exact rfl); (case kK => assumption); (case k1 | k2 => k_asm); (case k3 | k4 | k5 => k_asm); (case k6 | k7 => k_is); (case k8 => ktr_room); (case k9 => exact BindsTo.of_eq rfl); (case kB => exact rfl); (case kD => decide +kernel); (case c2 | c3 | c4 => exact rfl); k_whole; intro g' L' h' tk' cells' FG' F' N' Y' B' X' T' l1; (try k_lt l1); k_cells Y'; (try simp only [List.cons_append, List.nil_append] at N'); (try dsimp only); (try k_lift B'); (try k_fold))
  k_steps
  · refine ret _ _ _ _ ?_ (by k_asm) (unpick1 (kst_newsOf (by k_asm) (by tb_start)) p1)
    unfold NextIs
    rw [if_neg (by omega)]
  · exact ret _ _ _ _ (nextIs_of (by assumption) (by assumption) (by assumption)) (by k_asm) (unpick1 (kst_newsOf (by k_asm) (by tb_start)) p1)

set_option maxHeartbeats 4000000 in
theorem back_tells {prog : Program} {w : World} {mean : ExcName → Option Value} {mg mb : Str → Option Value} {p : Program} {loose : List Str} {dp un : Nat} {gd : Option (List Code)} {cn : Str} {cs : Scope} {a : Addr} {ccd : Value} {cl : List (Str × Addr)} {outer : List Env} {A₀ : Around} {base h₀ : Heap} {L : Addr} {m : Str → Option Value} {s : Shared} {Q E : Value → Shared → Prop} {l : Addr} {c b : Int} {tc tb : Tok} {vs : List Value} {ns : List Int} {nn : Nat} {news rest : List (Addr × Obj)}
    (B : Below A₀ base outer h₀) (F : Fr h₀ L s.heap m) (X : (hd.heap_39 w.params).In h₀) (T : Top p loose mean mg mb h₀) (hk : cs.kind = .function) (N : News h₀ L s.heap news) (p1 : Pick l (PySem.W.listOf (List.toArray vs) nn) news rest) (hi : IntsAre vs ns) (hz : ns.length ≤ 100)
    (hd : dp + 10 < recursionLimit) (hu : un + 170 < cLine)
    (ret : ∀ r t h' tk', BackIs ns c b r → Fr h₀ L h' m → News h₀ L h' news → Q (.int r t) { s with heap := h', toks := tk' }) :
    wpAny (model prog w) (ktrTop dp un gd cn cs L a ccd cl outer) (call (.ref 147) [.ref l, .int c tc, .int b tb]) Q E s := by
  replace N := pick1 N p1
  refine wpAny_call ?_
  k_dflt (refine' code_defC ?k1 ?k2 ?k3 ?k4 ?k5 ?kA ?kF ?kK ?k6 ?k7 ?k8 ?k9 ?kB ?kD ?_ ?c2 ?c3 ?c4; (case kA | kF => exact rfl); (case kK => assumption); (case k1 | k2 => k_asm); (case k3 | k4 | k5 => k_asm); (case k6 | k7 => k_is); (case k8 => ktr_room); (case k9 => exact BindsTo.of_eq rfl); (case kB => exact rfl); (case kD => decide +kernel); (case c2 | c3 | c4 => exact rfl); k_whole; intro g' L' h' tk' cells' FG' F' N' Y' B' X' T' l1; (try k_lt l1); k_cells Y'; (try simp only [List.cons_append, List.nil_append] at N'); (try dsimp only); (try k_lift B'); (try k_fold))
  k_steps
  · refine ret _ _ _ _ ?_ (by k_asm) (unpick1 (kst_newsOf (by k_asm) (by tb_start)) p1)
    unfold BackIs
    rw [if_neg (by omega)]
  · exact ret _ _ _ _ (backIs_of (by assumption) (by assumption) (by assumption)) (by k_asm) (unpick1 (kst_newsOf (by k_asm) (by tb_start)) p1)
end
-- part D4
section
local macro_rules | `(tactic| walk_at "call ref") => `(tactic| (k_here; k_dflt (refine' told_tells ?u0 ?u1 ?u2 ?u3 ?u4 ?u5 ?u6 ?u7 ?u8 ?u9 ?u10 ?u11 ?u12 ?_; (case u0 | u1 | u2 | u3 => k_asm); (case u4 => first | exact rfl | assumption); (case u5 => k_asm); (case u6 | u7 | u8 => tb_rel); (case u9 => k_asm); (case u10 => kxs_still); (case u11 => ktr_room); (case u12 => kwd_less); k_whole); intro D' h' v' n' c' tk' F' N' l1 i' p' o'; (try k_lt l1); (repeat (have l9 := And.left l1; replace l1 := And.right l1)); kwd_inv))
local macro_rules | `(tactic| walk_at "call ref") => `(tactic| (k_here; k_dflt (refine' pick_tells ?u0 ?u1 ?u2 ?u3 ?u4 ?u5 ?u6 ?u7 ?u8 ?u9 ?u10 ?u11 ?u12 ?u13 ?u14 ?u15 ?u16 ?u17 ?u18 ?u19 ?u20 ?_; (case u0 | u1 | u2 | u3 => k_asm); (case u4 => first | exact rfl | assumption); (case u5 => k_asm); (case u6 => tb_rel); (case u7 => k_asm); (case u8 => tb_rel); (case u9 => k_asm); (case u10 => tb_rel); (case u11 => ktr_rel); (case u12 | u13 | u14 => k_ne); (case u15 => first | assumption | l_ints); (case u16 => kxs_still); (case u17 | u18 => first | omega | (simp only [List.length_append, List.length_cons, List.length_nil]; omega)); (case u19 => ktr_room); (case u20 => kwd_less); k_whole); intros; kwd_inv))
local macro_rules | `(tactic| walk_at "call ref") => `(tactic| (k_here; k_dflt (refine' next_from_tells ?u0 ?u1 ?u2 ?u3 ?u4 ?u5 ?u6 ?u7 ?u8 ?u9 ?u10 ?u11 ?_; (case u0 | u1 | u2 | u3 => k_asm); (case u4 => first | exact rfl | assumption); (case u5 => k_asm); (case u6 | u7 | u8 => tb_rel); (case u9 => k_asm); (case u10 => ktr_room); (case u11 => kwd_less); k_whole); intros; kwd_inv))
local macro_rules | `(tactic| walk_at "call ref") => `(tactic| (k_here; k_dflt (refine' back_from_tells ?u0 ?u1 ?u2 ?u3 ?u4 ?u5 ?u6 ?u7 ?u8 ?u9 ?u10 ?u11 ?_; (case u0 | u1 | u2 | u3 => k_asm); (case u4 => first | exact rfl | assumption); (case u5 => k_asm); (case u6 | u7 | u8 => tb_rel); (case u9 => k_asm); (case u10 => ktr_room); (case u11 => kwd_less); k_whole); intros; kwd_inv))
local macro_rules | `(tactic| walk_at "call ref") => `(tactic| (k_here; k_dflt (refine' back_from_tells1 ?u0 ?u1 ?u2 ?u3 ?u4 ?u5 ?u6 ?u7 ?u8 ?u9 ?u10 ?u11 ?_; (case u0 | u1 | u2 | u3 => k_asm); (case u4 => first | exact rfl | assumption); (case u5 => k_asm); (case u6 | u7 | u8 => tb_rel); (case u9 => k_asm); (case u10 => ktr_room); (case u11 => kwd_less); k_whole); intros; kwd_inv))
local macro_rules | `(tactic| walk_at "call ref") => `(tactic| (k_here; k_dflt (refine' next_tells ?u0 ?u1 ?u2 ?u3 ?u4 ?u5 ?u6 ?u7 ?u8 ?u9 ?u10 ?_; (case u0 | u1 | u2 | u3 => k_asm); (case u4 => first | exact rfl | assumption); (case u5 => k_asm); (case u6 => tb_rel); (case u7 => first | assumption | l_ints); (case u8 => kxs_still); (case u9 => ktr_room); (case u10 => kwd_less); k_whole); intros; kwd_inv))
local macro_rules | `(tactic| walk_at "call ref") => `(tactic| (k_here; k_dflt (refine' back_tells ?u0 ?u1 ?u2 ?u3 ?u4 ?u5 ?u6 ?u7 ?u8 ?u9 ?u10 ?_; (case u0 | u1 | u2 | u3 => k_asm); (case u4 => first | exact rfl | assumption); (case u5 => k_asm); (case u6 => tb_rel); (case u7 => first | assumption | l_ints); (case u8 => kxs_still); (case u9 => ktr_room); (case u10 => kwd_less); k_whole); intros; kwd_inv))

theorem nextIs_unique {ks ns : List Int} (hm : ∀ z, z ∈ ks ↔ z ∈ ns) {c b r q : Int} (h1 : NextIs ks c b r) (h2 : NextIs ns c b q) : r = q := by
  unfold NextIs at h1 h2
  by_cases h : c < b
  · rw [if_pos h] at h1 h2
    obtain ⟨a1, a2, a3, a4⟩ := h1
    obtain ⟨b1, b2, b3, b4⟩ := h2
    rcases Int.lt_trichotomy r q with hlt | he | hgt
    · rcases a3 with e | e
      · omega
      · exact absurd ((hm r).mp e) (b4 r a1 hlt)
    · exact he
    · rcases b3 with e | e
      · omega
      · exact absurd ((hm q).mpr e) (a4 q b1 hgt)
  · rw [if_neg h] at h1 h2
    rw [h1, h2]
theorem backIs_unique {ks ns : List Int} (hm : ∀ z, z ∈ ks ↔ z ∈ ns) {c b r q : Int} (h1 : BackIs ks c b r) (h2 : BackIs ns c b q) : r = q := by
  unfold BackIs at h1 h2
  by_cases h : c > b
  · rw [if_pos h] at h1 h2
    obtain ⟨a1, a2, a3, a4⟩ := h1
    obtain ⟨b1, b2, b3, b4⟩ := h2
    rcases Int.lt_trichotomy r q with hlt | he | hgt
    · rcases b3 with e | e
      · omega
      · exact absurd ((hm q).mpr e) (a4 q b1 hlt)
    · exact he
    · rcases a3 with e | e
      · omega
      · exact absurd ((hm r).mp e) (b4 r a1 hgt)
  · rw [if_neg h] at h1 h2
    rw [h1, h2]

set_option maxHeartbeats 8000000 in
theorem asked_tells {prog : Program} {w : World} {mean : ExcName → Option Value} {mg mb : Str → Option Value} {p : Program} {loose : List Str} {dp un : Nat} {gd : Option (List Code)} {cn : Str} {cs : Scope} {a : Addr} {ccd : Value} {cl : List (Str × Addr)} {outer : List Env} {A₀ : Around} {base h₀ : Heap} {L : Addr} {m : Str → Option Value} {s : Shared} {Q E : Value → Shared → Prop} {dk ql x dx d l : Addr} {od oq o : Obj} {hcdx hsdx : Int} {t1dx t2dx tcdx : Tok} {c n : Int} {tc : Tok} {ks ns : List Int} {vs : List Value} {nn : Nat} {news r1 r2 r3 r4 r5 rest : List (Addr × Obj)}
    (B : Below A₀ base outer h₀) (F : Fr h₀ L s.heap m) (X : (hd.heap_39 w.params).In h₀) (T : Top p loose mean mg mb h₀) (hk : cs.kind = .function) (N : News h₀ L s.heap news) (p1 : Pick dk od news r1) (D : Deck prog w dk od ql n) (p2 : Pick ql oq r1 r2) (C : Cells oq)
    (p3 : Pick x (instObj 109 dx) r2 r3) (p4 : Pick dx (PySem.W.dictOf [⟨hcdx, Value.str (Str.ofString "columns") t1dx, Value.int c tcdx⟩, ⟨hsdx, Value.str (Str.ofString "stops") t2dx, Value.ref d⟩] 2) r3 r4) (p5 : Pick d o r4 r5) (S : Stops prog w d o ks)
    (p6 : Pick l (PySem.W.listOf (List.toArray vs) nn) r5 rest) (hi : IntsAre vs ns)
    (hr : OwnOff ((l, PySem.W.listOf (List.toArray vs) nn) :: (d, o) :: (dx, PySem.W.dictOf [⟨hcdx, Value.str (Str.ofString "columns") t1dx, Value.int c tcdx⟩, ⟨hsdx, Value.str (Str.ofString "stops") t2dx, Value.ref d⟩] 2) :: (x, instObj 109 dx) :: rest) [dk, ql]) (h1 : @Ne Nat dk ql) (hn : n ≤ 9000)
    (hp : ks.Perm ns) (hs : ns.Pairwise (· < ·)) (hz : ns.length < 64) (hc0 : 1 ≤ c) (hc1 : c ≤ 900)
    (hd : dp + 20 < recursionLimit) (hu : un + 250 < cLine)
    (ret : ∀ od' oq' h' tk', Fr h₀ L h' m → News h₀ L h' ((dk, od') :: (ql, oq') :: (l, PySem.W.listOf (List.toArray vs) nn) :: (d, o) :: (dx, PySem.W.dictOf [⟨hcdx, Value.str (Str.ofString "columns") t1dx, Value.int c tcdx⟩, ⟨hsdx, Value.str (Str.ofString "stops") t2dx, Value.ref d⟩] 2) :: (x, instObj 109 dx) :: rest) → Deck prog w dk od' ql (n + 5) → Cells oq' → Q (.bool true) { s with heap := h', toks := tk' }) :
    wpAny (model prog w) (ktrTop dp un gd cn cs L a ccd cl outer) (call (.ref 154) [.ref dk, .ref x, .ref l, .int c tc]) Q E s := by
  replace N := pickC [_, _, _, _, _] (pickC [_, _, _, _] (pickC [_, _, _] (pickC [_, _] (pickC [_] (pickC [] N p1) p2) p3) p4) p5) p6
  clear p1 p2 p3 p4 p5 p6
  simp only [List.cons_append, List.nil_append] at N
  have f1 : @Ne Nat l dk := hr (l, _) (by k_memK) dk (by k_memK)
  have f2 : @Ne Nat l ql := hr (l, _) (by k_memK) ql (by k_memK)
  have f3 : @Ne Nat d dk := hr (d, _) (by k_memK) dk (by k_memK)
  have f4 : @Ne Nat d ql := hr (d, _) (by k_memK) ql (by k_memK)
  have f5 : @Ne Nat dx dk := hr (dx, _) (by k_memK) dk (by k_memK)
  have f6 : @Ne Nat dx ql := hr (dx, _) (by k_memK) ql (by k_memK)
  have f7 : @Ne Nat x dk := hr (x, _) (by k_memK) dk (by k_memK)
  have f8 : @Ne Nat x ql := hr (x, _) (by k_memK) ql (by k_memK)
  have hr' : OwnOff rest [dk, ql] := fun p hp => hr p (.tail _ (.tail _ (.tail _ (.tail _ hp))))
  clear hr
  refine wpAny_call ?_
  k_dflt cell_enter
  have hz' : ks.length < 64 := by rw [hp.length_eq]; exact hz
  have hm : ∀ z, z ∈ ks ↔ z ∈ ns := fun z => hp.mem_iff
  have hle : ns.Pairwise (· ≤ ·) := hs.imp fun h => Int.le_of_lt h
  k_steps
  · (rename NextIs ks _ _ _ => g1); (rename NextIs ns _ _ _ => g2)
    exact absurd (nextIs_unique hm g1 g2) (by assumption)
  · (rename BackIs ks _ 0 _ => g1); (rename BackIs ns _ 0 _ => g2)
    have e := backIs_unique hm g1 g2
    rw [e, beq_self_eq_true]
    refine ret _ _ _ _ (by k_asm) (kst_newsOf (by k_asm) (by tb_start)) ?_ (by assumption)
    rw [show n + 5 = n + 1 + 1 + 1 + 1 + 1 by omega]; assumption
  · (rename BackIs ks _ _ _ => g1); (rename BackIs ns _ _ _ => g2)
    exact absurd (backIs_unique hm g1 g2) (by assumption)
  · (rename List.Perm _ _ => g1); (rename List.Pairwise (fun x y => x ≤ y) _ => g2)
    exact absurd (ksm_same (g1.trans hp) (by assumption) hle) (by assumption)
end
-- part D5
section
local macro_rules | `(tactic| walk_at "pyIter ref") => `(tactic| ((with_reducible show wpAny _ _ (pyIter (Value.ref _)) (fun it s₂ => LoopAtV _ _ _ _ _ _ _ _ _ it s₂) _ _); refine held_of ?_))

set_option maxHeartbeats 8000000 in
theorem deck_tells {prog : Program} {w : World} {mean : ExcName → Option Value} {mg mb : Str → Option Value} {p : Program} {loose : List Str} {dp un : Nat} {gd : Option (List Code)} {cn : Str} {cs : Scope} {a : Addr} {ccd : Value} {cl : List (Str × Addr)} {outer : List Env} {A₀ : Around} {base h₀ : Heap} {L : Addr} {m : Str → Option Value} {s : Shared} {Q E : Value → Shared → Prop} {l : Addr} {vs : List Value} {ns : List Int} {news : List (Addr × Obj)}
    (B : Below A₀ base outer h₀) (F : Fr h₀ L s.heap m) (X : (hd.heap_39 w.params).In h₀) (T : Top p loose mean mg mb h₀) (hk : cs.kind = .function) (N : News h₀ L s.heap news) (hl : base.IsList l vs.toArray) (hi : IntsAre vs ns) (hz : ns.length ≤ 63)
    (hd : dp + 20 < recursionLimit) (hu : un + 250 < cLine)
    (ret : ∀ (dk ql : Addr) od oq h' tk', Fr h₀ L h' m → News h₀ L h' ((dk, od) :: (ql, oq) :: news) → Deck prog w dk od ql 0 → Cells oq → OffD dk news → OffD ql news → @Ne Nat dk ql → Q (.ref dk) { s with heap := h', toks := tk' }) :
    wpAny (model prog w) (ktrTop dp un gd cn cs L a ccd cl outer) (call (.ref 118) [.ref l]) Q E s := by
  refine wpAny_call ?_
  k_dflt cell_enter
  k_steps
  (rename Fr _ _ _ _ => lF')
  with_unfolding_all refine' For_invVF lF' ?k1 ?k2 ?_
  case k1 => exact rfl
  case k2 => exact rfl
  k_steps
  unfold Held
  (rename Fr _ _ _ _ => lF'); (rename News _ _ _ _ => lN'); (rename IntsAre _ (List.filter _ _) => hI9)
  rw [List.filter_eq_self.mpr (fun _ _ => rfl)] at hI9
  k_dflt (refine' loopListV (Str.ofString "mixed") (fun _ a => 0 ≤ a ∧ a < 2147483587) rfl (by k_mem) hI9 lF' rfl lN' (by decide) ?turn ?done)
  case turn =>
    intro i k t a ta I h tk io hi hI hne F₁ N₁
    obtain ⟨q1, q2⟩ := hI
    k_steps
    exact turnEndV _ _ (by k_asm) (by k_asm) (.head _) (by tb_start) hne rfl (fun z h1 h2 => by simp [h1, h2]) ⟨(fb _ (by decide)).1, (fb _ (by decide)).2⟩
  case done =>
    intro a ta u h tk hI F₁ N₁
    obtain ⟨q1, q2⟩ := hI
    k_steps
    (rename _ ∧ _ ∧ _ ∧ _ ∧ AllLt _ news => g1); (rename _ ∧ _ ∧ _ ∧ AllLt _ news => g2); (rename Obj.IsDictOf _ _ _ => g3); (rename IntsAre _ (List.reverse _) => g4); (rename (_ == sysModules) = false => g5)
    refine ret _ _ _ _ _ _ (by k_asm) (kst_newsOf (by k_asm) (by tb_start)) ⟨g5, a, _, 0, _, g3, q1, q2, Int.le_refl _, Int.le_refl _⟩ ⟨_, _, _, rfl, g4, ?_⟩ (fun q hq => Nat.ne_of_lt (kst_ltOf g2.2.2.2 q hq)) (fun q hq => Nat.ne_of_lt (kst_ltOf g1.2.2.2.2 q hq)) (Nat.ne_of_lt g1.1)
    rw [List.length_reverse, List.length_take]; omega
end
-- part E1
theorem set2 {prog : Program} {w : World} {mean : ExcName → Option Value} {mg mb : Str → Option Value} {p : Program} {loose : List Str} {dp un : Nat} {gd : Option (List Code)} {cn : Str} {cs : Scope} {a : Addr} {ccd : Value} {cl : List (Str × Addr)} {outer : List Env} {A₀ : Around} {base h₀ : Heap} {L : Addr} {m : Str → Option Value} {s : Shared} {Q E : Value → Shared → Prop} {x dx d : Addr} {hcdx hsdx : Int} {t1dx t2dx tcdx : Tok} {o : Obj} {c k : Int} {tk : Tok} {ks own : List Int} {news r1 r2 rest : List (Addr × Obj)}
    (B : Below A₀ base outer h₀) (F : Fr h₀ L s.heap m) (X : (hd.heap_39 w.params).In h₀) (T : Top p loose mean mg mb h₀) (hk : cs.kind = .function) (N : News h₀ L s.heap news) (px : Pick x (instObj 109 dx) news r1) (pdx : Pick dx (PySem.W.dictOf [⟨hcdx, Value.str (Str.ofString "columns") t1dx, Value.int c tcdx⟩, ⟨hsdx, Value.str (Str.ofString "stops") t2dx, Value.ref d⟩] 2) r1 r2) (pd : Pick d o r2 rest) (hr : OwnOff rest [d, dx, x]) (h1 : @Ne Nat d dx) (h2 : @Ne Nat d x) (h3 : @Ne Nat dx x)
    (S : Stops prog w d o ks) (R : Rel ks own c) (hc0 : 1 ≤ c) (hc1 : c ≤ 40) (hd : dp + 5 < recursionLimit) (hu : un + 50 < cLine)
    (ret : ∀ h' o' tk', Fr h₀ L h' m → News h₀ L h' ((d, o') :: (dx, PySem.W.dictOf [⟨hcdx, Value.str (Str.ofString "columns") t1dx, Value.int c tcdx⟩, ⟨hsdx, Value.str (Str.ofString "stops") t2dx, Value.ref d⟩] 2) :: (x, instObj 109 dx) :: rest) → Stops prog w d o' (if 0 ≤ k ∧ k < c then putK ks k else ks) → Q .none { s with heap := h', toks := tk' }) :
    wpAny (model prog w) (ktrTop dp un gd cn cs L a ccd cl outer) (call (.ref 42) [.ref x, .int k tk]) Q E s :=
  set_tells B F X T hk N px pdx pd hr h1 h2 h3 S (by have := R.lenK (by omega); omega) hd hu ret
theorem clear2 {prog : Program} {w : World} {mean : ExcName → Option Value} {mg mb : Str → Option Value} {p : Program} {loose : List Str} {dp un : Nat} {gd : Option (List Code)} {cn : Str} {cs : Scope} {a : Addr} {ccd : Value} {cl : List (Str × Addr)} {outer : List Env} {A₀ : Around} {base h₀ : Heap} {L : Addr} {m : Str → Option Value} {s : Shared} {Q E : Value → Shared → Prop} {x dx d : Addr} {hcdx hsdx : Int} {t1dx t2dx tcdx : Tok} {o : Obj} {c k : Int} {tk : Tok} {ks own : List Int} {news r1 r2 rest : List (Addr × Obj)}
    (B : Below A₀ base outer h₀) (F : Fr h₀ L s.heap m) (X : (hd.heap_39 w.params).In h₀) (T : Top p loose mean mg mb h₀) (hk : cs.kind = .function) (N : News h₀ L s.heap news) (px : Pick x (instObj 109 dx) news r1) (pdx : Pick dx (PySem.W.dictOf [⟨hcdx, Value.str (Str.ofString "columns") t1dx, Value.int c tcdx⟩, ⟨hsdx, Value.str (Str.ofString "stops") t2dx, Value.ref d⟩] 2) r1 r2) (pd : Pick d o r2 rest) (hr : OwnOff rest [d, dx, x]) (h1 : @Ne Nat d dx) (h2 : @Ne Nat d x) (h3 : @Ne Nat dx x)
    (S : Stops prog w d o ks) (R : Rel ks own c) (hc0 : 1 ≤ c) (hc1 : c ≤ 40) (hd : dp + 5 < recursionLimit) (hu : un + 50 < cLine)
    (ret : ∀ h' o' tk', Fr h₀ L h' m → News h₀ L h' ((d, o') :: (dx, PySem.W.dictOf [⟨hcdx, Value.str (Str.ofString "columns") t1dx, Value.int c tcdx⟩, ⟨hsdx, Value.str (Str.ofString "stops") t2dx, Value.ref d⟩] 2) :: (x, instObj 109 dx) :: rest) → Stops prog w d o' (if k ∈ ks then delK ks k else ks) → Q .none { s with heap := h', toks := tk' }) :
    wpAny (model prog w) (ktrTop dp un gd cn cs L a ccd cl outer) (call (.ref 49) [.ref x, .int k tk]) Q E s :=
  clear_tells B F X T hk N px pdx pd hr h1 h2 h3 S (by have := R.lenK (by omega); omega) hd hu ret
theorem clear_all2 {prog : Program} {w : World} {mean : ExcName → Option Value} {mg mb : Str → Option Value} {p : Program} {loose : List Str} {dp un : Nat} {gd : Option (List Code)} {cn : Str} {cs : Scope} {a : Addr} {ccd : Value} {cl : List (Str × Addr)} {outer : List Env} {A₀ : Around} {base h₀ : Heap} {L : Addr} {m : Str → Option Value} {s : Shared} {Q E : Value → Shared → Prop} {x dx d : Addr} {hcdx hsdx : Int} {t1dx t2dx tcdx : Tok} {c : Int} {news r1 rest : List (Addr × Obj)}
    (B : Below A₀ base outer h₀) (F : Fr h₀ L s.heap m) (X : (hd.heap_39 w.params).In h₀) (T : Top p loose mean mg mb h₀) (hk : cs.kind = .function) (N : News h₀ L s.heap news) (px : Pick x (instObj 109 dx) news r1) (pdx : Pick dx (PySem.W.dictOf [⟨hcdx, Value.str (Str.ofString "columns") t1dx, Value.int c tcdx⟩, ⟨hsdx, Value.str (Str.ofString "stops") t2dx, Value.ref d⟩] 2) r1 rest) (hr : OwnOff rest [dx, x]) (h3 : @Ne Nat dx x)
    (hd : dp + 5 < recursionLimit) (hu : un + 50 < cLine)
    (ret : ∀ (d' : Addr) h' o' tk', Fr h₀ L h' m → News h₀ L h' ((d', o') :: (dx, PySem.W.dictOf [⟨hcdx, Value.str (Str.ofString "columns") t1dx, Value.int c tcdx⟩, ⟨hsdx, Value.str (Str.ofString "stops") t2dx, Value.ref d'⟩] 2) :: (x, instObj 109 dx) :: rest) → Stops prog w d' o' [] → OffD d' ((dx, PySem.W.dictOf [⟨hcdx, Value.str (Str.ofString "columns") t1dx, Value.int c tcdx⟩, ⟨hsdx, Value.str (Str.ofString "stops") t2dx, Value.ref d'⟩] 2) :: (x, instObj 109 dx) :: rest) → Q .none { s with heap := h', toks := tk' }) :
    wpAny (model prog w) (ktrTop dp un gd cn cs L a ccd cl outer) (call (.ref 56) [.ref x]) Q E s :=
  clear_all_tells (r2 := []) B F X T hk N px pdx hr h3 hd hu fun d' h' o' tk' F' N' S' l1 l2 l3 => ret d' h' o' tk' F' N' S' (List.forall_mem_cons.mpr ⟨Nat.ne_of_lt l2, List.forall_mem_cons.mpr ⟨Nat.ne_of_lt l3, fun q hq => Nat.ne_of_lt (l1 q hq)⟩⟩)
theorem reset2 {prog : Program} {w : World} {mean : ExcName → Option Value} {mg mb : Str → Option Value} {p : Program} {loose : List Str} {dp un : Nat} {gd : Option (List Code)} {cn : Str} {cs : Scope} {a : Addr} {ccd : Value} {cl : List (Str × Addr)} {outer : List Env} {A₀ : Around} {base h₀ : Heap} {L : Addr} {m : Str → Option Value} {s : Shared} {Q E : Value → Shared → Prop} {x dx d : Addr} {hcdx hsdx : Int} {t1dx t2dx tcdx : Tok} {c : Int} {news r1 rest : List (Addr × Obj)}
    (B : Below A₀ base outer h₀) (F : Fr h₀ L s.heap m) (X : (hd.heap_39 w.params).In h₀) (T : Top p loose mean mg mb h₀) (hk : cs.kind = .function) (N : News h₀ L s.heap news) (px : Pick x (instObj 109 dx) news r1) (pdx : Pick dx (PySem.W.dictOf [⟨hcdx, Value.str (Str.ofString "columns") t1dx, Value.int c tcdx⟩, ⟨hsdx, Value.str (Str.ofString "stops") t2dx, Value.ref d⟩] 2) r1 rest) (hr : OwnOff rest [dx, x]) (h3 : @Ne Nat dx x)
    (hc0 : 1 ≤ c) (hc1 : c ≤ 40) (hd : dp + 10 < recursionLimit) (hu : un + 60 < cLine)
    (ret : ∀ (d' : Addr) h' o' tk', Fr h₀ L h' m → News h₀ L h' ((d', o') :: (dx, PySem.W.dictOf [⟨hcdx, Value.str (Str.ofString "columns") t1dx, Value.int c tcdx⟩, ⟨hsdx, Value.str (Str.ofString "stops") t2dx, Value.ref d'⟩] 2) :: (x, instObj 109 dx) :: rest) → Stops prog w d' o' ((ups c).foldl (putF 0) []) → OffD d' ((dx, PySem.W.dictOf [⟨hcdx, Value.str (Str.ofString "columns") t1dx, Value.int c tcdx⟩, ⟨hsdx, Value.str (Str.ofString "stops") t2dx, Value.ref d'⟩] 2) :: (x, instObj 109 dx) :: rest) → Q .none { s with heap := h', toks := tk' }) :
    wpAny (model prog w) (ktrTop dp un gd cn cs L a ccd cl outer) (call (.ref 63) [.ref x]) Q E s :=
  reset_tells (r2 := []) B F X T hk N px pdx hr h3 (by omega) (by omega) hd hu fun d' h' o' tk' F' N' S' l1 l2 l3 => ret d' h' o' tk' F' N' S' (List.forall_mem_cons.mpr ⟨Nat.ne_of_lt l2, List.forall_mem_cons.mpr ⟨Nat.ne_of_lt l3, fun q hq => Nat.ne_of_lt (l1 q hq)⟩⟩)
theorem put2 {prog : Program} {w : World} {mean : ExcName → Option Value} {mg mb : Str → Option Value} {p : Program} {loose : List Str} {dp un : Nat} {gd : Option (List Code)} {cn : Str} {cs : Scope} {a : Addr} {ccd : Value} {cl : List (Str × Addr)} {outer : List Env} {A₀ : Around} {base h₀ : Heap} {L : Addr} {m : Str → Option Value} {s : Shared} {Q E : Value → Shared → Prop} {x dx d l : Addr} {hcdx hsdx : Int} {t1dx t2dx tcdx : Tok} {c : Int} {vs : List Value} {ns : List Int} {nn : Nat} {news r1 r2 rest : List (Addr × Obj)}
    (B : Below A₀ base outer h₀) (F : Fr h₀ L s.heap m) (X : (hd.heap_39 w.params).In h₀) (T : Top p loose mean mg mb h₀) (hk : cs.kind = .function) (N : News h₀ L s.heap news) (px : Pick x (instObj 109 dx) news r1) (pdx : Pick dx (PySem.W.dictOf [⟨hcdx, Value.str (Str.ofString "columns") t1dx, Value.int c tcdx⟩, ⟨hsdx, Value.str (Str.ofString "stops") t2dx, Value.ref d⟩] 2) r1 r2) (pl : Pick l (PySem.W.listOf (List.toArray vs) nn) r2 rest)
    (hr : OwnOff rest [dx, x, l]) (h1 : @Ne Nat l dx) (h2 : @Ne Nat l x) (h3 : @Ne Nat dx x) (hi : IntsAre vs ns) (hz : ns.length ≤ 5000)
    (hd : dp + 10 < recursionLimit) (hu : un + 60 < cLine)
    (ret : ∀ (d' : Addr) h' o' tk', Fr h₀ L h' m → News h₀ L h' ((d', o') :: (dx, PySem.W.dictOf [⟨hcdx, Value.str (Str.ofString "columns") t1dx, Value.int c tcdx⟩, ⟨hsdx, Value.str (Str.ofString "stops") t2dx, Value.ref d'⟩] 2) :: (x, instObj 109 dx) :: (l, PySem.W.listOf (List.toArray vs) nn) :: rest) → Stops prog w d' o' (ns.foldl (putC c) []) → OffD d' ((dx, PySem.W.dictOf [⟨hcdx, Value.str (Str.ofString "columns") t1dx, Value.int c tcdx⟩, ⟨hsdx, Value.str (Str.ofString "stops") t2dx, Value.ref d'⟩] 2) :: (x, instObj 109 dx) :: (l, PySem.W.listOf (List.toArray vs) nn) :: rest) → Q .none { s with heap := h', toks := tk' }) :
    wpAny (model prog w) (ktrTop dp un gd cn cs L a ccd cl outer) (call (.ref 77) [.ref x, .ref l]) Q E s :=
  put_tells B F X T hk N px pdx pl hr h1 h2 h3 hi hz hd hu fun d' h' o' tk' F' N' S' l1 l2 l3 => ret d' h' o' tk' F' N' S' (List.forall_mem_cons.mpr ⟨Nat.ne_of_lt l2, List.forall_mem_cons.mpr ⟨Nat.ne_of_lt l3, fun q hq => Nat.ne_of_lt (l1 q hq)⟩⟩)
theorem told2 {prog : Program} {w : World} {mean : ExcName → Option Value} {mg mb : Str → Option Value} {p : Program} {loose : List Str} {dp un : Nat} {gd : Option (List Code)} {cn : Str} {cs : Scope} {a : Addr} {ccd : Value} {cl : List (Str × Addr)} {outer : List Env} {A₀ : Around} {base h₀ : Heap} {L : Addr} {m : Str → Option Value} {s : Shared} {Q E : Value → Shared → Prop} {x dx d : Addr} {hcdx hsdx : Int} {t1dx t2dx tcdx : Tok} {o : Obj} {c : Int} {ks own : List Int} {news r1 r2 rest : List (Addr × Obj)}
    (B : Below A₀ base outer h₀) (F : Fr h₀ L s.heap m) (X : (hd.heap_39 w.params).In h₀) (T : Top p loose mean mg mb h₀) (hk : cs.kind = .function) (N : News h₀ L s.heap news) (px : Pick x (instObj 109 dx) news r1) (pdx : Pick dx (PySem.W.dictOf [⟨hcdx, Value.str (Str.ofString "columns") t1dx, Value.int c tcdx⟩, ⟨hsdx, Value.str (Str.ofString "stops") t2dx, Value.ref d⟩] 2) r1 r2) (pd : Pick d o r2 rest)
    (S : Stops prog w d o ks) (R : Rel ks own c) (hc0 : 1 ≤ c) (hc1 : c ≤ 40) (hd : dp + 5 < recursionLimit) (hu : un + 50 < cLine)
    (ret : ∀ (D : Addr) h' vs n tk', Fr h₀ L h' m → News h₀ L h' ((D, PySem.W.listOf (List.toArray vs) n) :: news) → OffD D news → IntsAre vs own → Q (.ref D) { s with heap := h', toks := tk' }) :
    wpAny (model prog w) (ktrTop dp un gd cn cs L a ccd cl outer) (call (.ref 70) [.ref x]) Q E s :=
  told_tells B F X T hk N px pdx pd S (by have := R.lenK (by omega); omega) hd hu fun D h' vs ns n tk' F' N' l1 i' p' o' => ret D h' vs n tk' F' N' (fun q hq => Nat.ne_of_lt (l1 q hq)) (told_is R p' o' ▸ i')
theorem resize2 {prog : Program} {w : World} {mean : ExcName → Option Value} {mg mb : Str → Option Value} {p : Program} {loose : List Str} {dp un : Nat} {gd : Option (List Code)} {cn : Str} {cs : Scope} {a : Addr} {ccd : Value} {cl : List (Str × Addr)} {outer : List Env} {A₀ : Around} {base h₀ : Heap} {L : Addr} {m : Str → Option Value} {s : Shared} {Q E : Value → Shared → Prop} {x dx d : Addr} {hcdx hsdx : Int} {t1dx t2dx tcdx : Tok} {o : Obj} {c k : Int} {tk : Tok} {ks own : List Int} {news r1 r2 rest : List (Addr × Obj)}
    (B : Below A₀ base outer h₀) (F : Fr h₀ L s.heap m) (X : (hd.heap_39 w.params).In h₀) (T : Top p loose mean mg mb h₀) (hk : cs.kind = .function) (N : News h₀ L s.heap news) (px : Pick x (instObj 109 dx) news r1) (pdx : Pick dx (PySem.W.dictOf [⟨hcdx, Value.str (Str.ofString "columns") t1dx, Value.int c tcdx⟩, ⟨hsdx, Value.str (Str.ofString "stops") t2dx, Value.ref d⟩] 2) r1 r2) (pd : Pick d o r2 rest) (hr : OwnOff rest [d, dx, x]) (h1 : @Ne Nat d dx) (h2 : @Ne Nat d x) (h3 : @Ne Nat dx x)
    (S : Stops prog w d o ks) (R : Rel ks own c) (hc0 : 1 ≤ c) (hc1 : c ≤ 40) (hk0 : 0 ≤ k) (hk1 : k ≤ 1000) (hd : dp + 10 < recursionLimit) (hu : un + 60 < cLine)
    (ret : ∀ h' o' tk' ks', Fr h₀ L h' m → News h₀ L h' ((d, o') :: (dx, PySem.W.dictOf [⟨hcdx, Value.str (Str.ofString "columns") t1dx, Value.int k tk⟩, ⟨hsdx, Value.str (Str.ofString "stops") t2dx, Value.ref d⟩] 2) :: (x, instObj 109 dx) :: rest) → Stops prog w d o' ks' → Rel ks' (own.filter (fun z => cmpI .Lt z k) ++ (ups k).filter fun z => cmpI .GtE z c) k → Q .none { s with heap := h', toks := tk' }) :
    wpAny (model prog w) (ktrTop dp un gd cn cs L a ccd cl outer) (call (.ref 99) [.ref x, .int k tk]) Q E s :=
  resize_tells B F X T hk N px pdx pd hr h1 h2 h3 S R.nodup (by have := R.lenK (by omega); omega) hk0 hk1 hd hu fun h' o' tk' F' N' S' => ret h' o' tk' _ F' N' S' (rel_resize R)
theorem tabs2 {prog : Program} {w : World} {mean : ExcName → Option Value} {mg mb : Str → Option Value} {p : Program} {loose : List Str} {dp un : Nat} {gd : Option (List Code)} {cn : Str} {cs : Scope} {a : Addr} {ccd : Value} {cl : List (Str × Addr)} {outer : List Env} {A₀ : Around} {base h₀ : Heap} {L : Addr} {m : Str → Option Value} {s : Shared} {Q E : Value → Shared → Prop} {c : Int} {tk : Tok} {news : List (Addr × Obj)}
    (B : Below A₀ base outer h₀) (F : Fr h₀ L s.heap m) (X : (hd.heap_39 w.params).In h₀) (T : Top p loose mean mg mb h₀) (hk : cs.kind = .function) (N : News h₀ L s.heap news) (hc0 : 1 ≤ c) (hc1 : c ≤ 40) (hd : dp + 10 < recursionLimit) (hu : un + 60 < cLine)
    (ret : ∀ (x dx d : Addr) (hcdx hsdx : Int) (t1dx t2dx tcdx : Tok) h' o' tk', Fr h₀ L h' m → News h₀ L h' ((d, o') :: (dx, PySem.W.dictOf [⟨hcdx, Value.str (Str.ofString "columns") t1dx, Value.int c tcdx⟩, ⟨hsdx, Value.str (Str.ofString "stops") t2dx, Value.ref d⟩] 2) :: (x, instObj 109 dx) :: news) → Stops prog w d o' ((ups c).foldl (putF 0) []) → OffD dx news → OffD x news → OffD d news → AllDif [d, dx, x] → Q (.ref x) { s with heap := h', toks := tk' }) :
    wpAny (model prog w) (ktrTop dp un gd cn cs L a ccd cl outer) (call (.ref 109) [.int c tk]) Q E s :=
  tabs_tells B F X T hk N (by omega) (by omega) hd hu fun x dx d a1 a2 a3 a4 a5 h' o' tk' F' N' S' l1 l2 l3 l4 l5 => ret x dx d a1 a2 a3 a4 a5 h' o' tk' F' N' S' (fun q hq => Nat.ne_of_lt (l1 q hq)) (fun q hq => Nat.ne_of_lt (l2 q hq)) (fun q hq => Nat.ne_of_lt (l3 q hq))
    ⟨⟨Nat.ne_of_gt (Nat.lt_trans l4 l5), Nat.ne_of_gt l5, trivial⟩, ⟨Nat.ne_of_lt l4, trivial⟩, trivial, trivial⟩
theorem copy2 {prog : Program} {w : World} {mean : ExcName → Option Value} {mg mb : Str → Option Value} {p : Program} {loose : List Str} {dp un : Nat} {gd : Option (List Code)} {cn : Str} {cs : Scope} {a : Addr} {ccd : Value} {cl : List (Str × Addr)} {outer : List Env} {A₀ : Around} {base h₀ : Heap} {L : Addr} {m : Str → Option Value} {s : Shared} {Q E : Value → Shared → Prop} {x dx d : Addr} {hcdx hsdx : Int} {t1dx t2dx tcdx : Tok} {o : Obj} {c : Int} {ks own : List Int} {news r1 r2 rest : List (Addr × Obj)}
    (B : Below A₀ base outer h₀) (F : Fr h₀ L s.heap m) (X : (hd.heap_39 w.params).In h₀) (T : Top p loose mean mg mb h₀) (hk : cs.kind = .function) (N : News h₀ L s.heap news) (px : Pick x (instObj 109 dx) news r1) (pdx : Pick dx (PySem.W.dictOf [⟨hcdx, Value.str (Str.ofString "columns") t1dx, Value.int c tcdx⟩, ⟨hsdx, Value.str (Str.ofString "stops") t2dx, Value.ref d⟩] 2) r1 r2) (pd : Pick d o r2 rest) (hr : OwnOff rest [d, dx, x]) (h1 : @Ne Nat d dx) (h2 : @Ne Nat d x) (h3 : @Ne Nat dx x) (S : Stops prog w d o ks) (R : Rel ks own c) (hc0 : 1 ≤ c) (hc1 : c ≤ 40) (hd : dp + 20 < recursionLimit) (hu : un + 100 < cLine)
    (ret : ∀ (y dy e : Addr) (hcdy hsdy : Int) (t1dy t2dy tcdy : Tok) h' o' tk' (ks' : List Int), Fr h₀ L h' m → News h₀ L h' ((e, o') :: (dy, PySem.W.dictOf [⟨hcdy, Value.str (Str.ofString "columns") t1dy, Value.int c tcdy⟩, ⟨hsdy, Value.str (Str.ofString "stops") t2dy, Value.ref e⟩] 2) :: (y, instObj 109 dy) :: news) → Stops prog w e o' ks' → Rel ks' own c → OffD dy news → OffD y news → OffD e news → AllDif [e, dy, y] → Q (.ref y) { s with heap := h', toks := tk' }) :
    wpAny (model prog w) (ktrTop dp un gd cn cs L a ccd cl outer) (call (.ref 106) [.ref x]) Q E s :=
  copy_tells B F X T hk N px pdx pd hr h1 h2 h3 S (by have := R.lenK (by omega); omega) (by omega) (by omega) hd hu fun y dy e a1 a2 a3 a4 a5 h' o' tk' ns F' N' p' q' S' l1 l4 l5 => by
    have e9 := told_is R p' q'
    subst e9
    exact ret y dy e a1 a2 a3 a4 a5 h' o' tk' _ F' N' S' (rel_put R.up R.lo) (fun q hq => Nat.ne_of_lt (l1 q hq)) (fun q hq => Nat.ne_of_lt (Nat.lt_trans (l1 q hq) l4)) (fun q hq => Nat.ne_of_lt (Nat.lt_trans (l1 q hq) (Nat.lt_trans l4 l5)))
      ⟨⟨Nat.ne_of_gt (Nat.lt_trans l4 l5), Nat.ne_of_gt l5, trivial⟩, ⟨Nat.ne_of_lt l4, trivial⟩, trivial, trivial⟩
theorem asked2 {prog : Program} {w : World} {mean : ExcName → Option Value} {mg mb : Str → Option Value} {p : Program} {loose : List Str} {dp un : Nat} {gd : Option (List Code)} {cn : Str} {cs : Scope} {a : Addr} {ccd : Value} {cl : List (Str × Addr)} {outer : List Env} {A₀ : Around} {base h₀ : Heap} {L : Addr} {m : Str → Option Value} {s : Shared} {Q E : Value → Shared → Prop} {dk ql x dx d l : Addr} {od oq o : Obj} {hcdx hsdx : Int} {t1dx t2dx tcdx : Tok} {c n : Int} {tc : Tok} {ks ns : List Int} {vs : List Value} {nn : Nat} {news r1 r2 r3 r4 r5 rest : List (Addr × Obj)}
    (B : Below A₀ base outer h₀) (F : Fr h₀ L s.heap m) (X : (hd.heap_39 w.params).In h₀) (T : Top p loose mean mg mb h₀) (hk : cs.kind = .function) (N : News h₀ L s.heap news) (p1 : Pick dk od news r1) (D : Deck prog w dk od ql n) (p2 : Pick ql oq r1 r2) (C : Cells oq)
    (p3 : Pick x (instObj 109 dx) r2 r3) (p4 : Pick dx (PySem.W.dictOf [⟨hcdx, Value.str (Str.ofString "columns") t1dx, Value.int c tcdx⟩, ⟨hsdx, Value.str (Str.ofString "stops") t2dx, Value.ref d⟩] 2) r3 r4) (p5 : Pick d o r4 r5) (S : Stops prog w d o ks)
    (p6 : Pick l (PySem.W.listOf (List.toArray vs) nn) r5 rest) (hi : IntsAre vs ns) (R : Rel ks ns c)
    (hr : OwnOff ((l, PySem.W.listOf (List.toArray vs) nn) :: (d, o) :: (dx, PySem.W.dictOf [⟨hcdx, Value.str (Str.ofString "columns") t1dx, Value.int c tcdx⟩, ⟨hsdx, Value.str (Str.ofString "stops") t2dx, Value.ref d⟩] 2) :: (x, instObj 109 dx) :: rest) [dk, ql]) (h1 : @Ne Nat dk ql) (hn : n ≤ 9000)
    (hc0 : 1 ≤ c) (hc1 : c ≤ 40)
    (hd : dp + 20 < recursionLimit) (hu : un + 250 < cLine)
    (ret : ∀ od' oq' h' tk', Fr h₀ L h' m → News h₀ L h' ((dk, od') :: (ql, oq') :: (l, PySem.W.listOf (List.toArray vs) nn) :: (d, o) :: (dx, PySem.W.dictOf [⟨hcdx, Value.str (Str.ofString "columns") t1dx, Value.int c tcdx⟩, ⟨hsdx, Value.str (Str.ofString "stops") t2dx, Value.ref d⟩] 2) :: (x, instObj 109 dx) :: rest) → Deck prog w dk od' ql (n + 5) → Cells oq' → Q (.bool true) { s with heap := h', toks := tk' }) :
    wpAny (model prog w) (ktrTop dp un gd cn cs L a ccd cl outer) (call (.ref 154) [.ref dk, .ref x, .ref l, .int c tc]) Q E s :=
  asked_tells B F X T hk N p1 D p2 C p3 p4 p5 S p6 hi hr h1 hn R.perm R.up (by have := R.len (by omega); omega) hc0 (by omega) hd hu ret
theorem pick40 {prog : Program} {w : World} {mean : ExcName → Option Value} {mg mb : Str → Option Value} {p : Program} {loose : List Str} {dp un : Nat} {gd : Option (List Code)} {cn : Str} {cs : Scope} {a : Addr} {ccd : Value} {cl : List (Str × Addr)} {outer : List Env} {A₀ : Around} {base h₀ : Heap} {L : Addr} {m : Str → Option Value} {s : Shared} {Q E : Value → Shared → Prop} {dk ql l : Addr} {od oq : Obj} {n : Int} {vs : List Value} {ns : List Int} {nn : Nat} {news r1 r2 rest : List (Addr × Obj)}
    (B : Below A₀ base outer h₀) (F : Fr h₀ L s.heap m) (X : (hd.heap_39 w.params).In h₀) (T : Top p loose mean mg mb h₀) (hk : cs.kind = .function) (N : News h₀ L s.heap news) (p1 : Pick dk od news r1) (D : Deck prog w dk od ql n) (p2 : Pick ql oq r1 r2) (C : Cells oq) (p3 : Pick l (PySem.W.listOf (List.toArray vs) nn) r2 rest) (hr : OwnOff rest [dk, ql]) (h1 : @Ne Nat dk ql) (h2 : @Ne Nat l dk) (h3 : @Ne Nat l ql)
    (hi : IntsAre vs ns) (hn : n ≤ 9999) (hz0 : 0 < ns.length) (hz : ns.length ≤ 100) (hb : ∀ r ∈ ns, 0 ≤ r ∧ r < 40)
    (hd : dp + 10 < recursionLimit) (hu : un + 170 < cLine)
    (ret : ∀ r t od' oq' h' tk', Fr h₀ L h' m → News h₀ L h' ((dk, od') :: (ql, oq') :: (l, PySem.W.listOf (List.toArray vs) nn) :: rest) → Deck prog w dk od' ql (n + 1) → Cells oq' → 0 ≤ r → r < 40 → Q (.int r t) { s with heap := h', toks := tk' }) :
    wpAny (model prog w) (ktrTop dp un gd cn cs L a ccd cl outer) (call (.ref 132) [.ref dk, .ref l]) Q E s :=
  pick_tells B F X T hk N p1 D p2 C p3 hr h1 h2 h3 hi hn hz0 hz hd hu fun r t od' oq' h' tk' F' N' D' C' m1 => ret r t od' oq' h' tk' F' N' D' C' (hb r m1).1 (hb r m1).2
theorem Deck.mono {prog : Program} {w : World} {dk ql : Addr} {od : Obj} {n k : Int} (D : Deck prog w dk od ql n) (h : n ≤ k) : Deck prog w dk od ql k := by
  obtain ⟨lo, mx, t1, tn, t2, hD, a1, a2, a3, a4⟩ := D
  exact ⟨lo, mx, t1, tn, t2, hD, a1, a2, a3, by omega⟩
-- part E2
theorem news_tail {h₀ h : Heap} {L : Addr} {p : Addr × Obj} {r : List (Addr × Obj)} (N : News h₀ L h (p :: r)) : News h₀ L h r := fun q hq => N q (.tail _ hq)
theorem news_drop3 {h₀ h : Heap} {L : Addr} {a b p : Addr × Obj} {r : List (Addr × Obj)} (N : News h₀ L h (a :: b :: p :: r)) : News h₀ L h (a :: b :: r) := kst_newsOf N fun q hq => by
  rcases List.mem_cons.mp hq with rfl | hq
  · exact .head _
  · rcases List.mem_cons.mp hq with rfl | hq
    · exact .tail _ (.head _)
    · exact .tail _ (.tail _ (.tail _ hq))
theorem AllNe.of {a : Nat} : ∀ {l : List Nat}, (∀ b ∈ l, a ≠ b) → AllNe a l
  | [], _ => trivial
  | _ :: _, h => ⟨h _ (.head _), AllNe.of fun b hb => h b (.tail _ hb)⟩

theorem stops20 : (ups 20).foldl (putF 0) [] = [8, 16] := by decide
theorem next20 {r : Int} (h : NextIs ((ups 20).foldl (putF 0) []) 8 19 r) : r = 16 := by
  rw [stops20] at h
  unfold NextIs at h
  rw [if_pos (by decide)] at h
  obtain ⟨a, b, c, d⟩ := h
  simp only [List.mem_cons, List.not_mem_nil, or_false] at c
  rcases c with c | c | c
  · exact absurd (by simp) (d 16 (by omega) (by omega))
  · omega
  · exact c
theorem back20 {r : Int} (h : BackIs ((ups 20).foldl (putF 0) []) 8 0 r) : r = 0 := by
  rw [stops20] at h
  unfold BackIs at h
  rw [if_pos (by decide)] at h
  obtain ⟨a, b, c, d⟩ := h
  simp only [List.mem_cons, List.not_mem_nil, or_false] at c
  omega
theorem next20c {prog : Program} {w : World} {mean : ExcName → Option Value} {mg mb : Str → Option Value} {p : Program} {loose : List Str} {dp un : Nat} {gd : Option (List Code)} {cn : Str} {cs : Scope} {a : Addr} {ccd : Value} {cl : List (Str × Addr)} {outer : List Env} {A₀ : Around} {base h₀ : Heap} {L : Addr} {m : Str → Option Value} {s : Shared} {Q E : Value → Shared → Prop} {x dx d : Addr} {hcdx hsdx : Int} {t1dx t2dx tcdx : Tok} {o : Obj} {c : Int} {tk tb : Tok} {news r1 r2 rest : List (Addr × Obj)}
    (B : Below A₀ base outer h₀) (F : Fr h₀ L s.heap m) (X : (hd.heap_39 w.params).In h₀) (T : Top p loose mean mg mb h₀) (hk : cs.kind = .function) (N : News h₀ L s.heap news) (px : Pick x (instObj 109 dx) news r1) (pdx : Pick dx (PySem.W.dictOf [⟨hcdx, Value.str (Str.ofString "columns") t1dx, Value.int c tcdx⟩, ⟨hsdx, Value.str (Str.ofString "stops") t2dx, Value.ref d⟩] 2) r1 r2) (pd : Pick d o r2 rest) (S : Stops prog w d o ((ups 20).foldl (putF 0) [])) (hd : dp + 5 < recursionLimit) (hu : un + 50 < cLine)
    (ret : ∀ t h' tk', Fr h₀ L h' m → News h₀ L h' news → Q (.int 16 t) { s with heap := h', toks := tk' }) :
    wpAny (model prog w) (ktrTop dp un gd cn cs L a ccd cl outer) (call (.ref 84) [.ref x, .int 8 tk, .int 19 tb]) Q E s :=
  next_from_tells B F X T hk N px pdx pd S hd hu fun r t h' tk' e F' N' => by
    rw [next20 e]
    exact ret t h' tk' F' N'
theorem back20c {prog : Program} {w : World} {mean : ExcName → Option Value} {mg mb : Str → Option Value} {p : Program} {loose : List Str} {dp un : Nat} {gd : Option (List Code)} {cn : Str} {cs : Scope} {a : Addr} {ccd : Value} {cl : List (Str × Addr)} {outer : List Env} {A₀ : Around} {base h₀ : Heap} {L : Addr} {m : Str → Option Value} {s : Shared} {Q E : Value → Shared → Prop} {x dx d : Addr} {hcdx hsdx : Int} {t1dx t2dx tcdx : Tok} {o : Obj} {c : Int} {tk : Tok} {news r1 r2 rest : List (Addr × Obj)}
    (B : Below A₀ base outer h₀) (F : Fr h₀ L s.heap m) (X : (hd.heap_39 w.params).In h₀) (T : Top p loose mean mg mb h₀) (hk : cs.kind = .function) (N : News h₀ L s.heap news) (px : Pick x (instObj 109 dx) news r1) (pdx : Pick dx (PySem.W.dictOf [⟨hcdx, Value.str (Str.ofString "columns") t1dx, Value.int c tcdx⟩, ⟨hsdx, Value.str (Str.ofString "stops") t2dx, Value.ref d⟩] 2) r1 r2) (pd : Pick d o r2 rest) (S : Stops prog w d o ((ups 20).foldl (putF 0) [])) (hd : dp + 5 < recursionLimit) (hu : un + 50 < cLine)
    (ret : ∀ t h' tk', Fr h₀ L h' m → News h₀ L h' news → Q (.int 0 t) { s with heap := h', toks := tk' }) :
    wpAny (model prog w) (ktrTop dp un gd cn cs L a ccd cl outer) (call (.ref 92) [.ref x, .int 8 tk]) Q E s :=
  back_from_tells1 B F X T hk N px pdx pd S hd hu fun r t h' tk' e F' N' => by
    rw [back20 e]
    exact ret t h' tk' F' N'
/-- marks of the walk -/
def HoldIf : Prop := True
def HoldCall : Prop := True
def HoldDraw : Prop := True

/-- what changes from turn to turn -/
structure LS where
  d : Addr
  l : Addr
  o : Obj
  od : Obj
  oq : Obj
  o3 : Obj
  o2 : Obj
  o1 : Obj
  vs : List Value
  nn : Nat
  own : List Int
  ks : List Int
  c : Int
  tc : Tok
  tv : Tok
  way : Option Value

def lLed (x dx dk ql a1 a2 a3 : Addr) (hc hs : Int) (t1 t2 : Tok) (tail : List (Addr × Obj)) (c : LS) : List (Addr × Obj) :=
  (c.d, c.o) :: (dx, PySem.W.dictOf [⟨hc, Value.str (Str.ofString "columns") t1, Value.int c.c c.tc⟩, ⟨hs, Value.str (Str.ofString "stops") t2, Value.ref c.d⟩] 2) :: (x, instObj 109 dx) :: (c.l, PySem.W.listOf (List.toArray c.vs) c.nn) :: (dk, c.od) :: (ql, c.oq) :: (a3, c.o3) :: (a2, c.o2) :: (a1, c.o1) :: tail
def lMf (m₀ : Str → Option Value) (c : LS) (z : Str) : Option Value := if z = Str.ofString "own" then some (.ref c.l) else if z = Str.ofString "way" then c.way else m₀ z
def lInv (prog : Program) (w : World) (x dx dk ql a1 a2 a3 : Addr) (adr : List Nat) (i : Nat) (c : LS) : Prop :=
  Stops prog w c.d c.o c.ks ∧ Rel c.ks c.own c.c ∧ IntsAre c.vs c.own ∧ Deck prog w dk c.od ql (3 + 8 * (i : Int)) ∧ Cells c.oq ∧ 1 ≤ c.c ∧ c.c ≤ 40 ∧ c.o1.data = .cell (some (.int c.c c.tv)) ∧ (∃ v, c.o2.data = .cell v) ∧ (∃ v, c.o3.data = .cell v) ∧ AllDif (c.d :: dx :: x :: c.l :: dk :: ql :: a3 :: a2 :: a1 :: adr)

theorem mf_start {m₀ : Str → Option Value} {l : Addr} (h1 : m₀ (Str.ofString "own") = some (.ref l)) (h2 : m₀ (Str.ofString "way") = none) (z : Str) :
    m₀ z = (if z = Str.ofString "own" then some (Value.ref l) else if z = Str.ofString "way" then none else m₀ z) := by
  by_cases e1 : z = Str.ofString "own"
  · rw [if_pos e1, e1, h1]
  · rw [if_neg e1]
    by_cases e2 : z = Str.ofString "way"
    · rw [if_pos e2, e2, h2]
    · rw [if_neg e2]
theorem mf_end {m' m₀ : Str → Option Value} {c : LS} (hO : m' (Str.ofString "own") = some (.ref c.l)) (hW : m' (Str.ofString "way") = c.way)
    (hm : ∀ z, z ≠ Str.ofString "turn" → z ≠ Str.ofString "own" → z ≠ Str.ofString "way" → m' z = m₀ z) (z : Str) (hz : z ≠ Str.ofString "turn") : m' z = lMf m₀ c z := by
  unfold lMf
  by_cases e1 : z = Str.ofString "own"
  · rw [if_pos e1, e1, hO]
  · rw [if_neg e1]
    by_cases e2 : z = Str.ofString "way"
    · rw [if_pos e2, e2, hW]
    · rw [if_neg e2, hm z hz e1 e2]

section
variable {prog : Program} {w : World} {A : Around} {E : Value → Shared → Prop} {s : Shared} {env : Env} {h₀ : Heap} {body : List Stmt} {Q : Flow → Shared → Prop}

theorem mAt {α : Type} {l : List α} {a : α} (k : Nat) (h : l[k]? = some a) : a ∈ l := List.mem_of_getElem? h
theorem loopLaw {L r x dx dk ql y dy e wl : Addr} {hc hs hcy hsy : Int} {t1 t2 t1y t2y tcy : Tok} {oe : Obj} {cy : Int} {vw : List Value} {nw : Nat} {b₀ n₀ : Int} {t₀ u₀ v₀ : Tok} {m₀ : Str → Option Value}
    {d₀ l₀ : Addr} {o₀ od₀ oq₀ o3₀ o2₀ o1₀ : Obj} {vs₀ : List Value} {nn₀ : Nat} {own₀ ks₀ : List Int} {c₀ : Int} {tc₀ tv₀ : Tok} {v2₀ v3₀ : Option Value}
    (hL : env.locals = L) (hh : A.handled = none) (hr : IsRange s.heap r 0 b₀ 1 t₀ u₀ v₀) (hb0 : 0 ≤ b₀) (hb : b₀ ≤ 9)
    (F : Fr h₀ L s.heap m₀) (hO : m₀ (Str.ofString "own") = some (.ref l₀)) (hW : m₀ (Str.ofString "way") = none) (hIt : m₀ (Str.ofString "it") = some (.ref x)) (hKe : m₀ (Str.ofString "kept") = some (.ref y)) (hWa : m₀ (Str.ofString "was") = some (.ref wl))
    (S : Stops prog w d₀ o₀ ks₀) (D : Deck prog w dk od₀ ql n₀) (hn₀ : n₀ ≤ 3)
    (N : News h₀ L s.heap ((x, instObj 109 dx) :: (dx, PySem.W.dictOf [⟨hc, Value.str (Str.ofString "columns") t1, Value.int c₀ tc₀⟩, ⟨hs, Value.str (Str.ofString "stops") t2, Value.ref d₀⟩] 2) :: (d₀, o₀) :: (l₀, PySem.W.listOf (List.toArray vs₀) nn₀) :: (dk, od₀) :: (ql, oq₀) :: (L + 1 + 1 + 1, o3₀) :: (L + 1 + 1, o2₀) :: (L + 1, o1₀) ::
      (y, instObj 109 dy) :: (dy, PySem.W.dictOf [⟨hcy, Value.str (Str.ofString "columns") t1y, Value.int cy tcy⟩, ⟨hsy, Value.str (Str.ofString "stops") t2y, Value.ref e⟩] 2) :: (e, oe) :: [(wl, PySem.W.listOf (List.toArray vw) nw)]))
    (R : Rel ks₀ own₀ c₀) (hi : IntsAre vs₀ own₀) (C : Cells oq₀) (k1 : 1 ≤ c₀) (k2 : c₀ ≤ 40) (e1 : o1₀.data = .cell (some (.int c₀ tv₀))) (e2 : o2₀.data = .cell v2₀) (e3 : o3₀.data = .cell v3₀)
    (dif : AllDif [d₀, dx, x, l₀, dk, ql, L + 1 + 1 + 1, L + 1 + 1, L + 1, y, dy, e, wl])
    (turn : ∀ (i : Nat) t (d l : Addr) (o od oq o3 o2 o1 : Obj) (vs : List Value) (nn : Nat) (own ks : List Int) (c n : Int) (tc tv : Tok) (way v2 v3 : Option Value) (I : Addr) h tk io, n = 3 + 8 * (i : Int) → n ≤ 80 →
      Stops prog w d o ks → Rel ks own c → IntsAre vs own → Deck prog w dk od ql n → Cells oq → 1 ≤ c → c ≤ 40 → o1.data = .cell (some (.int c tv)) → o2.data = .cell v2 → o3.data = .cell v3 →
      AllDif [I, d, dx, x, l, dk, ql, L + 1 + 1 + 1, L + 1 + 1, L + 1, y, dy, e, wl] →
      Fr h₀ L h (fun y => if y = Str.ofString "turn" then some (.int (i : Int) t) else if y = Str.ofString "own" then some (.ref l) else if y = Str.ofString "way" then way else m₀ y) →
      News h₀ L h ((I, io) :: (d, o) :: (dx, PySem.W.dictOf [⟨hc, Value.str (Str.ofString "columns") t1, Value.int c tc⟩, ⟨hs, Value.str (Str.ofString "stops") t2, Value.ref d⟩] 2) :: (x, instObj 109 dx) :: (l, PySem.W.listOf (List.toArray vs) nn) :: (dk, od) :: (ql, oq) :: (L + 1 + 1 + 1, o3) :: (L + 1 + 1, o2) :: (L + 1, o1) ::
        (y, instObj 109 dy) :: (dy, PySem.W.dictOf [⟨hcy, Value.str (Str.ofString "columns") t1y, Value.int cy tcy⟩, ⟨hsy, Value.str (Str.ofString "stops") t2y, Value.ref e⟩] 2) :: (e, oe) :: [(wl, PySem.W.listOf (List.toArray vw) nw)]) →
      wpAny (model prog w) A (execs body env) (TurnPost h₀ L (Str.ofString "turn") (lLed x dx dk ql (L + 1) (L + 1 + 1) (L + 1 + 1 + 1) hc hs t1 t2 [(y, instObj 109 dy), (dy, PySem.W.dictOf [⟨hcy, Value.str (Str.ofString "columns") t1y, Value.int cy tcy⟩, ⟨hsy, Value.str (Str.ofString "stops") t2y, Value.ref e⟩] 2), (e, oe), (wl, PySem.W.listOf (List.toArray vw) nw)]) (lMf m₀) (lInv prog w x dx dk ql (L + 1) (L + 1 + 1) (L + 1 + 1 + 1) [y, dy, e, wl] (i + 1)) I io { s with heap := h, toks := tk } Q) E { s with heap := h, toks := tk })
    (done : ∀ (d l : Addr) (o od oq o3 o2 o1 : Obj) (vs : List Value) (nn : Nat) (c : Int) (tc : Tok) (way u : Option Value) h tk,
      AllDif [d, dx, x, l, dk, ql, L + 1 + 1 + 1, L + 1 + 1, L + 1, y, dy, e, wl] →
      Fr h₀ L h (fun y => if y = Str.ofString "turn" then u else if y = Str.ofString "own" then some (.ref l) else if y = Str.ofString "way" then way else m₀ y) →
      News h₀ L h ((d, o) :: (dx, PySem.W.dictOf [⟨hc, Value.str (Str.ofString "columns") t1, Value.int c tc⟩, ⟨hs, Value.str (Str.ofString "stops") t2, Value.ref d⟩] 2) :: (x, instObj 109 dx) :: (l, PySem.W.listOf (List.toArray vs) nn) :: (dk, od) :: (ql, oq) :: (L + 1 + 1 + 1, o3) :: (L + 1 + 1, o2) :: (L + 1, o1) ::
        (y, instObj 109 dy) :: (dy, PySem.W.dictOf [⟨hcy, Value.str (Str.ofString "columns") t1y, Value.int cy tcy⟩, ⟨hsy, Value.str (Str.ofString "stops") t2y, Value.ref e⟩] 2) :: (e, oe) :: [(wl, PySem.W.listOf (List.toArray vw) nw)]) →
      Q .next { s with heap := h, toks := tk }) :
    wpAny (model prog w) A (pyIter (.ref r)) (fun it s₂ => LoopAtV prog w A h₀ env (Str.ofString "turn") body Q E it s₂) E s := by
  subst hL
  refine loopRange (n := b₀.toNat) (lLed x dx dk ql (env.locals + 1) (env.locals + 1 + 1) (env.locals + 1 + 1 + 1) hc hs t1 t2 [(y, instObj 109 dy), (dy, PySem.W.dictOf [⟨hcy, Value.str (Str.ofString "columns") t1y, Value.int cy tcy⟩, ⟨hsy, Value.str (Str.ofString "stops") t2y, Value.ref e⟩] 2), (e, oe), (wl, PySem.W.listOf (List.toArray vw) nw)]) (lMf m₀) (lInv prog w x dx dk ql (env.locals + 1) (env.locals + 1 + 1) (env.locals + 1 + 1 + 1) [y, dy, e, wl]) ⟨d₀, l₀, o₀, od₀, oq₀, o3₀, o2₀, o1₀, vs₀, nn₀, own₀, ks₀, c₀, tc₀, tv₀, none⟩ hh hr ?_ ?_ (fr_ext (mf_start hO hW) F) (kst_newsOf N fun p hp => ?_) ⟨S, R, hi, D.mono hn₀, C, k1, k2, e1, ⟨_, e2⟩, ⟨_, e3⟩, dif⟩ ?_ ?_
  · unfold Builtin.Range.small Builtin.Range.rangeSize
    simp only [Builtin.Range.rangeFitsLong, Bool.and_eq_true, Bool.or_eq_true, decide_eq_true_eq, beq_iff_eq, show (1 : Int) > 0 by decide, if_true]
    split <;> omega
  · unfold Builtin.Range.rangeSize
    simp only [show (1 : Int) > 0 by decide, if_true]
    split <;> omega
  · simp only [lLed, List.mem_cons] at hp ⊢
    rcases hp with h | h | h | h
    · exact .inr (.inr (.inl h))
    · exact .inr (.inl h)
    · exact .inl h
    · exact .inr (.inr (.inr h))
  · rintro i t ⟨d, l, o, od, oq, o3, o2, o1, vs, nn, own, ks, c, tc, tv, way⟩ I h tk io hi ⟨S, R, hi', D, C, k1, k2, e1, ⟨v2, e2⟩, ⟨v3, e3⟩, dif⟩ hne F N
    refine turn i t d l o od oq o3 o2 o1 vs nn own ks c _ tc tv way v2 v3 I h tk io rfl (by omega) S R hi' D C k1 k2 e1 e2 e3 ⟨?_, dif⟩ ?_ N
    · refine AllNe.of fun b hb e => ?_
      subst e
      simp only [List.mem_cons, List.not_mem_nil, or_false] at hb
      rcases hb with rfl | rfl | rfl | rfl | rfl | rfl | rfl | rfl | rfl | rfl | rfl | rfl | rfl
      all_goals first | exact hne (I, _) (mAt 0 rfl) rfl | exact hne (I, _) (mAt 1 rfl) rfl | exact hne (I, _) (mAt 2 rfl) rfl | exact hne (I, _) (mAt 3 rfl) rfl | exact hne (I, _) (mAt 4 rfl) rfl | exact hne (I, _) (mAt 5 rfl) rfl | exact hne (I, _) (mAt 6 rfl) rfl | exact hne (I, _) (mAt 7 rfl) rfl | exact hne (I, _) (mAt 8 rfl) rfl | exact hne (I, _) (mAt 9 rfl) rfl | exact hne (I, _) (mAt 10 rfl) rfl | exact hne (I, _) (mAt 11 rfl) rfl | exact hne (I, _) (mAt 12 rfl) rfl | exact hne (_, _) (mAt 6 rfl) rfl | exact hne (_, _) (mAt 7 rfl) rfl | exact hne (_, _) (mAt 8 rfl) rfl
    · rw [show (0 : Int) + (i : Int) * 1 = (i : Int) by omega] at F; exact F
  · rintro ⟨d, l, o, od, oq, o3, o2, o1, vs, nn, own, ks, c, tc, tv, way⟩ u h tk ⟨S, R, hi', D, C, k1, k2, e1, ⟨v2, e2⟩, ⟨v3, e3⟩, dif⟩ F N
    exact done d l o od oq o3 o2 o1 vs nn c tc way u h tk dif F N

theorem turnEndL {x dx dk ql a1 a2 a3 : Addr} {hc hs : Int} {t1 t2 : Tok} {tail : List (Addr × Obj)} {adr : List Nat} {m₀ : Str → Option Value} {I : Addr} {io : Obj} {s₁ : Shared} {L : Addr} {i : Nat}
    (d l : Addr) (o od oq o3 o2 o1 : Obj) (vs : List Value) (nn : Nat) (own ks : List Int) (c : Int) (tc tv : Tok) (way : Option Value) {v2 v3 : Option Value} {h' : Heap} {tk : Nat} {m' : Str → Option Value} {news' : List (Addr × Obj)} {k : Int}
    (F : Fr h₀ L h' m') (N : News h₀ L h' news') (hI : (I, io) ∈ news')
    (hn : ∀ p ∈ (dx, PySem.W.dictOf [⟨hc, Value.str (Str.ofString "columns") t1, Value.int c tc⟩, ⟨hs, Value.str (Str.ofString "stops") t2, Value.ref d⟩] 2) :: (d, o) :: (x, instObj 109 dx) :: (l, PySem.W.listOf (List.toArray vs) nn) :: (dk, od) :: (ql, oq) :: (a3, o3) :: (a2, o2) :: (a1, o1) :: tail, p ∈ news')
    (hO : m' (Str.ofString "own") = some (.ref l)) (hW : m' (Str.ofString "way") = way) (hm : ∀ z, z ≠ Str.ofString "turn" → z ≠ Str.ofString "own" → z ≠ Str.ofString "way" → m' z = m₀ z)
    (S : Stops prog w d o ks) (hi : IntsAre vs own) (R : Rel ks own c) (D : Deck prog w dk od ql k) (hk : k ≤ 3 + 8 * (i : Int) + 8) (C : Cells oq) (k1 : 1 ≤ c) (k2 : c ≤ 40) (e1 : o1.data = .cell (some (.int c tv))) (e2 : o2.data = .cell v2) (e3 : o3.data = .cell v3)
    (dif : AllDif (I :: d :: dx :: x :: l :: dk :: ql :: a3 :: a2 :: a1 :: adr)) (hadr : adr = tail.map Prod.fst) :
    TurnPost h₀ L (Str.ofString "turn") (lLed x dx dk ql a1 a2 a3 hc hs t1 t2 tail) (lMf m₀) (lInv prog w x dx dk ql a1 a2 a3 adr (i + 1)) I io s₁ Q .next { s₁ with heap := h', toks := tk } :=
  turnEnd_of (σ := LS) ⟨d, l, o, od, oq, o3, o2, o1, vs, nn, own, ks, c, tc, tv, way⟩ F N hI (fun p hp => hn p (by
    simp only [lLed, List.mem_cons] at hp ⊢
    rcases hp with h | h | h
    · exact .inr (.inl h)
    · exact .inl h
    · exact .inr (.inr h))) (by
    intro p hp e
    have hm : p.1 ∈ (d :: dx :: x :: l :: dk :: ql :: a3 :: a2 :: a1 :: adr) := by
      simp only [lLed, List.mem_cons] at hp
      rcases hp with rfl | rfl | rfl | rfl | rfl | rfl | rfl | rfl | rfl | hp
      · exact .head _
      · exact .tail _ (.head _)
      · exact .tail _ (.tail _ (.head _))
      · exact .tail _ (.tail _ (.tail _ (.head _)))
      · exact .tail _ (.tail _ (.tail _ (.tail _ (.head _))))
      · exact .tail _ (.tail _ (.tail _ (.tail _ (.tail _ (.head _)))))
      · exact .tail _ (.tail _ (.tail _ (.tail _ (.tail _ (.tail _ (.head _))))))
      · exact .tail _ (.tail _ (.tail _ (.tail _ (.tail _ (.tail _ (.tail _ (.head _)))))))
      · exact .tail _ (.tail _ (.tail _ (.tail _ (.tail _ (.tail _ (.tail _ (.tail _ (.head _))))))))
      · exact .tail _ (.tail _ (.tail _ (.tail _ (.tail _ (.tail _ (.tail _ (.tail _ (.tail _ (hadr ▸ List.mem_map_of_mem hp)))))))))
    exact AllNe.mem dif.1 _ hm e.symm)
    (mf_end hO hW hm) ⟨S, R, hi, D.mono (by omega), C, k1, k2, e1, ⟨_, e2⟩, ⟨_, e3⟩, dif.2⟩
end
-- part E3
/-- what is left to show, kept apart from the walk's own facts -/
structure Box (P : Prop) : Prop where
  out : P
structure CutA (Q : Prop) where
  PA : Prop
  go : Box PA → Q
structure CutB (Q : Prop) where
  PA : Prop
  PB : Prop
  go : Box PA → Box PB → Q
structure CutF (Q : Prop) where
  PA : Prop
  PB : Prop
  PC : Prop
  PD : Prop
  PE : Prop
  PF : Prop
  go : Box PA → Box PB → Box PC → Box PD → Box PE → Box PF → Q
/-- the law's last draw ahead of its loop: one fact for all addresses -/
theorem draw8 {prog : Program} {w : World} {mean : ExcName → Option Value} {mg mb : Str → Option Value} {p : Program} {loose : List Str} {dp un : Nat} {gd : Option (List Code)} {cn : Str} {cs : Scope} {a : Addr} {ccd : Value} {cl : List (Str × Addr)} {outer : List Env} {A₀ : Around} {base h₀ : Heap} {L : Addr} {m : Str → Option Value} {s : Shared} {Q E : Value → Shared → Prop} {x dx dk ql d l y dy e wl : Addr} {hc hs hcy hsy : Int} {t1 t2 tc₀ t1y t2y tcy tv tb : Tok} {o od oq o3 o2 o1 oe : Obj} {vs vw : List Value} {nn nw : Nat} {c₀ cy n b : Int} {ks : List Int} {v2 v3 : Option Value} {news : List (Addr × Obj)}
    (B : Below A₀ base outer h₀) (F : Fr h₀ L s.heap m) (X : (hd.heap_39 w.params).In h₀) (T : Top p loose mean mg mb h₀) (hk : cs.kind = .function) (N₀ : News h₀ L s.heap news) (D : Deck prog w dk od ql n) (S : Stops prog w d o ks) (C : Cells oq) (hn : n ≤ 9999) (hb0 : 0 < b) (hb1 : b ≤ 1000) (e1 : o1.data = .cell (some (.int c₀ tv))) (e2 : o2.data = .cell v2) (e3 : o3.data = .cell v3)
    (hIt : m (Str.ofString "it") = some (.ref x)) (hKe : m (Str.ofString "kept") = some (.ref y)) (hO : m (Str.ofString "own") = some (.ref l)) (hWa : m (Str.ofString "was") = some (.ref wl))
    (N : ∀ p ∈ [(x, instObj 109 dx), (dx, PySem.W.dictOf [⟨hc, Value.str (Str.ofString "columns") t1, Value.int c₀ tc₀⟩, ⟨hs, Value.str (Str.ofString "stops") t2, Value.ref d⟩] 2), (d, o), (l, PySem.W.listOf (List.toArray vs) nn), (dk, od), (ql, oq), (L + 1 + 1 + 1, o3), (L + 1 + 1, o2), (L + 1, o1),
      (y, instObj 109 dy), (dy, PySem.W.dictOf [⟨hcy, Value.str (Str.ofString "columns") t1y, Value.int cy tcy⟩, ⟨hsy, Value.str (Str.ofString "stops") t2y, Value.ref e⟩] 2), (e, oe), (wl, PySem.W.listOf (List.toArray vw) nw)], p ∈ news)
    (dif : AllDif [d, dx, x, l, dk, ql, L + 1 + 1 + 1, L + 1 + 1, L + 1, y, dy, e, wl])
    (hd : dp + 5 < recursionLimit) (hu : un + 150 < cLine)
    (ret : ∀ r t od' oq' h' tk', Fr h₀ L h' m → News h₀ L h' [(x, instObj 109 dx), (dx, PySem.W.dictOf [⟨hc, Value.str (Str.ofString "columns") t1, Value.int c₀ tc₀⟩, ⟨hs, Value.str (Str.ofString "stops") t2, Value.ref d⟩] 2), (d, o), (l, PySem.W.listOf (List.toArray vs) nn), (dk, od'), (ql, oq'), (L + 1 + 1 + 1, o3), (L + 1 + 1, o2), (L + 1, o1),
      (y, instObj 109 dy), (dy, PySem.W.dictOf [⟨hcy, Value.str (Str.ofString "columns") t1y, Value.int cy tcy⟩, ⟨hsy, Value.str (Str.ofString "stops") t2y, Value.ref e⟩] 2), (e, oe), (wl, PySem.W.listOf (List.toArray vw) nw)] → AllDif [d, dx, x, l, dk, ql, L + 1 + 1 + 1, L + 1 + 1, L + 1, y, dy, e, wl] → Deck prog w dk od' ql (n + 1) → Cells oq' → Stops prog w d o ks → 0 ≤ r → r < b → Q (.int r t) { s with heap := h', toks := tk' }) :
    wpAny (model prog w) (ktrTop dp un gd cn cs L a ccd cl outer) (call (.ref 125) [.ref dk, .int b tb]) Q E s := by
  refine drawn_tells B F X T hk (kst_newsOf N₀ N) (by tb_rel) D (by tb_rel) C ?_ (by k_ne) hn hb0 hb1 hd hu ?_
  · ktr_rel
  intro r t od' oq' h' tk' F' N' D' C' g1 g2
  exact ret r t od' oq' h' tk' F' (kst_newsOf N' (by tb_start)) dif D' C' S g1 g2
local macro_rules | `(tactic| kwd_rel) => `(tactic| first | (with_reducible first | assumption | exact rel_first _ | exact rel_nil _ | exact rel_clear (by assumption) | exact rel_put (up_139 _) (lo_139 _) | exact rel_set_new (by assumption) (by assumption) (by assumption) (by assumption) (by assumption) (by assumption) | exact rel_set_old (by assumption) (.inl (by assumption)) | exact rel_set_old (by assumption) (.inr (by assumption)) | exact rel_set_old (by assumption) (by first | exact .inl (by assumption) | exact .inr (by assumption))) | assumption | exact rel_first _ | exact rel_nil _ | exact rel_clear (by assumption) | exact rel_put (up_139 _) (lo_139 _) | exact rel_set_new (by assumption) (by assumption) (by assumption) (by assumption) (by assumption) (by assumption) | exact rel_set_old (by assumption) (.inl (by assumption)) | exact rel_set_old (by assumption) (.inr (by assumption)) | exact rel_set_old (by assumption) (by first | exact .inl (by assumption) | exact .inr (by assumption)))
local macro_rules | `(tactic| walk_at "call ref") => `(tactic| (k_here; k_dflt (refine' first_tells ?u0 ?u1 ?u2 ?u3 ?u4 ?u5 ?u6 ?u7 ?u8 ?u9 ?_; (case u0 | u1 | u2 | u3 => k_asm); (case u4 => first | exact rfl | assumption); (case u5 => k_asm); (case u6 | u7 => first | assumption | omega); (case u8 => ktr_room); (case u9 => kwd_less); k_whole); intros; kwd_inv))
local macro_rules | `(tactic| walk_at "pyIter ref") => `(tactic| ((with_reducible show wpAny _ _ (pyIter (Value.ref _)) (fun it s₂ => LoopAtV _ _ _ _ _ _ _ _ _ it s₂) _ _); refine held_of ?_))
local macro_rules | `(tactic| walk_at "call ref") => `(tactic| (k_here; k_dflt (refine' asked2 ?u0 ?u1 ?u2 ?u3 ?u4 ?u5 ?u6 ?u7 ?u8 ?u9 ?u10 ?u11 ?u12 ?u13 ?u14 ?u15 ?u16 ?u17 ?u18 ?u19 ?u20 ?u21 ?u22 ?u23 ?_; (case u0 | u1 | u2 | u3 => k_asm); (case u4 => first | exact rfl | assumption); (case u5 => k_asm); (case u6 => tb_rel); (case u7 => k_asm); (case u8 => tb_rel); (case u9 => k_asm); (case u10 | u11 | u12 => tb_rel); (case u13 => k_asm); (case u14 => tb_rel); (case u15 => first | assumption | l_ints); (case u16 => kwd_rel); (case u17 => ktr_rel); (case u18 => k_ne); (case u19 => kxs_still); (case u20 | u21 => first | assumption | omega); (case u22 => ktr_room); (case u23 => kwd_less); k_whole); intros; kwd_inv))
local macro_rules | `(tactic| walk_at "exec If") => `(tactic| ((with_reducible rename HoldIf => hm9); refine held_of ?_))
local macro_rules | `(tactic| walk_at "call ref") => `(tactic| ((with_reducible rename HoldCall => hm9); refine held_of ?_))
local macro_rules | `(tactic| walk_at "CompAt") => `(tactic| ((with_reducible rename HoldCall => hm9); refine held_of ?_))
local macro_rules | `(tactic| walk_at "call ref") => `(tactic| ((with_reducible rename HoldDraw => hm9); refine held_of ?_))
-- part K1
set_option maxHeartbeats 400000000 in
def cut1 : CutA PySem.Challenge.rw_np0268_01.Holds := by
  apply CutA.mk
  case go =>
    intro h; refine hd ?_
    k_go0
    all_goals try k_fold
    have hm2 : HoldDraw := trivial
    k_steps
    unfold Held
    (k_dflt (refine' deck_tells ?u0 ?u1 ?u2 ?u3 ?u4 ?u5 ?u6 ?u7 ?u8 ?u9 ?u10 ?_; (case u0 | u1 | u2 | u3 => k_asm); (case u4 => first | exact rfl | assumption); (case u5 => k_asm); (case u6 => first | assumption | omega); (case u7 => first | assumption | l_ints); (case u8 => kxs_still); (case u9 => ktr_room); (case u10 => kwd_less); k_whole); intro dk' ql' od' oq' h' tk' F' N' D' C' l1 l1b l2; (try k_lt l1); (repeat (have l9 := And.left l1; replace l1 := And.right l1)); (try k_lt l1b); (repeat (have l9 := And.left l1b; replace l1b := And.right l1b)); kwd_inv)
    k_steps
    unfold Held
    (k_dflt (refine' drawn_tells ?u0 ?u1 ?u2 ?u3 ?u4 ?u5 ?u6 ?u7 ?u8 ?u9 ?u10 ?u11 ?u12 ?u13 ?u14 ?u15 ?u16 ?_; (case u0 | u1 | u2 | u3 => k_asm); (case u4 => first | exact rfl | assumption); (case u5 => k_asm); (case u6 => tb_rel); (case u7 => k_asm); (case u8 => tb_rel); (case u9 => k_asm); (case u10 => ktr_rel); (case u11 => k_ne); (case u12 => kxs_still); (case u13 | u14 => first | assumption | omega); (case u15 => ktr_room); (case u16 => kwd_less); k_whole); intros; kwd_inv)
    k_steps
    unfold Held
    (k_dflt (refine' pick40 ?u0 ?u1 ?u2 ?u3 ?u4 ?u5 ?u6 ?u7 ?u8 ?u9 ?u10 ?u11 ?u12 ?u13 ?u14 ?u15 ?u16 ?u17 ?u18 ?u19 ?u20 ?u21 ?_; (case u0 | u1 | u2 | u3 => k_asm); (case u4 => first | exact rfl | assumption); (case u5 => k_asm); (case u6 => tb_rel); (case u7 => k_asm); (case u8 => tb_rel); (case u9 => k_asm); (case u10 => tb_rel); (case u11 => ktr_rel); (case u12 | u13 | u14 => k_ne); (case u15 => first | assumption | l_ints); (case u16 => kxs_still); (case u17 | u18 => first | omega | (simp only [List.length_append, List.length_cons, List.length_nil]; omega)); (case u19 => (intro r9 hr9; simp only [List.mem_cons, List.not_mem_nil, or_false] at hr9; omega)); (case u20 => ktr_room); (case u21 => kwd_less); k_whole); intros; kwd_inv)
    k_steps
    unfold Held
    (k_dflt (refine' tabs2 ?u0 ?u1 ?u2 ?u3 ?u4 ?u5 ?u6 ?u7 ?u8 ?u9 ?_; (case u0 | u1 | u2 | u3 => k_asm); (case u4 => first | exact rfl | assumption); (case u5 => k_asm); (case u6 | u7 => first | assumption | omega); (case u8 => ktr_room); (case u9 => kwd_less); k_whole); intros; kwd_inv)
    k_steps
    unfold Held
    (k_dflt (refine' first_tells ?u0 ?u1 ?u2 ?u3 ?u4 ?u5 ?u6 ?u7 ?u8 ?u9 ?_; (case u0 | u1 | u2 | u3 => k_asm); (case u4 => first | exact rfl | assumption); (case u5 => k_asm); (case u6 | u7 => first | assumption | omega); (case u8 => ktr_room); (case u9 => kwd_less); k_whole); intros; kwd_inv)
    k_steps
    unfold Held
    (k_dflt (refine' copy2 ?u0 ?u1 ?u2 ?u3 ?u4 ?u5 ?u6 ?u7 ?u8 ?u9 ?u10 ?u11 ?u12 ?u13 ?u14 ?u15 ?u16 ?u17 ?u18 ?_; (case u0 | u1 | u2 | u3 => k_asm); (case u4 => first | exact rfl | assumption); (case u5 => k_asm); (case u6 | u7 | u8 => tb_rel); (case u9 => ktr_rel); (case u10 | u11 | u12 => k_ne); (case u13 => k_asm); (case u14 => kwd_rel); (case u15 | u16 => first | assumption | omega); (case u17 => ktr_room); (case u18 => kwd_less); k_whole); intros; kwd_inv)
    k_steps
    (repeat ((rename _ => z9); revert z9))
    exact fun h => h.out
-- part K2
set_option maxHeartbeats 400000000 in
def cut2 : CutB cut1.PA := by
  apply CutB.mk
  case go =>
    intro h g
    intro x9
    intros
    (rename HoldDraw => hm0); clear hm0
    unfold Held
    (rename Fr _ _ _ _ => lF'); (rename News _ _ _ _ => lN'); (rename Deck _ _ _ _ _ _ => lD'); (rename Cells _ => lC'); (rename Stops _ _ _ _ (List.foldl (putF 0) [] _) => lS')
    k_dflt (refine' draw8 ?B lF' ?X ?T ?hk lN' lD' lS' lC' ?hn ?hb0 ?hb1 ?e1 ?e2 ?e3 ?hIt ?hKe ?hO ?hWa ?N ?dif ?hd ?hu ?ret)
    case B => k_asm
    case X => k_asm
    case T => k_asm
    case hk => first | exact rfl | assumption
    case hIt => exact rfl
    case hKe => exact rfl
    case hO => exact rfl
    case hWa => exact rfl
    case N => tb_start
    case hn => omega
    case hb0 => omega
    case hb1 => omega
    case e1 => assumption
    case e2 => assumption
    case e3 => assumption
    case hd => ktr_room
    case hu => first | ktr_units | (have hcL9 := cLine_is; (simp only [units_under_make, units_in1, units_deeper, Around.mark_units, units_caller] at *); (try dsimp only [ktrTop] at *); omega)
    case dif => (repeat' (first | exact True.intro | (refine' And.intro ?_ ?_))) <;> k_ne
    (repeat ((rename OffD _ _ => z9); clear z9)); (repeat ((rename AllDif _ => z9); clear z9)); (repeat ((rename @LT.lt Nat _ _ _ => z9); clear z9)); (repeat ((rename (@LT.lt Nat _ _ _) ∧ _ => z9); clear z9)); (repeat ((rename @Ne Nat _ _ => z9); clear z9)); clear lS' lD' lC'; (repeat ((rename Deck _ _ _ _ _ _ => z9); clear z9)); (repeat ((rename Cells _ => z9); clear z9))
    intro r9 t9 od9 oq9 h9 tk9 F9 N9 dif9 D9 C9 S9 g1 g2
    clear lF' lN'
    k_steps
    unfold Held
    (rename Fr _ _ _ _ => lF'); (rename News _ _ _ _ => lN'); (rename IsRange _ _ _ _ _ _ _ _ => lR'); (rename Deck _ _ _ _ _ _ => lD'); (rename Stops _ _ _ _ (List.foldl (putF 0) [] _) => lS'); (rename AllDif _ => lA')
    refine' loopLaw ?hL ?hh lR' ?hb0 ?hb lF' ?hO ?hW ?hIt ?hKe ?hWa lS' lD' ?hn ?N ?R ?hi ?C ?k1 ?k2 ?e1 ?e2 ?e3 lA' ?turn ?done
    case hL => exact rfl
    case hh => exact rfl
    case hb0 => omega
    case hb => omega
    case hO => exact rfl
    case hW => exact rfl
    case hIt => exact rfl
    case hKe => exact rfl
    case hWa => exact rfl
    case hn => omega
    case N => exact kst_newsOf lN' (by tb_start)
    case R => exact rel_first _
    case hi => assumption
    case C => assumption
    case k1 => omega
    case k2 => omega
    case e1 => assumption
    case e2 => assumption
    case e3 => assumption
    case turn =>
      (repeat ((rename OffD _ _ => z9); clear z9)); (repeat ((rename AllDif _ => z9); clear z9)); (repeat ((rename @LT.lt Nat _ _ _ => z9); clear z9)); (repeat ((rename (@LT.lt Nat _ _ _) ∧ _ => z9); clear z9)); (repeat ((rename @Ne Nat _ _ => z9); clear z9)); clear lS' lD'; (repeat ((rename Deck _ _ _ _ _ _ => z9); clear z9)); (repeat ((rename Cells _ => z9); clear z9))
      intro i t d l o od oq o3 o2 o1 vs nn own ks c n tc tv way v2 v3 I h tk io hnn hn8 S9 R9 hi9 D9 C9 k1 k2 e1 e2 e3 dif F9 N9
      clear lF' lN'
      (repeat ((rename _ => z9); revert z9))
      exact fun h g => h.out
    case done =>
      intro d l o od oq o3 o2 o1 vs nn c tc way u h tk dif F9 N9
      clear lF' lN'
      (repeat ((rename _ => z9); revert z9))
      exact fun h g => g.out
-- part K3
set_option maxHeartbeats 400000000 in
def cut3 : CutF cut2.PA := by
  apply CutF.mk
  case go =>
    intro a b c d e f
    intro x9
    intros
    have hm1 : HoldIf := trivial
    k_steps
    unfold Held
    (rename HoldIf => hm1); clear hm1
    have hm2 : HoldCall := trivial
    (rename News _ _ _ _ => lN'); (replace lN' := news_tail lN'); (rename (@LT.lt Nat _ _ _) ∧ _ => z9); clear z9
    k_steps
    · (repeat ((rename _ => z9); revert z9))
      exact fun a b c d e f => a.out
    · (repeat ((rename _ => z9); revert z9))
      exact fun a b c d e f => b.out
    · (repeat ((rename _ => z9); revert z9))
      exact fun a b c d e f => c.out
    · (repeat ((rename _ => z9); revert z9))
      exact fun a b c d e f => d.out
    · (repeat ((rename _ => z9); revert z9))
      exact fun a b c d e f => e.out
    · (repeat ((rename _ => z9); revert z9))
      exact fun a b c d e f => f.out
-- part K41
set_option maxHeartbeats 400000000 in
theorem turn1 : cut3.PA := by
  intro x9
  intros
  unfold Held
  (rename HoldCall => hm2); clear hm2
  (repeat ((with_reducible rename @Ne Int _ _ => z9); clear z9))
  (k_dflt (refine' set2 ?u0 ?u1 ?u2 ?u3 ?u4 ?u5 ?u6 ?u7 ?u8 ?u9 ?u10 ?u11 ?u12 ?u13 ?u14 ?u15 ?u16 ?u17 ?u18 ?_; (case u0 | u1 | u2 | u3 => k_asm); (case u4 => first | exact rfl | assumption); (case u5 => k_asm); (case u6 | u7 | u8 => tb_rel); (case u9 => ktr_rel); (case u10 | u11 | u12 => k_ne); (case u13 => k_asm); (case u14 => kwd_rel); (case u15 | u16 => first | assumption | omega); (case u17 => ktr_room); (case u18 => kwd_less); k_whole); intros; kwd_inv)
  k_steps
  all_goals (refine' turnEndL _ _ _ _ _ _ _ _ _ _ _ _ _ _ _ _ ?F ?N ?hI ?hn ?hO ?hW ?hm ?S ?hi ?R ?D ?hk ?C ?k1 ?k2 ?e1 ?e2 ?e3 ?dif ?ha; (case F | N => k_asm); (case hI => k_memK); (case hO | hW => exact rfl); (case hm => (intro z h1 h2 h3; simp only [h1, h2, h3, if_false])); (case hn => tb_start); (case S => k_asm); (case hi => first | assumption | ktr_unf); (case R => kwd_rel); (case D => k_asm); (case hk => omega); (case C => assumption); (case k1 | k2 => omega); (case e1 | e2 | e3 => assumption); (case dif => first | assumption | ((repeat' (first | exact True.intro | (refine' And.intro ?_ ?_))) <;> k_ne)); (case ha => exact rfl))
-- part K42
set_option maxHeartbeats 400000000 in
theorem turn2 : cut3.PB := by
  intro x9
  intros
  unfold Held
  (rename HoldCall => hm2); clear hm2
  (repeat ((with_reducible rename @Ne Int _ _ => z9); clear z9))
  (k_dflt (refine' clear2 ?u0 ?u1 ?u2 ?u3 ?u4 ?u5 ?u6 ?u7 ?u8 ?u9 ?u10 ?u11 ?u12 ?u13 ?u14 ?u15 ?u16 ?u17 ?u18 ?_; (case u0 | u1 | u2 | u3 => k_asm); (case u4 => first | exact rfl | assumption); (case u5 => k_asm); (case u6 | u7 | u8 => tb_rel); (case u9 => ktr_rel); (case u10 | u11 | u12 => k_ne); (case u13 => k_asm); (case u14 => kwd_rel); (case u15 | u16 => first | assumption | omega); (case u17 => ktr_room); (case u18 => kwd_less); k_whole); intros; kwd_inv)
  k_steps
  all_goals (refine' turnEndL _ _ _ _ _ _ _ _ _ _ _ _ _ _ _ _ ?F ?N ?hI ?hn ?hO ?hW ?hm ?S ?hi ?R ?D ?hk ?C ?k1 ?k2 ?e1 ?e2 ?e3 ?dif ?ha; (case F | N => k_asm); (case hI => k_memK); (case hO | hW => exact rfl); (case hm => (intro z h1 h2 h3; simp only [h1, h2, h3, if_false])); (case hn => tb_start); (case S => k_asm); (case hi => first | assumption | ktr_unf); (case R => kwd_rel); (case D => k_asm); (case hk => omega); (case C => assumption); (case k1 | k2 => omega); (case e1 | e2 | e3 => assumption); (case dif => first | assumption | ((repeat' (first | exact True.intro | (refine' And.intro ?_ ?_))) <;> k_ne)); (case ha => exact rfl))
-- part K43
set_option maxHeartbeats 400000000 in
theorem turn3 : cut3.PC := by
  intro x9
  intros
  unfold Held
  (rename HoldCall => hm2); clear hm2
  (repeat ((with_reducible rename @Ne Int _ _ => z9); clear z9))
  (k_dflt (refine' clear_all2 ?u0 ?u1 ?u2 ?u3 ?u4 ?u5 ?u6 ?u7 ?u8 ?u9 ?u10 ?u11 ?_; (case u0 | u1 | u2 | u3 => k_asm); (case u4 => first | exact rfl | assumption); (case u5 => k_asm); (case u6 | u7 => tb_rel); (case u8 => ktr_rel); (case u9 => k_ne); (case u10 => ktr_room); (case u11 => kwd_less); k_whole); intros; kwd_inv)
  k_steps
  all_goals (refine' turnEndL _ _ _ _ _ _ _ _ _ _ _ _ _ _ _ _ ?F ?N ?hI ?hn ?hO ?hW ?hm ?S ?hi ?R ?D ?hk ?C ?k1 ?k2 ?e1 ?e2 ?e3 ?dif ?ha; (case F | N => k_asm); (case hI => k_memK); (case hO | hW => exact rfl); (case hm => (intro z h1 h2 h3; simp only [h1, h2, h3, if_false])); (case hn => tb_start); (case S => k_asm); (case hi => first | assumption | ktr_unf); (case R => kwd_rel); (case D => k_asm); (case hk => omega); (case C => assumption); (case k1 | k2 => omega); (case e1 | e2 | e3 => assumption); (case dif => first | assumption | ((repeat' (first | exact True.intro | (refine' And.intro ?_ ?_))) <;> k_ne)); (case ha => exact rfl))
-- part K44
set_option maxHeartbeats 400000000 in
theorem turn4 : cut3.PD := by
  intro x9
  intros
  unfold Held
  (rename HoldCall => hm2); clear hm2
  (repeat ((with_reducible rename @Ne Int _ _ => z9); clear z9))
  (k_dflt (refine' reset2 ?u0 ?u1 ?u2 ?u3 ?u4 ?u5 ?u6 ?u7 ?u8 ?u9 ?u10 ?u11 ?u12 ?u13 ?_; (case u0 | u1 | u2 | u3 => k_asm); (case u4 => first | exact rfl | assumption); (case u5 => k_asm); (case u6 | u7 => tb_rel); (case u8 => ktr_rel); (case u9 => k_ne); (case u10 | u11 => first | assumption | omega); (case u12 => ktr_room); (case u13 => kwd_less); k_whole); intros; kwd_inv)
  k_steps
  all_goals (refine' turnEndL _ _ _ _ _ _ _ _ _ _ _ _ _ _ _ _ ?F ?N ?hI ?hn ?hO ?hW ?hm ?S ?hi ?R ?D ?hk ?C ?k1 ?k2 ?e1 ?e2 ?e3 ?dif ?ha; (case F | N => k_asm); (case hI => k_memK); (case hO | hW => exact rfl); (case hm => (intro z h1 h2 h3; simp only [h1, h2, h3, if_false])); (case hn => tb_start); (case S => k_asm); (case hi => first | assumption | ktr_unf); (case R => kwd_rel); (case D => k_asm); (case hk => omega); (case C => assumption); (case k1 | k2 => omega); (case e1 | e2 | e3 => assumption); (case dif => first | assumption | ((repeat' (first | exact True.intro | (refine' And.intro ?_ ?_))) <;> k_ne)); (case ha => exact rfl))
-- part K45
set_option maxHeartbeats 400000000 in
theorem turn5 : cut3.PE := by
  intro x9
  intros
  unfold Held
  (rename HoldCall => hm2); clear hm2
  (repeat ((with_reducible rename @Ne Int _ _ => z9); clear z9))
  have hm3 : HoldDraw := trivial
  k_steps
  unfold Held
  (rename HoldDraw => hm3); clear hm3
  (rename News _ _ _ _ => lN'); (replace lN' := news_drop3 lN'); (try ((rename (@LT.lt Nat _ _ _) ∧ _ => z9); clear z9))
  (k_dflt (refine' put2 ?u0 ?u1 ?u2 ?u3 ?u4 ?u5 ?u6 ?u7 ?u8 ?u9 ?u10 ?u11 ?u12 ?u13 ?u14 ?u15 ?u16 ?_; (case u0 | u1 | u2 | u3 => k_asm); (case u4 => first | exact rfl | assumption); (case u5 => k_asm); (case u6 | u7 | u8 => tb_rel); (case u9 => ktr_rel); (case u10 | u11 | u12 => k_ne); (case u13 => first | assumption | l_ints); (case u14 => exact Nat.le_trans (List.length_filter_le _ _) (by decide)); (case u15 => ktr_room); (case u16 => kwd_less); k_whole); intros; kwd_inv)
  k_steps
  all_goals (refine' turnEndL _ _ _ _ _ _ _ _ _ _ _ _ _ _ _ _ ?F ?N ?hI ?hn ?hO ?hW ?hm ?S ?hi ?R ?D ?hk ?C ?k1 ?k2 ?e1 ?e2 ?e3 ?dif ?ha; (case F | N => k_asm); (case hI => k_memK); (case hO | hW => exact rfl); (case hm => (intro z h1 h2 h3; simp only [h1, h2, h3, if_false])); (case hn => tb_start); (case S => k_asm); (case hi => first | assumption | ktr_unf); (case R => kwd_rel); (case D => k_asm); (case hk => omega); (case C => assumption); (case k1 | k2 => omega); (case e1 | e2 | e3 => assumption); (case dif => first | assumption | ((repeat' (first | exact True.intro | (refine' And.intro ?_ ?_))) <;> k_ne)); (case ha => exact rfl))
-- part K46
set_option maxHeartbeats 400000000 in
theorem turn6 : cut3.PF := by
  intro x9
  intros
  unfold Held
  (repeat ((with_reducible rename @Ne Int _ _ => z9); clear z9))
  (k_dflt (refine' drawn_tells ?u0 ?u1 ?u2 ?u3 ?u4 ?u5 ?u6 ?u7 ?u8 ?u9 ?u10 ?u11 ?u12 ?u13 ?u14 ?u15 ?u16 ?_; (case u0 | u1 | u2 | u3 => k_asm); (case u4 => first | exact rfl | assumption); (case u5 => k_asm); (case u6 => tb_rel); (case u7 => k_asm); (case u8 => tb_rel); (case u9 => k_asm); (case u10 => ktr_rel); (case u11 => k_ne); (case u12 => kxs_still); (case u13 | u14 => first | assumption | omega); (case u15 => ktr_room); (case u16 => kwd_less); k_whole); intros; kwd_inv)
  k_steps
  unfold Held
  (rename HoldCall => hm2); clear hm2
  (k_dflt (refine' resize2 ?u0 ?u1 ?u2 ?u3 ?u4 ?u5 ?u6 ?u7 ?u8 ?u9 ?u10 ?u11 ?u12 ?u13 ?u14 ?u15 ?u16 ?u17 ?u18 ?u19 ?u20 ?_; (case u0 | u1 | u2 | u3 => k_asm); (case u4 => first | exact rfl | assumption); (case u5 => k_asm); (case u6 | u7 | u8 => tb_rel); (case u9 => ktr_rel); (case u10 | u11 | u12 => k_ne); (case u13 => k_asm); (case u14 => kwd_rel); (case u15 | u16 | u17 | u18 => first | assumption | omega); (case u19 => ktr_room); (case u20 => kwd_less); k_whole); intros; kwd_inv)
  k_steps
  all_goals (refine' turnEndL _ _ _ _ _ _ _ _ _ _ _ _ _ _ _ _ ?F ?N ?hI ?hn ?hO ?hW ?hm ?S ?hi ?R ?D ?hk ?C ?k1 ?k2 ?e1 ?e2 ?e3 ?dif ?ha; (case F | N => k_asm); (case hI => k_memK); (case hO | hW => exact rfl); (case hm => (intro z h1 h2 h3; simp only [h1, h2, h3, if_false])); (case hn => tb_start); (case S => k_asm); (case hi => first | assumption | ktr_unf); (case R => kwd_rel); (case D => k_asm); (case hk => omega); (case C => assumption); (case k1 | k2 => omega); (case e1 | e2 | e3 => assumption); (case dif => first | assumption | ((repeat' (first | exact True.intro | (refine' And.intro ?_ ?_))) <;> k_ne)); (case ha => exact rfl))
-- part K5
set_option maxHeartbeats 400000000 in
theorem ended : cut2.PB := by
  intro x9
  intros
  have hm2 : HoldCall := trivial
  k_steps
  unfold Held
  (k_dflt (refine' tabs2 ?u0 ?u1 ?u2 ?u3 ?u4 ?u5 ?u6 ?u7 ?u8 ?u9 ?_; (case u0 | u1 | u2 | u3 => k_asm); (case u4 => first | exact rfl | assumption); (case u5 => k_asm); (case u6 | u7 => first | assumption | omega); (case u8 => ktr_room); (case u9 => kwd_less); k_whole); intros; kwd_inv)
  k_steps
  unfold Held
  (k_dflt (refine' next20c ?u0 ?u1 ?u2 ?u3 ?u4 ?u5 ?u6 ?u7 ?u8 ?u9 ?u10 ?u11 ?_; (case u0 | u1 | u2 | u3 => k_asm); (case u4 => first | exact rfl | assumption); (case u5 => k_asm); (case u6 | u7 | u8 => tb_rel); (case u9 => k_asm); (case u10 => ktr_room); (case u11 => kwd_less); k_whole); intros; kwd_inv)
  k_steps
  unfold Held
  (k_dflt (refine' back20c ?u0 ?u1 ?u2 ?u3 ?u4 ?u5 ?u6 ?u7 ?u8 ?u9 ?u10 ?u11 ?_; (case u0 | u1 | u2 | u3 => k_asm); (case u4 => first | exact rfl | assumption); (case u5 => k_asm); (case u6 | u7 | u8 => tb_rel); (case u9 => k_asm); (case u10 => ktr_room); (case u11 => kwd_less); k_whole); intros; kwd_inv)
  k_steps
  unfold Held
  (k_dflt (refine' told2 ?u0 ?u1 ?u2 ?u3 ?u4 ?u5 ?u6 ?u7 ?u8 ?u9 ?u10 ?u11 ?u12 ?u13 ?u14 ?_; (case u0 | u1 | u2 | u3 => k_asm); (case u4 => first | exact rfl | assumption); (case u5 => k_asm); (case u6 | u7 | u8 => tb_rel); (case u9 => k_asm); (case u10 => kwd_rel); (case u11 | u12 => first | assumption | omega); (case u13 => ktr_room); (case u14 => kwd_less); k_whole); intros; kwd_inv)
  (rename HoldCall => hm2); clear hm2
  k_steps
theorem whole : PySem.Challenge.rw_np0268_01.Holds := cut1.go ⟨cut2.go ⟨cut3.go ⟨turn1⟩ ⟨turn2⟩ ⟨turn3⟩ ⟨turn4⟩ ⟨turn5⟩ ⟨turn6⟩⟩ ⟨ended⟩⟩
end Mine
theorem PySem.Challenge.cw_np0268_01_holds : PySem.Challenge.rw_np0268_01.Holds := by
  exact Mine.whole
