import PyProof.Rows.All
import Wide.All
import OpenK.AllK
import Wide.FinOn
import HandS.ForMost
import HandS.Wide
import HandS.WideBits
import HandS.IsInst
import HandS.Walk
import HandS.Zip
import HandS.Rev
import HandS.TupAny
import HandS.TupMul
import HandS.Conv
import HandS.Defaults
import PySem.Str
import HandS.Style
import PySem.Challenge.RW_allofonekind_k32_whole_main_pairs_and_ki
set_option autoImplicit false
set_option Elab.async false
set_option linter.all false
set_option maxRecDepth 100000
/-! EngB0: list(reversed(a list)), over the model. -/
namespace EngM
open PySem L2 PyProof.Rows
section
variable {prog : Program} {w : World} {A : Around} {E : Value → Shared → Prop} {s : Shared}
abbrev Back (items : Array Value) (i : Nat) (v : Value) : Prop := items[items.size - 1 - i]? = some v
theorem lri_hint {it : Addr} {Q : Bool → Shared → Prop} (hT : s.TypeIs (.ref it) "list_reverseiterator") (h : Q false s) : wpAny (model prog w) A (Builtin.List.listLengthHint (.ref it)) Q E s := by
  unfold Builtin.List.listLengthHint
  refine wpAny_bind (wpAny_specialOf hT RT.nolen_lri ?_)
  show wpAny _ A (specialOf (Value.ref it) (Str.ofString "__length_hint__") >>= _) _ _ _
  refine wpAny_bind (wpAny_specialOf hT RT.hint_lri ?_)
  generalize hid : ("list_reverseiterator.__length_hint__" : String) = id0
  wp_delta
  rw [show splitId id0 = some ("list_reverseiterator", "__length_hint__") from by subst hid; decide +kernel]
  subst hid
  exact wpAny_bind (wpAny_isInstance (b := true) hT (by rw [isSubtype_type]; kernel_rfl) (wpAny_pure h))
theorem rev_extend {R : Result → Shared → Prop} {it l S : Addr} {items : Array Value} {res : Value} {c0 : Nat} (hh : A.handled = none) (hit : s.heap.IsRevIter it l ((items.size : Int) - 1)) (hl : s.heap.IsList l items) (hne : l ≠ it) (hn : items.size ≤ sizeLine)
    (hS : s.heap.get? S = some { cls := .type "list", data := .seq #[] c0 }) (hSi : S ≠ it) (hSl : S ≠ l)
    (hR : ∀ h' tk acc c', (∀ b o, b ≠ S → b ≠ it → s.heap.get? b = some o → h'.get? b = some o) → h'.get? S = some { cls := .type "list", dict := none, data := .seq acc c', slots := #[] } → ItemsOf (Back items) acc items.size → R (.ok (.ret res)) { s with heap := h', toks := tk }) :
    wpAny (model prog w) A.in1 (Builtin.List.listExtendWith (.ref S) (.ref it) res)
      (fun fin s' => match fin with | .done f => R (.ok f) s' | .again c' => c'.quiet = true ∧ codeAny (model prog w) A c' R s') (fun e s' => R (.error e) s') s := by
  have W := (Walks.listRev (prog := prog) (w := w) (A := A.in1) hh it l hne items).toS
  have out : S ∉ [it, l] := fun z => by
    rcases List.mem_cons.mp z with z | z
    · exact hSi z
    · exact hSl (List.mem_singleton.mp z)
  have hT := Heap.IsRevIter.typeIs hit
  unfold Builtin.List.listExtendWith
  refine wpAny_bind (wpAny_typeOf hT ?_)
  have no : Builtin.List.listSameRef (.ref S) (.ref it) = false := by simp [Builtin.List.listSameRef, hSi]
  rw [if_neg (by rw [no]; decide)]
  refine wpAny_bind (wpAny_pyIter_revIter hit (wpAny_bind (wpAny_holding (lri_hint hT ?_))))
  rw [if_neg (by decide)]
  have z : ((items.size : Nat) : Int) - 1 - ((0 : Nat) : Int) = (items.size : Int) - 1 := by omega
  refine wpAny_pure ⟨plainId_quiet F.plain_extend_loop _, codeAny_extend_loopS W hn _ out _ items.size 0 _ _ _ rfl (Nat.zero_le _) ⟨Nat.zero_le _, by rw [z]; exact hit, hl⟩ hS (ItemsOf.nil _) fun s' acc' c' mv st ia => ?_⟩
  rw [Moved.eq_with mv]
  refine hR s'.heap s'.toks acc' c' (fun b o b1 b2 e => mv.heap b o (fun m => ?_) e) st ia
  rcases List.mem_cons.mp m with q | q
  · exact b1 q
  · exact b2 (List.mem_singleton.mp q)
theorem rev_list {it l : Addr} {items : Array Value} {Q : Value → Shared → Prop} (hh : A.handled = none) (hit : s.heap.IsRevIter it l ((items.size : Int) - 1)) (hl : s.heap.IsList l items) (hne : l ≠ it) (hn : items.size ≤ sizeLine)
    (hQ : ∀ h' tk acc c', (∀ b o, b ≠ it → s.heap.get? b = some o → h'.get? b = some o) → h'.get? s.heap.objs.size = some { cls := .type "list", dict := none, data := .seq acc c', slots := #[] } → ItemsOf (Back items) acc items.size → Q (.ref s.heap.objs.size) { s with heap := h', toks := tk }) :
    wpAny (model prog w) A (call (.type "list") [.ref it]) Q E s := by
  refine callType_codes (Q₁ := fun ob t => ob = .ref s.heap.objs.size ∧ t = { s with heap := s.heap.push { cls := .type "list", data := .seq #[] } }) F.called_list (F.typeCall_list_1 _) F.entry_list_init (code_list_new _ ⟨rfl, rfl⟩) fun ob t ht => ?_
  obtain ⟨rfl, rfl⟩ := ht
  obtain ⟨oi, hoi, _⟩ := id hit
  obtain ⟨ol, hol, _⟩ := id hl
  have nS : ∀ {b : Addr} {o : Obj}, s.heap.get? b = some o → s.heap.objs.size ≠ b := fun e => Nat.ne_of_gt (Heap.lt_size e)
  have new : (s.heap.push { cls := .type "list", data := .seq #[] }).get? s.heap.objs.size = some { cls := .type "list", data := .seq #[] } := Heap.get?_push_size _ rfl
  refine ⟨⟨_, new, rfl⟩, F.args_list_init_2 _ _, ?_⟩
  show wpAny _ _ (do let old ← Builtin.List.listItems (.ref s.heap.objs.size); Builtin.List.listUpdate (.ref s.heap.objs.size) (fun _ => #[]); letGo old.toList.reverse; Builtin.List.listExtendWith (.ref s.heap.objs.size) (.ref it) .none) _ _ _
  refine wpAny_bind ?_
  unfold Builtin.List.listItems
  refine wpAny_bind (wpAny_seqItems new rfl (wpAny_pure ?_))
  show wpAny _ _ (updateSeq s.heap.objs.size (fun _ => #[]) >>= fun _ => letGo (#[] : Array Value).toList.reverse >>= fun _ => Builtin.List.listExtendWith (.ref s.heap.objs.size) (.ref it) .none) _ _ _
  refine wpAny_bind (wpAny_updateSeq new rfl (wpAny_bind (wpAny_letGo ?_)))
  have new2 := Heap.get?_update_self (Obj.mapSeq (fun _ => (#[] : Array Value))) new rfl
  have oth : ∀ b o, b ≠ s.heap.objs.size → s.heap.get? b = some o → ((s.heap.push { cls := .type "list", data := .seq #[] }).update s.heap.objs.size (Obj.mapSeq (fun _ => (#[] : Array Value)))).get? b = some o :=
    fun b o nb e => (Heap.get?_update_other _ _ (Ne.symm nb)).trans (Heap.get?_push_of_some _ e)
  refine rev_extend (A := A.in1) hh (hit.at fun o e => oth it o (nS hoi).symm e) ?_ hne hn new2 (nS hoi) (nS hol) fun h' tk acc c' k e ia => ⟨rfl, hQ h' tk acc c' (fun b o nb eb => ?_) e ia⟩
  · obtain ⟨o, ho, r⟩ := id hl
    exact ⟨o, oth l o (nS hol).symm ho, r⟩
  · exact k b o (nS eb).symm nb (oth b o (nS eb).symm eb)
end
/-- list(reversed(x)), x a list -/
def tLstRev (K : PySem.W.Frag) (te : TE) : TE := fun σ H Q => te σ H fun v H1 => ∃ (a : Addr) (xs : List V), v = .ref a ∧ SqL K H1 a xs ∧ ∀ q, H1 q = none → Q (.ref q) (upd H1 q (.lst xs.reverse))
theorem pe_lstRev {X : Cx} {e : Expr} {te : TE} {p p2 pos pos2 : Pos} (hc : X.calm = true) (hg : Gl X "list") (hm : X.mg "list" = none) (hg2 : Gl X "reversed") (hm2 : X.mg "reversed" = none) (he : PE X e te)
    (hs : starEach [e] X.env = (false, eval e X.env) :: starEach [] X.env)
    (hs2 : starEach [.Call (.Name "reversed" p2) [e] [] pos2] X.env = (false, eval (.Call (.Name "reversed" p2) [e] [] pos2) X.env) :: starEach [] X.env := by rfl) :
    PE X (.Call (.Name "list" p) [.Call (.Name "reversed" p2) [e] [] pos2] [] pos) (tLstRev X.K te) := by
  refine ⟨fun pins s σ H Q I h => ?_⟩
  refine Call_ (ld_blt I hg hm boot_list (callWith_type1 (args_cons (Call_ (ld_blt I hg2 hm2 boot_reversed (callWith_type1 (args_cons (thn (he.run pins s σ H _ I h) fun u s1 ⟨v, H1, I1, r1, q1⟩ => args_nil ?_) hs) hs rfl))) hs2) hs2 rfl))
  obtain ⟨a, xs, ev, hq, q⟩ := q1
  subst ev
  obtain rfl : u = Value.ref a := r1
  obtain ⟨its, rv, pl, hz⟩ := I1.list hq
  refine call_reversed_list pl.isList (args_nil ?_)
  have up : ∀ b o, s1.heap.get? b = some o → (s1.heap.push (revObj a ((its.toArray.size : Int) - 1))).get? b = some o := fun b o e => Heap.get?_push_of_some _ e
  have I2 : Inv X pins σ H1 { s1 with heap := s1.heap.push (revObj a ((its.toArray.size : Int) - 1)) } := I1.kept (t' := s1.toks) up
  obtain ⟨g0, g1, g2, g3, g4, g5⟩ := I1.fpOk (H' := H1) (b := s1.heap.objs.size) (Nat.le_refl _) (I1.hok.fresh (Nat.le_refl _))
  obtain ⟨ol, hol, _⟩ := id pl.isList
  have an : a ≠ s1.heap.objs.size := Nat.ne_of_lt (Heap.lt_size hol)
  have hn : its.toArray.size ≤ sizeLine := by rw [List.size_toArray, ← rv.length]; exact hz
  refine rev_list (s := { s1 with heap := s1.heap.push (revObj a ((its.toArray.size : Int) - 1)) }) (I1.ok.hd hc) ⟨_, Heap.get?_push_size _ rfl, rfl, rfl⟩ (pl.isList.push _) an hn fun h' tk acc c' k e ia => ?_
  have free : H1 (s1.heap.push (revObj a ((its.toArray.size : Int) - 1))).objs.size = none := I2.hok.fresh (Nat.le_refl _)
  -- what the iterator is, is nobody's: it turns; the new list is laid
  let hm' : Heap := s1.heap.push (revObj a ((its.toArray.size : Int) - 1))
  have I3 : Inv X pins σ H1 { s1 with heap := h', toks := tk } := I2.turned (t' := tk) (fun b o hb e => k b o hb e) g0 g1 g3 g4 g5
  have ok3 : HOk X.prog X.w (upd H1 hm'.objs.size (.lst xs.reverse)) h' := fun b o eb => by
    by_cases hb : b = hm'.objs.size
    · subst hb
      rw [upd_same] at eb
      cases eb
      exact ⟨by rw [List.length_reverse]; exact hz, acc.toList, c', RT.vals_rev rv ia, by rw [Array.toArray_toList]; exact e⟩
    · rw [upd_ne hb] at eb
      exact (I3.hok b o eb).stay (fun c u _ q => q) (fun c q => by rw [upd_ne (ne_of_none q free)]; exact q) fun c ys q => by rw [upd_ne (ne_of_none q free)]; exact q
  have I4 : Inv X pins σ (upd H1 hm'.objs.size (.lst xs.reverse)) { s1 with heap := h', toks := tk } := by
    refine Inv.step (s := { s1 with heap := s1.heap.push (revObj a ((its.toArray.size : Int) - 1)) }) (g' := s1.gens) (t' := tk) (d' := s1.drawn) (h' := h') (ch := [s1.heap.objs.size]) I2 (fun b hb => ?_) (fun b o _ _ hb e _ => k b o (fun z => hb (by simp [z])) e) (fun b o _ _ hb e _ => ⟨o.slots, k b o (fun z => hb (by simp [z])) e⟩) (fun b o hb e n => ?_) (fun b o hb e => ⟨o, k b o (fun z => hb (by simp [z])) e⟩)
      (fun b ys e => by rw [upd_ne (ne_of_none e free)]; exact e) (fun b o u e => by rw [upd_ne (ne_of_none e free)]; exact e) (fun b ps e => ⟨#[], by rw [upd_ne (ne_of_none e free), e]; simp⟩) (fun m hm => ?_) ok3 I1.bare
    · have : b = s1.heap.objs.size := by simpa using hb
      subst this
      exact ⟨g3, g1, g4, g5⟩
    · rw [upd_ne (Nat.ne_of_lt (Heap.lt_size e))]
      exact n
    · obtain ⟨o, es, ep, ho, r⟩ := hm
      exact ⟨o, es, ep, k _ o (Ne.symm g1) ho, r⟩
  exact ⟨.ref hm'.objs.size, _, I4, rfl, q _ free⟩
end EngM
/-! EngA: a small language of pure values (numbers, texts, tuples, lists that stay, lists that change by number), its
expressions, statements, and what they come to. -/
namespace Eng
abbrev Str := PySem.Str

inductive D where
  | non
  | bl (b : Bool)
  | int (i : Int)
  | str (s : Str)
  | tup (l : List D)
  /-- a list that nobody changes -/
  | lv (l : List D)
  /-- the script -/
  | scr (l : List Int)
  /-- a thing that may change, by its number -/
  | ref (n : Nat)
  deriving Inhabited

inductive O where
  | lst (l : List D)
  | dic (l : List (D × D))

abbrev Env := List (Option D)
abbrev Store := List O
abbrev Fn := List D → Store → Option (D × Store)

inductive BOp | add | sub | mul | fdiv | mod | pow | shl | shr | band | bor | bxor
  deriving DecidableEq
inductive COp | lt | le | gt | ge | eq | ne | isN | notN | isin | notin
  deriving DecidableEq
inductive Blt | len | abs | int | bool | sum | all | any | tuple | list | min2 | max2 | min | max
  deriving DecidableEq
inductive Ty | int | bool | str | tuple
  deriving DecidableEq

inductive Tg where
  | nm (i : Nat)
  | tup (r : Tg)
  | nil
  | cons (t : Tg) (r : Tg)

inductive IE where
  | var (i : Nat)
  | int (z : Int)
  | bl (b : Bool)
  | non
  | str (s : Str)
  | bin (m : Bool) (o : BOp) (a b : IE)
  | neg (a : IE)
  | cmp (o : COp) (a b : IE)
  | chain (o o' : COp) (a b c : IE)
  | and (a b : IE)
  | or (a b : IE)
  | not (a : IE)
  | ite (c a b : IE)
  | tup (as : IE)
  | lst (m : Bool) (as : IE)
  | idx (a i : IE)
  | sl (m : Bool) (a lo hi : IE)
  | call (f : Nat) (as : IE)
  /-- f(e, .., k = v, ..): the values in the written order, then put in the parameters' order -/
  | callk (f : Nat) (perm : List Nat) (as ks : IE)
  | blt (m : Bool) (b : Blt) (as : IE)
  | isi (t : Ty) (a : IE)
  | lrev (m : Bool) (a : IE)
  | app (a x : IE)
  | ext (a x : IE)
  | pop (a : IE)
  | popAt (a i : IE)
  | comp (m : Bool) (own : List Nat) (it : IE) (tg : Tg) (c elt : IE)
  /-- never come to -/
  | stk
  /-- no part of a slice; no test -/
  | no
  | nil
  | cons (a r : IE)
  | itv (a : IE)
  | rng (as : IE)
  | enu (a : IE)
  | zip (a b : IE)
  | rev (a : IE)

inductive IS where
  /-- never come to -/
  | stk
  | skip
  | seq (a b : IS)
  | set (i : Nat) (e : IE)
  | setc (i : Nat) (e : IE)
  | par (is : List Nat) (as : IE)
  | tgs (t : Tg) (e : IE)
  | six (o i e : IE)
  | sixs (os is as : IE)
  | ex (e : IE)
  | ret (e : IE)
  | ite (c : IE) (a b : IS)
  | whl (fuel : Nat) (w : List Nat) (c : IE) (b : IS)
  | for_ (w : List Nat) (t : Tg) (it : IE) (b : IS)
  | brk
  | cont

inductive Fl where
  | nx
  | rt (d : D)
  | bk
  | ct

/-! ### lists of a value -/
def lenLine : Nat := 1000000
/-- what a number stands for, all through, from the number m on -/
def fz (S : Store) (m : Nat) : Nat → D → D
  | 0, d => d
  | k + 1, d => match d with
    | .tup l => .tup (l.map (fz S m k))
    | .lv l => .lv (l.map (fz S m k))
    | .ref n => if n < m then .ref n else match S[n]? with
      | some (.lst l) => .lv (l.map (fz S m k))
      | _ => .ref n
    | d => d
mutual
/-- no number from m on -/
def clo (m : Nat) : D → Bool
  | .tup l => cloL m l
  | .lv l => cloL m l
  | .ref n => decide (n < m)
  | _ => true
def cloL (m : Nat) : List D → Bool
  | [] => true
  | d :: r => clo m d && cloL m r
end
def cloO (m : Nat) : O → Bool
  | .lst l => cloL m l
  | .dic l => cloL m (l.map (·.1)) && cloL m (l.map (·.2))
mutual
/-- data at any depth, no number in it, at most k deep -/
def dat : Nat → D → Bool
  | _, .non => true
  | _, .bl _ => true
  | _, .int _ => true
  | _, .str _ => false
  | k + 1, .tup l => datL k l
  | k + 1, .lv l => datL k l
  | _, _ => false
def datL : Nat → List D → Bool
  | _, [] => true
  | k, d :: r => dat k d && datL k r
end
def b2i (b : Bool) : Int := if b then 1 else 0
mutual
def eqD : D → D → Bool
  | .non, .non => true
  | .bl a, .bl b => a == b
  | .bl a, .int j => b2i a == j
  | .int i, .bl b => i == b2i b
  | .int i, .int j => i == j
  | .str x, .str y => x == y
  | .tup x, .tup y => eqL x y
  | .lv x, .lv y => eqL x y
  | _, _ => false
def eqL : List D → List D → Bool
  | [], [] => true
  | x :: r, y :: q => eqD x y && eqL r q
  | _, _ => false
end
def fuelD : Nat := 8
def eqS (S : Store) (x y : D) : Option Bool := match x, y with
  | .str a, .str b => some (a == b)
  | .non, .str _ => some false
  | .str _, .non => some false
  | .int _, .str _ => some false
  | .str _, .int _ => some false
  | x, y => if dat 8 (fz S 0 fuelD x) && dat 8 (fz S 0 fuelD y) then some (eqD (fz S 0 fuelD x) (fz S 0 fuelD y)) else none
/-- a list's items (one that stays or one that changes) -/
def lstOf (S : Store) : D → Option (List D)
  | .lv l => some l
  | .ref n => match S[n]? with
    | some (.lst l) => some l
    | _ => none
  | _ => none
/-- a list's or a tuple's items -/
def seqOf (S : Store) : D → Option (List D)
  | .tup l => some l
  | .scr l => some (l.map .int)
  | d => lstOf S d

def intBits (x : Int) : Nat := if x = 0 then 0 else x.natAbs.log2 + 1
/-- does a division leave the plain road (a divisor of more than 300 digits of 30 bits, a quotient of more than 150)? -/
def pyl (x y : Int) : Bool := decide ((if y == 0 then 0 else y.natAbs.log2 / 30 + 1) > 300) && decide (((if x == 0 then 0 else x.natAbs.log2 / 30 + 1) : Nat) > (if y == 0 then 0 else y.natAbs.log2 / 30 + 1) + 150)
def mulOk (i j : Int) : Prop := i.natAbs.log2 + j.natAbs.log2 < 1000000
instance (i j : Int) : Decidable (mulOk i j) := inferInstanceAs (Decidable (_ < _))
def divOk (i j : Int) : Prop := 0 < j ∧ (j.natAbs.log2 < 9000 ∨ pyl i j = false)
instance (i j : Int) : Decidable (divOk i j) := inferInstanceAs (Decidable (_ ∧ _))
def natXor (i j : Int) : Int := ((i.toNat ||| j.toNat : Nat) : Int) - ((i.toNat &&& j.toNat : Nat) : Int)
def natAnd (i j : Int) : Int := ((i.toNat &&& j.toNat : Nat) : Int)
def natOr (i j : Int) : Int := ((i.toNat ||| j.toNat : Nat) : Int)

def intOp : BOp → Int → Int → Option Int
  | .add, i, j => some (i + j)
  | .sub, i, j => some (i - j)
  | .mul, i, j => if mulOk i j then some (i * j) else none
  | .fdiv, i, j => if divOk i j then some (i / j) else none
  | .mod, i, j => if 0 < j then some (i % j) else none
  | .pow, i, j => if 0 ≤ j ∧ j ≤ 1000000 ∧ i.natAbs < 2 ^ 64 then some (i ^ j.toNat) else none
  | .shl, i, j => if 0 ≤ j ∧ j ≤ 1000000 ∧ i.natAbs < 2 ^ 64 then some (i * 2 ^ j.toNat) else none
  | .shr, i, j => if 0 ≤ j then some (i / 2 ^ j.toNat) else none
  | .band, i, j => if 0 ≤ i ∧ 0 ≤ j then some (natAnd i j) else none
  | .bor, i, j => if 0 ≤ i ∧ 0 ≤ j then some (natOr i j) else none
  | .bxor, i, j => if 0 ≤ i ∧ 0 ≤ j then some (natXor i j) else none
def repL {α : Type} (l : List α) (k : Nat) : List α := (List.replicate k l).flatten
def binD (S : Store) (o : BOp) (x y : D) : Option D := match x, y with
  | .int i, .int j => (intOp o i j).map .int
  | .tup a, .tup b => if o = .add ∧ a.length + b.length ≤ lenLine then some (.tup (a ++ b)) else none
  | .tup a, .int k => if o = .mul ∧ a ≠ [] ∧ 2 ≤ k ∧ k ≤ 1000 ∧ a.length ≤ 1000 then some (.tup (repL a k.toNat)) else none
  | x, .int k => (lstOf S x).bind fun a => if o = .mul ∧ -1000000 ≤ k ∧ k ≤ 1000000 ∧ a.length * k.toNat ≤ lenLine then some (.lv (repL a k.toNat)) else none
  | x, y => (lstOf S x).bind fun a => (lstOf S y).bind fun b => if o = .add ∧ a.length + b.length ≤ lenLine then some (.lv (a ++ b)) else none
/-- a new list gets a number if it is to change -/
def alloc (m : Bool) (d : D) (S : Store) : D × Store := if m then match d with
    | .lv l => (.ref S.length, S ++ [.lst l])
    | d => (d, S)
  else (d, S)
def flat : D → Bool
  | .non => true
  | .bl _ => true
  | .int _ => true
  | .str _ => true
  | _ => false
def cmpD (S : Store) (o : COp) (x y : D) : Option Bool := match o, x, y with
  | .lt, .int i, .int j => some (decide (i < j))
  | .le, .int i, .int j => some (decide (i ≤ j))
  | .gt, .int i, .int j => some (decide (j < i))
  | .ge, .int i, .int j => some (decide (j ≤ i))
  | .eq, x, y => eqS S x y
  | .ne, x, y => (eqS S x y).map (!·)
  | .isN, .non, .non => some true
  | .isN, _, .non => some false
  | .notN, .non, .non => some false
  | .notN, _, .non => some true
  | .isin, x, y => (seqOf S y).bind fun l => if flat x && l.all flat then some (l.any fun z => eqD z x) else none
  | .notin, x, y => (seqOf S y).bind fun l => if flat x && l.all flat then some (!(l.any fun z => eqD z x)) else none
  | _, _, _ => none
def truD (S : Store) : D → Option Bool
  | .bl b => some b
  | _ => none
def ixN (n : Nat) (i : Int) : Option Nat := if 0 ≤ i then (if i < n then some i.toNat else none) else if -(n : Int) ≤ i then some (i + n).toNat else none
def atI {α : Type} (xs : List α) (i : Int) : Option α := (ixN xs.length i).bind fun j => xs[j]?
def idxD (S : Store) (x i : D) : Option D := match i with
  | .int k => (seqOf S x).bind fun l => atI l k
  | _ => none
def sIx (n d : Nat) : Option Int → Nat
  | none => d
  | some v => if v < 0 then (v + (n : Int)).toNat else min v.toNat n
def cutV {α : Type} (xs : List α) (lo hi : Option Int) : List α := (xs.drop (sIx xs.length 0 lo)).take (sIx xs.length xs.length hi - sIx xs.length 0 lo)
def isNon : IE → Bool
  | .non => true
  | _ => false
def partD (k : Bool) (d : D) : Option (Option Int) := if k then some none else match d with
  | .int i => some (some i)
  | _ => none
/-- a list that changes, at its number -/
def isL (S : Store) : D → Bool
  | .ref n => match S[n]? with
    | some (.lst _) => true
    | _ => false
  | _ => false
def appS (y d : D) (S : Store) : Option (D × Store) := match y with
  | .ref n => match S[n]? with
    | some (.lst l) => if l.length < lenLine then some (.non, S.set n (.lst (l ++ [d]))) else none
    | _ => none
  | _ => none
def extS (y d : D) (S : Store) : Option (D × Store) := match y with
  | .ref n => match S[n]? with
    | some (.lst l) => (lstOf S d).bind fun q => if l.length + q.length ≤ lenLine then some (.non, S.set n (.lst (l ++ q))) else none
    | _ => none
  | _ => none
def popS (y : D) (S : Store) : Option (D × Store) := match y with
  | .ref n => match S[n]? with
    | some (.lst l) => (l[l.length - 1]?).map fun d => (d, S.set n (.lst l.dropLast))
    | _ => none
  | _ => none
def popAtS (y k : D) (S : Store) : Option (D × Store) := match y, k with
  | .ref n, .int k => match S[n]? with
    | some (.lst l) => if 0 ≤ k ∧ k < 1000000 then (l[k.toNat]?).map fun d => (d, S.set n (.lst (l.eraseIdx k.toNat))) else none
    | _ => none
  | _, _ => none
def slI (S : Store) (x : D) (a b : Option Int) : Option D := match x with
  | .tup l => some (.tup (cutV l a b))
  | .scr l => some (.lv ((cutV l a b).map .int))
  | x => (lstOf S x).map fun l => .lv (cutV l a b)
def intsOf : List D → Option (List Int)
  | [] => some []
  | .int i :: r => (intsOf r).map (i :: ·)
  | _ => none
def blsOf : List D → Option (List Bool)
  | [] => some []
  | .bl i :: r => (blsOf r).map (i :: ·)
  | _ => none
def maxI : List Int → Option Int
  | [] => none
  | x :: r => some (r.foldl (fun m y => if y > m then y else m) x)
def minI : List Int → Option Int
  | [] => none
  | x :: r => some (r.foldl (fun m y => if y < m then y else m) x)
def kindIs : Ty → D → Bool
  | .int, .int _ => true
  | .int, .bl _ => true
  | .bool, .bl _ => true
  | .str, .str _ => true
  | .tuple, .tup _ => true
  | _, _ => false
def bltD (S : Store) : Blt → List D → Option D
  | .len, [x] => (seqOf S x).map fun l => .int l.length
  | .abs, [.int i] => some (.int (if i < 0 then -i else i))
  | .int, [.int i] => some (.int i)
  | .int, [.bl b] => some (.int (b2i b))
  | .bool, [.bl b] => some (.bl b)
  | .bool, [.int i] => some (.bl (i != 0))
  | .sum, [x] => ((lstOf S x).bind intsOf).map fun ns => .int ns.sum
  | .all, [x] => ((lstOf S x).bind blsOf).map fun bs => .bl (bs.all id)
  | .any, [x] => ((lstOf S x).bind blsOf).map fun bs => .bl (bs.any id)
  | .tuple, [.tup l] => some (.tup l)
  | .tuple, [x] => (lstOf S x).map .tup
  | .list, [x] => (seqOf S x).map .lv
  | .min2, [.int i, .int j] => some (.int (if j < i then j else i))
  | .max2, [.int i, .int j] => some (.int (if j > i then j else i))
  | .min, [x] => ((lstOf S x).bind fun l => (intsOf l).bind minI).map .int
  | .max, [x] => ((lstOf S x).bind fun l => (intsOf l).bind maxI).map .int
  | _, _ => none
def wipeE (v : Env) : List Nat → Env
  | [] => v
  | i :: r => (wipeE v r).set i none
mutual
def bindT : Tg → D → Env → Option Env
  | .nm i, d, v => some (v.set i (some d))
  | .tup r, d, v => match d with
    | .tup l => bindL r l v
    | _ => none
  | .nil, _, _ => none
  | .cons _ _, _, _ => none
def bindL : Tg → List D → Env → Option Env
  | .nil, l, v => match l with
    | [] => some v
    | _ => none
  | .cons t r, l, v => match l with
    | d :: l => (bindT t d v).bind fun v' => bindL r l v'
    | _ => none
  | .nm _, _, _ => none
  | .tup _, _, _ => none
end
def bindN : List Nat → List D → Env → Option Env
  | [], [], v => some v
  | i :: r, d :: l, v => (bindN r l v).map fun v' => v'.set i (some d)
  | _, _, _ => none
/-- what is walked: the items, and the number of the list that must stay as it is -/
def itemsOf (S : Store) : D → Option (List D)
  | .str s => some (s.cps.toList.map fun c => .str ⟨#[c]⟩)
  | d => seqOf S d
def stays (src : D) (items : List D) (S : Store) : Prop := match src with
  | .ref n => S[n]? = some (.lst items)
  | _ => True
open Classical in
/-- a comprehension: its list stands at the number k while it is made -/
noncomputable def compL (src : D) (all : List D) (tg : Tg) (v : Env) (k : Nat) (c e : Env → Store → Option (D × Store)) : List D → Store → Option Store
  | [], S => if stays src all S then some S else none
  | d :: r, S => if stays src all S then (bindT tg d v).bind fun v' => (c v' S).bind fun (b, S1) => match b with
      | .bl true => (e v' S1).bind fun (x, S2) => match S2[k]? with
        | some (.lst acc) => if acc.length < lenLine then compL src all tg v k c e r (S2.set k (.lst (acc ++ [x]))) else none
        | _ => none
      | .bl false => compL src all tg v k c e r S1
      | _ => none
    else none
open Classical in
/-- what was made since is let go, where nothing that stays hangs on it -/
noncomputable def gc (S : Store) (d : D) (S' : Store) : Option (D × Store) :=
  if S.length ≤ S'.length ∧ clo S.length (fz S' S.length fuelD d) = true ∧ (∀ i, i < S.length → S'[i]? = S[i]? ∨ ∃ o, S'[i]? = some o ∧ cloO S.length o = true) then
    some (fz S' S.length fuelD d, S'.take S.length) else none
/-- a range's borders: with an answer that no reckoning by the kernel goes into -/
def rngOk (b : Int) : Prop := b < 2 ^ 62 ∧ -(2 ^ 62) ≤ b
def rngOk2 (a b : Int) : Prop := -(2 ^ 62) ≤ a ∧ a < 2 ^ 62 ∧ b < 2 ^ 62 ∧ -(2 ^ 62) ≤ b
def rngOk3 (a b c : Int) : Prop := c = -1 ∧ -(2 ^ 62) ≤ a ∧ a < 2 ^ 62 ∧ b < 2 ^ 62 ∧ -(2 ^ 62) ≤ b
noncomputable instance (b : Int) : Decidable (rngOk b) := Classical.propDecidable _
noncomputable instance (a b : Int) : Decidable (rngOk2 a b) := Classical.propDecidable _
noncomputable instance (a b c : Int) : Decidable (rngOk3 a b c) := Classical.propDecidable _
noncomputable def rngL : List D → Option (List D)
  | [.int b] => if rngOk b then some ((List.range b.toNat).map fun i => .int (i : Nat)) else none
  | [.int a, .int b] => if rngOk2 a b then some ((List.range (b - a).toNat).map fun i => .int (a + (i : Nat))) else none
  | [.int a, .int b, .int c] => if rngOk3 a b c then some ((List.range (a - b).toNat).map fun i => .int (a - (i : Nat))) else none
  | _ => none
def stay1 : D → Bool
  | .tup _ => true
  | .lv _ => true
  | .scr _ => true
  | _ => false
def isTupD : D → Bool
  | .tup _ => true
  | _ => false
def stayL : D → Bool
  | .lv _ => true
  | .scr _ => true
  | _ => false
def pairs (a b : List D) : List D := (a.zip b).map fun (x, y) => .tup [x, y]
def enuL (l : List D) : List D := ((List.range l.length).zip l).map fun (i, x) => .tup [.int (i : Nat), x]
def permD (perm : List Nat) (l : List D) : Option (List D) := perm.mapM fun i => l[i]?

noncomputable def evalE (T : Nat → Fn) : IE → Env → Store → Option (D × Store)
  | .var i, v, S => match v[i]? with
    | some (some d) => some (d, S)
    | _ => none
  | .int z, _, S => some (.int z, S)
  | .bl b, _, S => some (.bl b, S)
  | .non, _, S => some (.non, S)
  | .str s, _, S => some (.str s, S)
  | .bin m o a b, v, S => (evalE T a v S).bind fun (x, S1) => (evalE T b v S1).bind fun (y, S2) => (binD S2 o x y).map fun d => alloc m d S2
  | .neg a, v, S => (evalE T a v S).bind fun (x, S1) => match x with
    | .int i => some (.int (-i), S1)
    | _ => none
  | .cmp o a b, v, S => (evalE T a v S).bind fun (x, S1) => (evalE T b v S1).bind fun (y, S2) => (cmpD S2 o x y).map fun k => (.bl k, S2)
  | .chain o o' a b c, v, S => (evalE T a v S).bind fun (x, S1) => (evalE T b v S1).bind fun (y, S2) => (cmpD S2 o x y).bind fun k =>
    if k then (evalE T c v S2).bind fun (z, S3) => (cmpD S3 o' y z).map fun k' => (.bl k', S3) else some (.bl false, S2)
  | .and a b, v, S => (evalE T a v S).bind fun (x, S1) => match x with
    | .bl true => evalE T b v S1
    | .bl false => some (.bl false, S1)
    | _ => none
  | .or a b, v, S => (evalE T a v S).bind fun (x, S1) => match x with
    | .bl false => evalE T b v S1
    | .bl true => some (.bl true, S1)
    | _ => none
  | .not a, v, S => (evalE T a v S).bind fun (x, S1) => match x with
    | .bl k => some (.bl (!k), S1)
    | _ => none
  | .ite c a b, v, S => (evalE T c v S).bind fun (x, S1) => match x with
    | .bl true => evalE T a v S1
    | .bl false => evalE T b v S1
    | _ => none
  | .tup as, v, S => evalE T as v S
  | .lst m as, v, S => (evalE T as v S).bind fun (x, S1) => match x with
    | .tup l => some (alloc m (.lv l) S1)
    | _ => none
  | .idx a i, v, S => (evalE T a v S).bind fun (x, S1) => (evalE T i v S1).bind fun (y, S2) => (idxD S2 x y).map fun d => (d, S2)
  | .sl m a lo hi, v, S => (evalE T a v S).bind fun (x, S1) => (evalE T lo v S1).bind fun (y, S2) => (partD (isNon lo) y).bind fun l => (evalE T hi v S2).bind fun (z, S3) => (partD (isNon hi) z).bind fun h =>
    (slI S3 x l h).map fun d => alloc m d S3
  | .call f as, v, S => (evalE T as v S).bind fun (x, S1) => match x with
    | .tup l => T f l S1
    | _ => none
  | .callk f perm as ks, v, S => (evalE T as v S).bind fun (x, S1) => (evalE T ks v S1).bind fun (y, S2) => match x, y with
    | .tup l, .tup q => (permD perm (l ++ q)).bind fun l' => T f l' S2
    | _, _ => none
  | .blt m b as, v, S => (evalE T as v S).bind fun (x, S1) => match x with
    | .tup l => (bltD S1 b l).map fun d => alloc m d S1
    | _ => none
  | .isi t a, v, S => (evalE T a v S).map fun (x, S1) => (.bl (kindIs t x), S1)
  | .lrev m a, v, S => (evalE T a v S).bind fun (x, S1) => (lstOf S1 x).map fun l => alloc m (.lv l.reverse) S1
  | .app a x, v, S => (evalE T a v S).bind fun (y, S1) => if isL S1 y then (evalE T x v S1).bind fun (d, S2) => appS y d S2 else none
  | .ext a x, v, S => (evalE T a v S).bind fun (y, S1) => if isL S1 y then (evalE T x v S1).bind fun (d, S2) => extS y d S2 else none
  | .pop a, v, S => (evalE T a v S).bind fun (y, S1) => popS y S1
  | .popAt a i, v, S => (evalE T a v S).bind fun (y, S1) => if isL S1 y then (evalE T i v S1).bind fun (k, S2) => popAtS y k S2 else none
  | .comp m own it tg c e, v, S => (evalE T it v S).bind fun (src, S1) => (itemsOf S1 src).bind fun l => if l.length ≤ lenLine then
      (compL src l tg (wipeE v own) S1.length (evalE T c) (evalE T e) l (S1 ++ [.lst []])).bind fun S2 => if m then some (.ref S1.length, S2) else gc S1 (.ref S1.length) S2
    else none
  | .stk, _, _ => none
  | .no, _, S => some (.bl true, S)
  | .nil, _, S => some (.tup [], S)
  | .cons a r, v, S => (evalE T a v S).bind fun (x, S1) => (evalE T r v S1).bind fun (y, S2) => match y with
    | .tup l => if l.length < lenLine then some (.tup (x :: l), S2) else none
    | _ => none
  | .itv a, v, S => evalE T a v S
  | .rng as, v, S => (evalE T as v S).bind fun (x, S1) => match x with
    | .tup l => (rngL l).map fun r => (.tup r, S1)
    | _ => none
  | .enu a, v, S => (evalE T a v S).bind fun (x, S1) => if stayL x then (seqOf S1 x).map fun l => (.tup (enuL l), S1) else none
  | .zip a b, v, S => (evalE T a v S).bind fun (x, S1) => (evalE T b v S1).bind fun (y, S2) => if stay1 x && stay1 y && (isTupD x == isTupD y) then
      (seqOf S2 x).bind fun l => (seqOf S2 y).map fun q => (.tup (pairs l q), S2) else none
  | .rev a, v, S => (evalE T a v S).bind fun (x, S1) => if stay1 x then (seqOf S1 x).map fun l => (.tup l.reverse, S1) else none

abbrev Run := Env → Store → Option (Fl × Env × Store)
open Classical in
noncomputable def forL (body : Run) (src : D) (all : List D) (tg : Tg) (w : List Nat) : List D → Run
  | [], v, S => if stays src all S then some (.nx, v, S) else none
  | d :: r, v, S => if stays src all S then (bindT tg d v).bind fun v1 => (body v1 S).bind fun (f, v2, S2) => match f with
      | .nx => forL body src all tg w r (wipeE v2 w) S2
      | .ct => forL body src all tg w r (wipeE v2 w) S2
      | .bk => some (.nx, wipeE v2 w, S2)
      | .rt x => some (.rt x, v2, S2)
    else none
def whlL (c : Env → Store → Option (D × Store)) (body : Run) (w : List Nat) : Nat → Run
  | 0, _, _ => none
  | k + 1, v, S => (c v S).bind fun (b, S1) => match b with
    | .bl false => some (.nx, v, S1)
    | .bl true => (body v S1).bind fun (f, v2, S2) => match f with
      | .nx => whlL c body w k (wipeE v2 w) S2
      | .ct => whlL c body w k (wipeE v2 w) S2
      | .bk => some (.nx, wipeE v2 w, S2)
      | .rt x => some (.rt x, v2, S2)
    | _ => none
/-- o[i] = x -/
def setS (o i x : D) (S : Store) : Option Store := match o, i with
  | .ref n, .int k => match S[n]? with
    | some (.lst l) => (ixN l.length k).map fun j => S.set n (.lst (l.set j x))
    | _ => none
  | _, _ => none
/-- o[i], p[j], .. = x, y, ..: the targets' parts reckoned one behind another -/
noncomputable def sixL (T : Nat → Fn) (v : Env) : IE → IE → List D → Store → Option Store
  | .nil, .nil, [], S => some S
  | .cons o os, .cons i is, x :: l, S => (evalE T o v S).bind fun (a, S1) => (evalE T i v S1).bind fun (k, S2) => (setS a k x S2).bind fun S3 => sixL T v os is l S3
  | _, _, _, _ => none

noncomputable def evalS (T : Nat → Fn) : IS → Run
  | .stk, _, _ => none
  | .skip, v, S => some (.nx, v, S)
  | .seq a b, v, S => (evalS T a v S).bind fun (f, v1, S1) => match f with
    | .nx => evalS T b v1 S1
    | f => some (f, v1, S1)
  | .set i e, v, S => (evalE T e v S).map fun (x, S1) => (.nx, v.set i (some x), S1)
  | .setc i e, v, S => (evalE T e v S).map fun (x, S1) => (.nx, v.set i (some x), S1)
  | .par is as, v, S => (evalE T as v S).bind fun (x, S1) => match x with
    | .tup l => (bindN is l v).map fun v' => (.nx, v', S1)
    | _ => none
  | .tgs t e, v, S => (evalE T e v S).bind fun (x, S1) => (bindT t x v).map fun v' => (.nx, v', S1)
  | .six o i e, v, S => (evalE T e v S).bind fun (x, S1) => (evalE T o v S1).bind fun (a, S2) => (evalE T i v S2).bind fun (k, S3) => (setS a k x S3).map fun S4 => (.nx, v, S4)
  | .sixs os is as, v, S => (evalE T as v S).bind fun (x, S1) => match x with
    | .tup l => (sixL T v os is l S1).map fun S2 => (.nx, v, S2)
    | _ => none
  | .ex e, v, S => (evalE T e v S).map fun (_, S1) => (.nx, v, S1)
  | .ret e, v, S => (evalE T e v S).map fun (x, S1) => (.rt x, v, S1)
  | .ite c a b, v, S => (evalE T c v S).bind fun (x, S1) => match x with
    | .bl true => evalS T a v S1
    | .bl false => evalS T b v S1
    | _ => none
  | .whl k w c b, v, S => whlL (evalE T c) (evalS T b) w k (wipeE v w) S
  | .for_ w t it b, v, S => (evalE T it v S).bind fun (src, S1) => (itemsOf S1 src).bind fun l => forL (evalS T b) src l t w l (wipeE v w) S1
  | .brk, v, S => some (.bk, v, S)
  | .cont, v, S => some (.ct, v, S)

noncomputable def runD (T : Nat → Fn) (np ns : Nat) (keep : Bool) (b : IS) : Fn := fun args S =>
  if args.length = np then (evalS T b (args.map some ++ List.replicate (ns - np) none) S).bind fun (f, _, S') => match f with
    | .nx => if keep then some (.non, S') else gc S .non S'
    | .rt d => if keep then some (d, S') else gc S d S'
    | _ => none
  else none
/-- the defs by number -/
noncomputable def tb (l : List Fn) : Nat → Fn := fun k => match l[k]? with
  | some f => f
  | none => fun _ _ => none
end Eng
/-! EngB1: how values of the small language stand in the layer's heap. -/
namespace Eng
open PySem L2
variable {K : PySem.W.Frag}

mutual
def RepV (K : PySem.W.Frag) (ρ : List Addr) (H : Hp) : D → V → Prop
  | .non, v => v = .non
  | .bl b, v => v = .bl b
  | .int i, v => v = .int i
  | .str s, v => v = .str s
  | .tup l, v => ∃ a xs, v = .ref a ∧ H a = some (.tup xs) ∧ RepL K ρ H l xs
  | .lv l, v => ∃ a xs, v = .ref a ∧ a ∉ ρ ∧ H a = some (.lst xs) ∧ RepL K ρ H l xs
  | .scr l, v => ∃ a, v = .ref a ∧ ((∃ o, H a = some (.frz o (.lst (l.map V.int)))) ∨ SqL K (fun _ => none) a (l.map V.int))
  | .ref n, v => ∃ a, v = .ref a ∧ ρ[n]? = some a
def RepL (K : PySem.W.Frag) (ρ : List Addr) (H : Hp) : List D → List V → Prop
  | [], xs => xs = []
  | d :: l, xs => ∃ y ys, xs = y :: ys ∧ RepV K ρ H d y ∧ RepL K ρ H l ys
end
structure Ext (ρ : List Addr) (H : Hp) (ρ' : List Addr) (H' : Hp) : Prop where
  pre : ∃ t, ρ' = ρ ++ t
  keep : ∀ a o, H a = some o → a ∉ ρ → H' a = some o ∧ a ∉ ρ'
  tups : ∀ a xs, H a = some (.tup xs) → H' a = some (.tup xs)
  frzs : ∀ a o u, H a = some (.frz o u) → H' a = some (.frz o u)
def RepO (K : PySem.W.Frag) (ρ : List Addr) (H : Hp) : O → Addr → Prop
  | .lst l, a => ∃ xs, H a = some (.lst xs) ∧ RepL K ρ H l xs
  | .dic l, a => ∃ kvs, H a = some (.dK kvs) ∧ RepL K ρ H (l.map (·.1)) (kvs.map fun p => kV p.1) ∧ RepL K ρ H (l.map (·.2)) (kvs.map (·.2))
structure RepS (K : PySem.W.Frag) (ρ : List Addr) (H : Hp) (S : Store) : Prop where
  len : ρ.length = S.length
  nd : ρ.Nodup
  obj : ∀ (n : Nat) (o : O) (a : Addr), S[n]? = some o → ρ[n]? = some a → RepO K ρ H o a
structure RepE (K : PySem.W.Frag) (ρ : List Addr) (H : Hp) (v : Env) (σ : L2.St) : Prop where
  len : v.length = σ.length
  get : ∀ (i : Nat) (d : D), v[i]? = some (some d) → ∃ y, σ[i]? = some (some y) ∧ RepV K ρ H d y

theorem Ext.refl (ρ : List Addr) (H : Hp) : Ext ρ H ρ H := ⟨⟨[], by simp⟩, fun _ _ e n => ⟨e, n⟩, fun _ _ e => e, fun _ _ _ e => e⟩
theorem Ext.trans {ρ ρ1 ρ2 : List Addr} {H H1 H2 : Hp} (a : Ext ρ H ρ1 H1) (b : Ext ρ1 H1 ρ2 H2) : Ext ρ H ρ2 H2 := by
  obtain ⟨t, e⟩ := a.pre
  obtain ⟨t', e'⟩ := b.pre
  refine ⟨⟨t ++ t', by rw [e', e, List.append_assoc]⟩, fun x o h n => ?_, fun x xs h => b.tups x xs (a.tups x xs h), fun x o u h => b.frzs x o u (a.frzs x o u h)⟩
  obtain ⟨h1, n1⟩ := a.keep x o h n
  exact b.keep x o h1 n1
theorem sqL_none {H : Hp} {a : Addr} {xs : List V} (h : SqL K (fun _ => none) a xs) : SqL K H a xs := by
  rcases h with h | h
  · rcases h with h | ⟨o, h⟩ <;> cases h
  · exact .inr h
theorem get_pre {ρ t : List Addr} {n : Nat} {a : Addr} (h : ρ[n]? = some a) : (ρ ++ t)[n]? = some a := by
  rw [List.getElem?_append_left (List.getElem?_eq_some_iff.mp h).1]
  exact h
mutual
theorem RepV.mono {ρ ρ' : List Addr} {H H' : Hp} (e : Ext ρ H ρ' H') : ∀ (d : D) (v : V), RepV K ρ H d v → RepV K ρ' H' d v
  | .non, v, h => by simpa only [RepV] using h
  | .bl b, v, h => by simpa only [RepV] using h
  | .int i, v, h => by simpa only [RepV] using h
  | .str s, v, h => by simpa only [RepV] using h
  | .tup l, v, h => by
    simp only [RepV] at h ⊢
    obtain ⟨a, xs, h1, h2, h3⟩ := h
    exact ⟨a, xs, h1, e.tups a xs h2, RepL.mono e l xs h3⟩
  | .lv l, v, h => by
    simp only [RepV] at h ⊢
    obtain ⟨a, xs, h1, h2, h3, h4⟩ := h
    obtain ⟨k1, k2⟩ := e.keep a _ h3 h2
    exact ⟨a, xs, h1, k2, k1, RepL.mono e l xs h4⟩
  | .scr l, v, h => by
    simp only [RepV] at h ⊢
    obtain ⟨a, h1, h2⟩ := h
    refine ⟨a, h1, ?_⟩
    rcases h2 with ⟨o, h2⟩ | h2
    · exact .inl ⟨o, e.frzs _ _ _ h2⟩
    · exact .inr h2
  | .ref n, v, h => by
    simp only [RepV] at h ⊢
    obtain ⟨a, h1, h2⟩ := h
    obtain ⟨t, q⟩ := e.pre
    exact ⟨a, h1, by rw [q]; exact get_pre h2⟩
theorem RepL.mono {ρ ρ' : List Addr} {H H' : Hp} (e : Ext ρ H ρ' H') : ∀ (l : List D) (xs : List V), RepL K ρ H l xs → RepL K ρ' H' l xs
  | [], xs, h => by simpa only [RepL] using h
  | d :: l, xs, h => by
    simp only [RepL] at h ⊢
    obtain ⟨y, ys, h1, h2, h3⟩ := h
    exact ⟨y, ys, h1, RepV.mono e d y h2, RepL.mono e l ys h3⟩
end
theorem RepE.mono {ρ ρ' : List Addr} {H H' : Hp} {v : Env} {σ : L2.St} (e : Ext ρ H ρ' H') (h : RepE K ρ H v σ) : RepE K ρ' H' v σ :=
  ⟨h.len, fun i d q => let ⟨y, a, b⟩ := h.get i d q; ⟨y, a, RepV.mono e d y b⟩⟩
theorem RepL.length {ρ : List Addr} {H : Hp} : ∀ {l : List D} {xs : List V}, RepL K ρ H l xs → l.length = xs.length
  | [], xs, h => by simp only [RepL] at h; subst h; rfl
  | d :: l, xs, h => by
    simp only [RepL] at h
    obtain ⟨y, ys, rfl, _, h3⟩ := h
    simp [RepL.length h3]
theorem RepL.get {ρ : List Addr} {H : Hp} : ∀ {l : List D} {xs : List V} {i : Nat} {d : D}, RepL K ρ H l xs → l[i]? = some d → ∃ y, xs[i]? = some y ∧ RepV K ρ H d y
  | [], xs, i, d, h, e => by simp at e
  | x :: l, xs, 0, d, h, e => by
    simp only [RepL] at h
    obtain ⟨y, ys, rfl, h2, h3⟩ := h
    simp at e
    subst e
    exact ⟨y, by simp, h2⟩
  | x :: l, xs, i + 1, d, h, e => by
    simp only [RepL] at h
    obtain ⟨y, ys, rfl, h2, h3⟩ := h
    have e' : l[i]? = some d := by simpa using e
    obtain ⟨z, a, b⟩ := RepL.get h3 e'
    exact ⟨z, by simpa using a, b⟩
theorem RepL.append {ρ : List Addr} {H : Hp} : ∀ {l q : List D} {xs ys : List V}, RepL K ρ H l xs → RepL K ρ H q ys → RepL K ρ H (l ++ q) (xs ++ ys)
  | [], q, xs, ys, h, g => by simp only [RepL] at h; subst h; exact g
  | d :: l, q, xs, ys, h, g => by
    simp only [RepL] at h
    obtain ⟨y, zs, rfl, h2, h3⟩ := h
    simp only [List.cons_append, RepL]
    exact ⟨y, zs ++ ys, rfl, h2, RepL.append h3 g⟩
theorem RepL.one {ρ : List Addr} {H : Hp} {d : D} {y : V} (h : RepV K ρ H d y) : RepL K ρ H [d] [y] := by
  simp only [RepL]
  exact ⟨y, [], rfl, h, rfl⟩
theorem RepL.take {ρ : List Addr} {H : Hp} : ∀ {l : List D} {xs : List V} (n : Nat), RepL K ρ H l xs → RepL K ρ H (l.take n) (xs.take n)
  | [], xs, n, h => by simp only [RepL] at h; subst h; simp [RepL]
  | d :: l, xs, 0, h => by simp [RepL]
  | d :: l, xs, n + 1, h => by
    simp only [RepL] at h
    obtain ⟨y, zs, rfl, h2, h3⟩ := h
    simp only [List.take_succ_cons, RepL]
    exact ⟨y, zs.take n, rfl, h2, RepL.take n h3⟩
theorem RepL.drop {ρ : List Addr} {H : Hp} : ∀ {l : List D} {xs : List V} (n : Nat), RepL K ρ H l xs → RepL K ρ H (l.drop n) (xs.drop n)
  | [], xs, n, h => by simp only [RepL] at h; subst h; simp [RepL]
  | d :: l, xs, 0, h => by simpa using h
  | d :: l, xs, n + 1, h => by
    simp only [RepL] at h
    obtain ⟨y, zs, rfl, h2, h3⟩ := h
    simpa using RepL.drop n h3
theorem RepL.reverse {ρ : List Addr} {H : Hp} : ∀ {l : List D} {xs : List V}, RepL K ρ H l xs → RepL K ρ H l.reverse xs.reverse
  | [], xs, h => by simp only [RepL] at h; subst h; simp [RepL]
  | d :: l, xs, h => by
    simp only [RepL] at h
    obtain ⟨y, zs, rfl, h2, h3⟩ := h
    rw [List.reverse_cons, List.reverse_cons]
    exact RepL.append (RepL.reverse h3) (RepL.one h2)
theorem RepL.set {ρ : List Addr} {H : Hp} {d : D} {y : V} (hd : RepV K ρ H d y) : ∀ {l : List D} {xs : List V} (n : Nat), RepL K ρ H l xs → RepL K ρ H (l.set n d) (xs.set n y)
  | [], xs, n, h => by simp only [RepL] at h; subst h; simp [RepL]
  | x :: l, xs, 0, h => by
    simp only [RepL] at h
    obtain ⟨z, zs, rfl, h2, h3⟩ := h
    simp only [List.set_cons_zero, RepL]
    exact ⟨y, zs, rfl, hd, h3⟩
  | x :: l, xs, n + 1, h => by
    simp only [RepL] at h
    obtain ⟨z, zs, rfl, h2, h3⟩ := h
    simp only [List.set_cons_succ, RepL]
    exact ⟨z, zs.set n y, rfl, h2, RepL.set hd n h3⟩
theorem RepL.eraseIdx {ρ : List Addr} {H : Hp} : ∀ {l : List D} {xs : List V} (n : Nat), RepL K ρ H l xs → RepL K ρ H (l.eraseIdx n) (xs.eraseIdx n)
  | [], xs, n, h => by simp only [RepL] at h; subst h; simp [RepL]
  | x :: l, xs, 0, h => by
    simp only [RepL] at h
    obtain ⟨z, zs, rfl, h2, h3⟩ := h
    simpa using h3
  | x :: l, xs, n + 1, h => by
    simp only [RepL] at h
    obtain ⟨z, zs, rfl, h2, h3⟩ := h
    simp only [List.eraseIdx_cons_succ, RepL]
    exact ⟨z, zs.eraseIdx n, rfl, h2, RepL.eraseIdx n h3⟩
theorem RepL.rep {ρ : List Addr} {H : Hp} {l : List D} {xs : List V} (h : RepL K ρ H l xs) : ∀ k : Nat, RepL K ρ H (repL l k) (repL xs k)
  | 0 => by simp [repL, RepL]
  | k + 1 => by
    unfold repL
    rw [List.replicate_succ, List.flatten_cons, List.replicate_succ, List.flatten_cons]
    exact h.append (RepL.rep h k)
theorem RepL.ints {ρ : List Addr} {H : Hp} : ∀ {l : List D} {ns : List Int} {xs : List V}, RepL K ρ H l xs → intsOf l = some ns → xs = ns.map V.int
  | [], ns, xs, h, e => by
    simp only [RepL] at h
    simp only [intsOf, Option.some.injEq] at e
    subst h e
    rfl
  | d :: l, ns, xs, h, e => by
    simp only [RepL] at h
    obtain ⟨y, ys, rfl, h2, h3⟩ := h
    cases d with
    | int i =>
      simp only [intsOf] at e
      cases q : intsOf l with
      | none => rw [q] at e; cases e
      | some ms =>
        rw [q] at e
        simp only [Option.map_some, Option.some.injEq] at e
        subst e
        simp only [RepV] at h2
        subst h2
        rw [RepL.ints h3 q]
        rfl
    | _ => simp only [intsOf, reduceCtorEq] at e
theorem RepL.bls {ρ : List Addr} {H : Hp} : ∀ {l : List D} {ns : List Bool} {xs : List V}, RepL K ρ H l xs → blsOf l = some ns → xs = ns.map V.bl
  | [], ns, xs, h, e => by
    simp only [RepL] at h
    simp only [blsOf, Option.some.injEq] at e
    subst h e
    rfl
  | d :: l, ns, xs, h, e => by
    simp only [RepL] at h
    obtain ⟨y, ys, rfl, h2, h3⟩ := h
    cases d with
    | bl i =>
      simp only [blsOf] at e
      cases q : blsOf l with
      | none => rw [q] at e; cases e
      | some ms =>
        rw [q] at e
        simp only [Option.map_some, Option.some.injEq] at e
        subst e
        simp only [RepV] at h2
        subst h2
        rw [RepL.bls h3 q]
        rfl
    | _ => simp only [blsOf, reduceCtorEq] at e
theorem RepL.scrI {ρ : List Addr} {H : Hp} : ∀ (l : List Int), RepL K ρ H (l.map .int) (l.map V.int)
  | [] => by simp [RepL]
  | i :: l => by
    simp only [List.map_cons, RepL]
    exact ⟨_, _, rfl, by simp [RepV], RepL.scrI l⟩
/-! ### what stands at a number -/
theorem RepS.at {ρ : List Addr} {H : Hp} {S : Store} (R : RepS K ρ H S) {n : Nat} {a : Addr} (h : ρ[n]? = some a) : ∃ o, S[n]? = some o ∧ RepO K ρ H o a := by
  have hn : n < S.length := by rw [← R.len]; exact (List.getElem?_eq_some_iff.mp h).1
  exact ⟨S[n], List.getElem?_eq_getElem hn, R.obj n _ a (List.getElem?_eq_getElem hn) h⟩
theorem RepS.some {ρ : List Addr} {H : Hp} {S : Store} (R : RepS K ρ H S) {a : Addr} (h : a ∈ ρ) : ∃ o, H a = some o ∧ ((∃ xs, o = .lst xs) ∨ ∃ kvs, o = .dK kvs) := by
  obtain ⟨n, hn⟩ := List.getElem?_of_mem h
  obtain ⟨o, _, q⟩ := R.at hn
  cases o with
  | lst l =>
    obtain ⟨xs, e, _⟩ := q
    exact ⟨_, e, .inl ⟨xs, rfl⟩⟩
  | dic l =>
    obtain ⟨kvs, e, _⟩ := q
    exact ⟨_, e, .inr ⟨kvs, rfl⟩⟩
theorem RepS.fresh {ρ : List Addr} {H : Hp} {S : Store} (R : RepS K ρ H S) {p : Addr} (h : H p = none) : p ∉ ρ := fun hp => by
  obtain ⟨o, e, _⟩ := R.some hp
  rw [h] at e
  cases e
/-- a list that may change or not: where it stands -/
theorem RepV.lst {ρ : List Addr} {H : Hp} {S : Store} (R : RepS K ρ H S) {d : D} {v : V} {l : List D} (h : RepV K ρ H d v) (e : lstOf S d = some l) : ∃ a xs, v = .ref a ∧ H a = some (.lst xs) ∧ RepL K ρ H l xs := by
  cases d with
  | lv q =>
    simp only [lstOf, Option.some.injEq] at e
    subst e
    simp only [RepV] at h
    obtain ⟨a, xs, h1, _, h3, h4⟩ := h
    exact ⟨a, xs, h1, h3, h4⟩
  | ref n =>
    simp only [RepV] at h
    obtain ⟨a, h1, h2⟩ := h
    obtain ⟨o, ho, q⟩ := R.at h2
    simp only [lstOf, ho] at e
    cases o with
    | lst l' =>
      simp only [Option.some.injEq] at e
      subst e
      obtain ⟨xs, h3, h4⟩ := q
      exact ⟨a, xs, h1, h3, h4⟩
    | dic _ => simp at e
  | _ => simp only [lstOf, reduceCtorEq] at e
theorem RepV.seq {ρ : List Addr} {H : Hp} {S : Store} (R : RepS K ρ H S) {d : D} {v : V} {l : List D} (h : RepV K ρ H d v) (e : seqOf S d = some l) : ∃ a xs, v = .ref a ∧ (SqL K H a xs ∨ SqT K H a xs) ∧ RepL K ρ H l xs := by
  cases d with
  | tup q =>
    simp only [seqOf, Option.some.injEq] at e
    subst e
    simp only [RepV] at h
    obtain ⟨a, xs, h1, h3, h4⟩ := h
    exact ⟨a, xs, h1, .inr (SqT.of h3), h4⟩
  | scr q =>
    simp only [seqOf, Option.some.injEq] at e
    subst e
    simp only [RepV] at h
    obtain ⟨a, h1, h2⟩ := h
    refine ⟨a, _, h1, .inl ?_, RepL.scrI q⟩
    rcases h2 with ⟨o, h2⟩ | h2
    · exact .inl (.inr ⟨o, h2⟩)
    · exact sqL_none h2
  | lv q =>
    obtain ⟨a, xs, h1, h2, h3⟩ := RepV.lst R (d := .lv q) h (by simpa only [seqOf] using e)
    exact ⟨a, xs, h1, .inl (SqL.of h2), h3⟩
  | ref n =>
    obtain ⟨a, xs, h1, h2, h3⟩ := RepV.lst R (d := .ref n) h (by simpa only [seqOf] using e)
    exact ⟨a, xs, h1, .inl (SqL.of h2), h3⟩
  | _ => simp only [seqOf, lstOf, reduceCtorEq] at e

/-! ### a new thing -/
theorem Ext.upd {ρ : List Addr} {H : Hp} {p : Addr} {o : HO} (hp : H p = none) : Ext ρ H ρ (L2.upd H p o) := by
  have k : ∀ a u, H a = some u → (L2.upd H p o) a = some u := fun a u e => by rw [upd_ne (ne_of_none e hp)]; exact e
  exact ⟨⟨[], by simp⟩, fun a u e n => ⟨k a u e, n⟩, fun a xs e => k a _ e, fun a u x e => k a _ e⟩
theorem Ext.snoc {ρ : List Addr} {H : Hp} {p : Addr} {o : HO} (hp : H p = none) : Ext ρ H (ρ ++ [p]) (L2.upd H p o) := by
  have k : ∀ a u, H a = some u → (L2.upd H p o) a = some u := fun a u e => by rw [upd_ne (ne_of_none e hp)]; exact e
  refine ⟨⟨[p], rfl⟩, fun a u e n => ⟨k a u e, fun hm => ?_⟩, fun a xs e => k a _ e, fun a u x e => k a _ e⟩
  rcases List.mem_append.mp hm with z | z
  · exact n z
  · have : a = p := by simpa using z
    exact ne_of_none e hp this
theorem RepO.mono {ρ ρ' : List Addr} {H H' : Hp} (e : Ext ρ H ρ' H') {o : O} {a : Addr} (same : H' a = H a) (h : RepO K ρ H o a) : RepO K ρ' H' o a := by
  cases o with
  | lst l =>
    obtain ⟨xs, h1, h2⟩ := h
    exact ⟨xs, by rw [same]; exact h1, RepL.mono e l xs h2⟩
  | dic l =>
    obtain ⟨kvs, h1, h2, h3⟩ := h
    exact ⟨kvs, by rw [same]; exact h1, RepL.mono e _ _ h2, RepL.mono e _ _ h3⟩
/-- the numbers' things untouched -/
theorem RepS.mono {ρ : List Addr} {H H' : Hp} {S : Store} (e : Ext ρ H ρ H') (same : ∀ a ∈ ρ, H' a = H a) (R : RepS K ρ H S) : RepS K ρ H' S :=
  ⟨R.len, R.nd, fun n o a h1 h2 => (R.obj n o a h1 h2).mono e (same a (List.mem_of_getElem? h2))⟩
theorem RepS.upd {ρ : List Addr} {H : Hp} {S : Store} {p : Addr} {o : HO} (hp : H p = none) (R : RepS K ρ H S) : RepS K ρ (L2.upd H p o) S :=
  R.mono (Ext.upd hp) fun a ha => upd_ne fun z => R.fresh hp (z ▸ ha)
theorem rep_tup {ρ : List Addr} {H : Hp} {S : Store} {p : Addr} {l : List D} {xs : List V} (hp : H p = none) (R : RepS K ρ H S) (r : RepL K ρ H l xs) :
    Ext ρ H ρ (L2.upd H p (.tup xs)) ∧ RepS K ρ (L2.upd H p (.tup xs)) S ∧ RepV K ρ (L2.upd H p (.tup xs)) (.tup l) (.ref p) := by
  refine ⟨Ext.upd hp, R.upd hp, ?_⟩
  simp only [RepV]
  exact ⟨p, xs, rfl, upd_same, RepL.mono (Ext.upd hp) l xs r⟩
theorem rep_lst {ρ : List Addr} {H : Hp} {S : Store} {p : Addr} {l : List D} {xs : List V} (m : Bool) (hp : H p = none) (R : RepS K ρ H S) (r : RepL K ρ H l xs) :
    ∃ ρ', Ext ρ H ρ' (L2.upd H p (.lst xs)) ∧ RepS K ρ' (L2.upd H p (.lst xs)) (alloc m (.lv l) S).2 ∧ RepV K ρ' (L2.upd H p (.lst xs)) (alloc m (.lv l) S).1 (.ref p) := by
  cases m with
  | false =>
    refine ⟨ρ, Ext.upd hp, R.upd hp, ?_⟩
    show RepV K ρ (L2.upd H p (.lst xs)) (.lv l) (.ref p)
    simp only [RepV]
    exact ⟨p, xs, rfl, R.fresh hp, upd_same, RepL.mono (Ext.upd hp) l xs r⟩
  | true =>
    have E : Ext ρ H (ρ ++ [p]) (L2.upd H p (.lst xs)) := Ext.snoc hp
    refine ⟨ρ ++ [p], E, ?_, ?_⟩
    · show RepS K (ρ ++ [p]) (L2.upd H p (.lst xs)) (S ++ [.lst l])
      refine ⟨by simp [R.len], ?_, fun n o a h1 h2 => ?_⟩
      · rw [List.nodup_append]
        refine ⟨R.nd, by simp, fun x hx y hy => ?_⟩
        have : y = p := by simpa using hy
        subst this
        exact fun z => R.fresh hp (z ▸ hx)
      · by_cases hn : n < S.length
        · rw [List.getElem?_append_left hn] at h1
          rw [List.getElem?_append_left (by rw [R.len]; exact hn)] at h2
          exact (R.obj n o a h1 h2).mono E (upd_ne fun z => R.fresh hp (z ▸ List.mem_of_getElem? h2))
        · have e : n = S.length := by
            have := (List.getElem?_eq_some_iff.mp h1).1
            simp at this
            omega
          subst e
          simp at h1
          rw [← R.len] at h2
          simp at h2
          subst h1 h2
          exact ⟨xs, upd_same, RepL.mono E l xs r⟩
    · show RepV K (ρ ++ [p]) (L2.upd H p (.lst xs)) (.ref S.length) (.ref p)
      simp only [RepV]
      exact ⟨p, rfl, by rw [← R.len]; simp⟩
/-- a thing by its number written -/
theorem rep_set {ρ : List Addr} {H : Hp} {S : Store} {a : Addr} {n : Nat} {l : List D} {xs ys : List V} (R : RepS K ρ H S) (hn : ρ[n]? = some a) (ha : H a = some (.lst xs)) (r : RepL K ρ H l ys) :
    Ext ρ H ρ (L2.upd H a (.lst ys)) ∧ RepS K ρ (L2.upd H a (.lst ys)) (S.set n (.lst l)) := by
  have hm := List.mem_of_getElem? hn
  have E : Ext ρ H ρ (L2.upd H a (.lst ys)) := by
    refine ⟨⟨[], by simp⟩, fun b o e nb => ⟨?_, nb⟩, fun b zs e => ?_, fun b o u e => ?_⟩
    · rw [upd_ne fun z => nb (by rw [z]; exact hm)]; exact e
    · rw [upd_ne fun z => ?_]; exact e
      rw [z, ha] at e; cases e
    · rw [upd_ne fun z => ?_]; exact e
      rw [z, ha] at e; cases e
  refine ⟨E, by simp [R.len], R.nd, fun k o b h1 h2 => ?_⟩
  by_cases hk : k = n
  · subst hk
    rw [hn] at h2
    cases h2
    have hlt : k < S.length := by
      have := (List.getElem?_eq_some_iff.mp h1).1
      simpa using this
    rw [List.getElem?_set_self hlt] at h1
    cases h1
    exact ⟨ys, upd_same, RepL.mono E l ys r⟩
  · rw [List.getElem?_set_ne (Ne.symm hk)] at h1
    refine (R.obj k o b h1 h2).mono E (upd_ne fun z => ?_)
    subst z
    obtain ⟨i1, e1⟩ := List.getElem?_eq_some_iff.mp h2
    obtain ⟨i2, e2⟩ := List.getElem?_eq_some_iff.mp hn
    exact hk ((List.getElem_inj R.nd).mp (e1.trans e2.symm))
end Eng
namespace Eng
open PySem L2
variable {K : PySem.W.Frag}
/-! ### letting go -/
theorem pre_get {ρ t : List Addr} {n : Nat} {a : Addr} (hn : n < ρ.length) (h : (ρ ++ t)[n]? = some a) : ρ[n]? = some a := by
  rw [List.getElem?_append_left hn] at h
  exact h
mutual
theorem clo_rep {ρ t : List Addr} {H : Hp} : ∀ (d : D) (v : V), clo ρ.length d = true → RepV K (ρ ++ t) H d v → RepV K ρ H d v
  | .non, v, _, h => by simpa only [RepV] using h
  | .bl b, v, _, h => by simpa only [RepV] using h
  | .int i, v, _, h => by simpa only [RepV] using h
  | .str s, v, _, h => by simpa only [RepV] using h
  | .tup l, v, c, h => by
    simp only [RepV] at h ⊢
    simp only [clo] at c
    obtain ⟨a, xs, h1, h2, h3⟩ := h
    exact ⟨a, xs, h1, h2, clo_repL l xs c h3⟩
  | .lv l, v, c, h => by
    simp only [RepV] at h ⊢
    simp only [clo] at c
    obtain ⟨a, xs, h1, h2, h3, h4⟩ := h
    exact ⟨a, xs, h1, fun z => h2 (List.mem_append_left _ z), h3, clo_repL l xs c h4⟩
  | .scr l, v, _, h => by simpa only [RepV] using h
  | .ref n, v, c, h => by
    simp only [RepV] at h ⊢
    simp only [clo, decide_eq_true_eq] at c
    obtain ⟨a, h1, h2⟩ := h
    exact ⟨a, h1, pre_get c h2⟩
theorem clo_repL {ρ t : List Addr} {H : Hp} : ∀ (l : List D) (xs : List V), cloL ρ.length l = true → RepL K (ρ ++ t) H l xs → RepL K ρ H l xs
  | [], xs, _, h => by simpa only [RepL] using h
  | d :: l, xs, c, h => by
    simp only [RepL] at h ⊢
    simp only [cloL, Bool.and_eq_true] at c
    obtain ⟨y, ys, h1, h2, h3⟩ := h
    exact ⟨y, ys, h1, clo_rep d y c.1 h2, clo_repL l ys c.2 h3⟩
end
mutual
theorem down_rep {ρ t : List Addr} {H H' : Hp} : ∀ (d : D) (v w : V), RepV K ρ H d w → RepV K (ρ ++ t) H' d v → RepV K ρ H' d v
  | .non, v, _, _, h => by simpa only [RepV] using h
  | .bl b, v, _, _, h => by simpa only [RepV] using h
  | .int i, v, _, _, h => by simpa only [RepV] using h
  | .str s, v, _, _, h => by simpa only [RepV] using h
  | .tup l, v, w, c, h => by
    simp only [RepV] at h c ⊢
    obtain ⟨a, xs, h1, h2, h3⟩ := h
    obtain ⟨_, ys, _, _, c3⟩ := c
    exact ⟨a, xs, h1, h2, down_repL l xs ys c3 h3⟩
  | .lv l, v, w, c, h => by
    simp only [RepV] at h c ⊢
    obtain ⟨a, xs, h1, h2, h3, h4⟩ := h
    obtain ⟨_, ys, _, _, _, c3⟩ := c
    exact ⟨a, xs, h1, fun z => h2 (List.mem_append_left _ z), h3, down_repL l xs ys c3 h4⟩
  | .scr l, v, _, _, h => by simpa only [RepV] using h
  | .ref n, v, w, c, h => by
    simp only [RepV] at h c ⊢
    obtain ⟨a, h1, h2⟩ := h
    obtain ⟨b, _, c2⟩ := c
    exact ⟨a, h1, pre_get (List.getElem?_eq_some_iff.mp c2).1 h2⟩
theorem down_repL {ρ t : List Addr} {H H' : Hp} : ∀ (l : List D) (xs ys : List V), RepL K ρ H l ys → RepL K (ρ ++ t) H' l xs → RepL K ρ H' l xs
  | [], xs, _, _, h => by simpa only [RepL] using h
  | d :: l, xs, zs, c, h => by
    simp only [RepL] at h c ⊢
    obtain ⟨y, ys, h1, h2, h3⟩ := h
    obtain ⟨w, ws, _, c2, c3⟩ := c
    exact ⟨y, ys, h1, down_rep d y w c2 h2, down_repL l ys ws c3 h3⟩
end
theorem map_rep {ρ : List Addr} {H : Hp} {f : D → D} {ρ' : List Addr} {m : Nat} (h : ∀ d v, clo m (f d) = true → RepV K ρ' H d v → RepV K ρ H (f d) v) : ∀ (l : List D) (xs : List V), cloL m (l.map f) = true → RepL K ρ' H l xs → RepL K ρ H (l.map f) xs
  | [], xs, _, r => by simpa only [List.map_nil, RepL] using r
  | d :: l, xs, c, r => by
    simp only [RepL, List.map_cons] at r ⊢
    simp only [List.map_cons, cloL, Bool.and_eq_true] at c
    obtain ⟨y, ys, h1, h2, h3⟩ := r
    exact ⟨y, ys, h1, h d y c.1 h2, map_rep h l ys c.2 h3⟩
theorem fz_rep {ρ t : List Addr} {H : Hp} {S : Store} (R : RepS K (ρ ++ t) H S) : ∀ (k : Nat) (d : D) (v : V), clo ρ.length (fz S ρ.length k d) = true → RepV K (ρ ++ t) H d v → RepV K ρ H (fz S ρ.length k d) v
  | 0, d, v, c, h => by
    simp only [fz] at c ⊢
    exact clo_rep d v c h
  | k + 1, d, v, c, h => by
    cases d with
    | non => simpa only [fz, RepV] using h
    | bl b => simpa only [fz, RepV] using h
    | int b => simpa only [fz, RepV] using h
    | str b => simpa only [fz, RepV] using h
    | scr b => simpa only [fz, RepV] using h
    | tup l =>
      simp only [fz] at c ⊢
      simp only [RepV] at h ⊢
      simp only [clo] at c
      obtain ⟨a, xs, h1, h2, h3⟩ := h
      exact ⟨a, xs, h1, h2, map_rep (fz_rep R k) l xs c h3⟩
    | lv l =>
      simp only [fz] at c ⊢
      simp only [RepV] at h ⊢
      simp only [clo] at c
      obtain ⟨a, xs, h1, h2, h3, h4⟩ := h
      exact ⟨a, xs, h1, fun z => h2 (List.mem_append_left _ z), h3, map_rep (fz_rep R k) l xs c h4⟩
    | ref n =>
      simp only [fz] at c ⊢
      by_cases hn : n < ρ.length
      · rw [if_pos hn]
        exact clo_rep (.ref n) v (by simp [clo, hn]) h
      · rw [if_neg hn] at c ⊢
        simp only [RepV] at h
        obtain ⟨a, h1, h2⟩ := h
        obtain ⟨o, ho, q⟩ := R.at h2
        rw [ho] at c ⊢
        cases o with
        | dic l => simp only [clo, decide_eq_true_eq] at c; exact absurd c hn
        | lst l =>
          simp only [clo] at c
          obtain ⟨xs, q1, q2⟩ := q
          simp only [RepV]
          refine ⟨a, xs, h1, fun z => ?_, q1, map_rep (fz_rep R k) l xs c q2⟩
          obtain ⟨j, hj⟩ := List.getElem?_of_mem z
          have hj' := get_pre (t := t) hj
          obtain ⟨i1, e1⟩ := List.getElem?_eq_some_iff.mp hj'
          obtain ⟨i2, e2⟩ := List.getElem?_eq_some_iff.mp h2
          have := (List.getElem_inj R.nd).mp (e1.trans e2.symm)
          exact hn (this ▸ (List.getElem?_eq_some_iff.mp hj).1)
theorem gc_ok {ρ ρ' : List Addr} {H H' : Hp} {S S' S'' : Store} {d d' : D} {v : V} (R : RepS K ρ H S) (e : Ext ρ H ρ' H') (R' : RepS K ρ' H' S') (r : RepV K ρ' H' d v) (g : gc S d S' = some (d', S'')) :
    Ext ρ H ρ H' ∧ RepS K ρ H' S'' ∧ RepV K ρ H' d' v := by
  unfold gc at g
  split at g
  · rename_i hc
    obtain ⟨c0, c1, c2⟩ := hc
    obtain ⟨t, rfl⟩ := e.pre
    simp only [Option.some.injEq, Prod.mk.injEq] at g
    obtain ⟨rfl, rfl⟩ := g
    have hm : S.length = ρ.length := R.len.symm
    rw [hm] at c0 c1 c2 ⊢
    refine ⟨⟨⟨[], by simp⟩, fun a o h n => ⟨(e.keep a o h n).1, n⟩, e.tups, e.frzs⟩, ⟨?_, R.nd, fun n o a h1 h2 => ?_⟩, fz_rep R' _ d v c1 r⟩
    · rw [List.length_take]; omega
    · have hn : n < ρ.length := (List.getElem?_eq_some_iff.mp h2).1
      rw [List.getElem?_take_of_lt hn] at h1
      have q := R'.obj n o a h1 (get_pre h2)
      rcases c2 n hn with c | ⟨u, hu, cu⟩
      · rw [h1] at c
        have p := R.obj n o a c.symm h2
        cases o with
        | lst l =>
          obtain ⟨xs, q1, q2⟩ := q
          obtain ⟨ys, _, p2⟩ := p
          exact ⟨xs, q1, down_repL l xs ys p2 q2⟩
        | dic l =>
          obtain ⟨xs, q1, q2, q3⟩ := q
          obtain ⟨ys, _, p2, p3⟩ := p
          exact ⟨xs, q1, down_repL _ _ _ p2 q2, down_repL _ _ _ p3 q3⟩
      · rw [h1] at hu
        cases hu
        cases o with
        | lst l =>
          obtain ⟨xs, q1, q2⟩ := q
          exact ⟨xs, q1, clo_repL l xs cu q2⟩
        | dic l =>
          obtain ⟨xs, q1, q2, q3⟩ := q
          simp only [cloO, Bool.and_eq_true] at cu
          exact ⟨xs, q1, clo_repL _ _ cu.1 q2, clo_repL _ _ cu.2 q3⟩
  · cases g
end Eng
/-! EngB2: the operators on values. -/
namespace Eng
open PySem L2 PyProof.Rows
variable {X : Cx}

def Res (K : PySem.W.Frag) (ρ : List Addr) (H : Hp) (d : D) (S' : Store) (Q : VK) : Prop := ∀ ρ' H' z, Ext ρ H ρ' H' → RepS K ρ' H' S' → RepV K ρ' H' d z → Q z H'
def tG2 (K : PySem.W.Frag) (g : D → D → Store → Option (D × Store)) : R2 := fun vx vy H Q => ∃ ρ S x y d S', RepS K ρ H S ∧ RepV K ρ H x vx ∧ RepV K ρ H y vy ∧ g x y S = some (d, S') ∧ Res K ρ H d S' Q
def opOf : BOp → Operator
  | .add => .Add | .sub => .Sub | .mul => .Mult | .fdiv => .FloorDiv | .mod => .Mod | .pow => .Pow | .shl => .LShift | .shr => .RShift | .band => .BitAnd | .bor => .BitOr | .bxor => .BitXor
theorem lenLine_le {n : Nat} (h : n ≤ lenLine) : n ≤ sizeLine := Nat.le_trans h (by decide)
theorem lenLine_lt {n : Nat} (h : n < lenLine) : n < sizeLine := Nat.lt_of_lt_of_le h (by decide)
theorem pyl_eq (x y : Int) : pyl x y = Builtin.divisionGoesByPylong x y := rfl
theorem repL_ne {α : Type} {l : List α} (h : l ≠ []) : repL l 1 = l := by simp [repL]
/-- an end with a value that makes nothing -/
theorem Res.at {K : PySem.W.Frag} {ρ : List Addr} {H : Hp} {S : Store} {d : D} {z : V} {Q : VK} (q : Res K ρ H d S Q) (R : RepS K ρ H S) (r : RepV K ρ H d z) : Q z H := q ρ H z (Ext.refl _ _) R r
theorem Res.new {K : PySem.W.Frag} {ρ : List Addr} {H : Hp} {S : Store} {l : List D} {xs : List V} {m : Bool} {p : Addr} {Q : VK} (q : Res K ρ H (alloc m (.lv l) S).1 (alloc m (.lv l) S).2 Q) (R : RepS K ρ H S) (r : RepL K ρ H l xs) (hp : H p = none) : Q (.ref p) (upd H p (.lst xs)) := by
  obtain ⟨ρ', e, R', r'⟩ := rep_lst m hp R r
  exact q ρ' _ _ e R' r'
theorem Res.tup {K : PySem.W.Frag} {ρ : List Addr} {H : Hp} {S : Store} {l : List D} {xs : List V} {p : Addr} {Q : VK} (q : Res K ρ H (.tup l) S Q) (R : RepS K ρ H S) (r : RepL K ρ H l xs) (hp : H p = none) : Q (.ref p) (upd H p (.tup xs)) := by
  obtain ⟨e, R', r'⟩ := rep_tup hp R r
  exact q ρ _ _ e R' r'
theorem alloc_int (m : Bool) (i : Int) (S : Store) : alloc m (.int i) S = (.int i, S) := by cases m <;> rfl
theorem alloc_tup (m : Bool) (i : List D) (S : Store) : alloc m (.tup i) S = (.tup i, S) := by cases m <;> rfl
theorem alloc_bl (m : Bool) (i : Bool) (S : Store) : alloc m (.bl i) S = (.bl i, S) := by cases m <;> rfl
theorem nn_and {i j : Int} (h : 0 ≤ i) (h' : 0 ≤ j) : Builtin.bitAnd i j = natAnd i j := by
  show (match decide (0 ≤ i), decide (0 ≤ j) with
  | true, true => ((i.toNat &&& j.toNat : Nat) : Int)
  | true, false => i - ((i.toNat &&& (Builtin.bitNot j).toNat : Nat) : Int)
  | false, true => j - ((j.toNat &&& (Builtin.bitNot i).toNat : Nat) : Int)
  | false, false => Builtin.bitNot (((Builtin.bitNot i).toNat ||| (Builtin.bitNot j).toNat : Nat) : Int)) = _
  rw [decide_eq_true h, decide_eq_true h']
  rfl
theorem nn_or {i j : Int} (h : 0 ≤ i) (h' : 0 ≤ j) : Builtin.bitOr i j = natOr i j := bitOr_nn h h'
theorem nn_xor {i j : Int} (h : 0 ≤ i) (h' : 0 ≤ j) : Builtin.bitXor i j = natXor i j := by
  show Builtin.bitOr i j - Builtin.bitAnd i j = _
  rw [nn_or h h', nn_and h h']
  rfl
theorem op_divW : OpR X (binaryOp .FloorDiv) (rI divOk fun i j => .int (i / j)) := opI fun i j _ _ _ _ _ hc q => by
  have h1 : (0 : Int) < j := hc.1
  refine floordiv_int (by omega) (by rw [Int.fdiv_eq_ediv_of_nonneg i (by omega)]; exact q) (.inl ?_)
  rcases hc.2 with h | h
  · exact PyProof.noPylong_of_log2 h
  · exact h
theorem op_int (o : BOp) (i j k : Int) (h : intOp o i j = some k) (pins : List (Addr × Obj)) (s : Shared) (σ : L2.St) (H : Hp) (v u : Value) (Q : VK) (I : Inv X pins σ H s) (rv : RelV (.int i) v) (ru : RelV (.int j) u) (q : Q (.int k) H) :
    wpAny (model X.prog X.w) X.A (binaryOp (opOf o) v u) (EP X pins σ Q) X.xe s := by
  cases o with
  | add =>
    simp only [intOp, Option.some.injEq] at h
    subst h
    exact op_add pins s σ H _ _ v u Q I rv ru ⟨i, j, rfl, rfl, q⟩
  | sub =>
    simp only [intOp, Option.some.injEq] at h
    subst h
    exact op_sub pins s σ H _ _ v u Q I rv ru ⟨i, j, rfl, rfl, q⟩
  | mul =>
    simp only [intOp, Option.ite_none_right_eq_some, Option.some.injEq] at h
    obtain ⟨c, rfl⟩ := h
    exact op_mulW pins s σ H _ _ v u Q I rv ru ⟨i, j, rfl, rfl, c, q⟩
  | fdiv =>
    simp only [intOp, Option.ite_none_right_eq_some, Option.some.injEq] at h
    obtain ⟨c, rfl⟩ := h
    exact op_divW pins s σ H _ _ v u Q I rv ru ⟨i, j, rfl, rfl, c, q⟩
  | mod =>
    simp only [intOp, Option.ite_none_right_eq_some, Option.some.injEq] at h
    obtain ⟨c, rfl⟩ := h
    exact op_mod pins s σ H _ _ v u Q I rv ru ⟨i, j, rfl, rfl, c, q⟩
  | pow =>
    simp only [intOp, Option.ite_none_right_eq_some, Option.some.injEq] at h
    obtain ⟨c, rfl⟩ := h
    exact op_pow pins s σ H _ _ v u Q I rv ru ⟨i, j, rfl, rfl, c, q⟩
  | shl =>
    simp only [intOp, Option.ite_none_right_eq_some, Option.some.injEq] at h
    obtain ⟨c, rfl⟩ := h
    exact op_shl pins s σ H _ _ v u Q I rv ru ⟨i, j, rfl, rfl, c, q⟩
  | shr =>
    simp only [intOp, Option.ite_none_right_eq_some, Option.some.injEq] at h
    obtain ⟨c, rfl⟩ := h
    exact op_shr pins s σ H _ _ v u Q I rv ru ⟨i, j, rfl, rfl, c, q⟩
  | band =>
    simp only [intOp, Option.ite_none_right_eq_some, Option.some.injEq] at h
    obtain ⟨c, rfl⟩ := h
    exact op_and pins s σ H _ _ v u Q I rv ru ⟨i, j, rfl, rfl, by dsimp only; rw [nn_and c.1 c.2]; exact q⟩
  | bor =>
    simp only [intOp, Option.ite_none_right_eq_some, Option.some.injEq] at h
    obtain ⟨c, rfl⟩ := h
    exact op_or pins s σ H _ _ v u Q I rv ru ⟨i, j, rfl, rfl, by dsimp only; rw [nn_or c.1 c.2]; exact q⟩
  | bxor =>
    simp only [intOp, Option.ite_none_right_eq_some, Option.some.injEq] at h
    obtain ⟨c, rfl⟩ := h
    exact op_xor pins s σ H _ _ v u Q I rv ru ⟨i, j, rfl, rfl, by dsimp only; rw [nn_xor c.1 c.2]; exact q⟩
theorem op_cat2 (m : Bool) {S : Store} {ρ : List Addr} {x y : D} {a b : List D} {vx vy : V} (pins : List (Addr × Obj)) (s : Shared) (σ : L2.St) (H : Hp) (v u : Value) (Q : VK) (I : Inv X pins σ H s) (rv : RelV vx v) (ru : RelV vy u)
    (R : RepS X.K ρ H S) (rx : RepV X.K ρ H x vx) (ry : RepV X.K ρ H y vy) (ha : lstOf S x = some a) (hb : lstOf S y = some b) (hz : a.length + b.length ≤ lenLine) (q : Res X.K ρ H (alloc m (.lv (a ++ b)) S).1 (alloc m (.lv (a ++ b)) S).2 Q) :
    wpAny (model X.prog X.w) X.A (binaryOp .Add v u) (EP X pins σ Q) X.xe s := by
  obtain ⟨p, xs, rfl, h1, r1⟩ := rx.lst R ha
  obtain ⟨p2, ys, rfl, h2, r2⟩ := ry.lst R hb
  refine op_cat pins s σ H _ _ v u Q I rv ru ⟨p, p2, xs, ys, rfl, rfl, h1, h2, ?_, fun r hr => q.new R (r1.append r2) hr⟩
  rw [← r1.length, ← r2.length]
  exact lenLine_le hz
theorem op_rep2 (m : Bool) {S : Store} {ρ : List Addr} {x : D} {k : Int} {a : List D} {vx : V} (pins : List (Addr × Obj)) (s : Shared) (σ : L2.St) (H : Hp) (v u : Value) (Q : VK) (I : Inv X pins σ H s) (rv : RelV vx v) (ru : RelV (.int k) u)
    (R : RepS X.K ρ H S) (rx : RepV X.K ρ H x vx) (ha : lstOf S x = some a) (h1 : -1000000 ≤ k) (h2 : k ≤ 1000000) (hz : a.length * k.toNat ≤ lenLine) (q : Res X.K ρ H (alloc m (.lv (repL a k.toNat)) S).1 (alloc m (.lv (repL a k.toNat)) S).2 Q) :
    wpAny (model X.prog X.w) X.A (binaryOp .Mult v u) (EP X pins σ Q) X.xe s := by
  obtain ⟨p, xs, rfl, h1', r1⟩ := rx.lst R ha
  refine op_rep pins s σ H _ _ v u Q I rv ru ⟨p, k, xs, rfl, rfl, h1', by omega, by omega, ?_, fun r hr => q.new R (r1.rep _) hr⟩
  rw [← r1.length]
  exact lenLine_le hz
theorem op_tup2 {S : Store} {ρ : List Addr} {a b : List D} {vx vy : V} (pins : List (Addr × Obj)) (s : Shared) (σ : L2.St) (H : Hp) (v u : Value) (Q : VK) (I : Inv X pins σ H s) (rv : RelV vx v) (ru : RelV vy u)
    (R : RepS X.K ρ H S) (rx : RepV X.K ρ H (.tup a) vx) (ry : RepV X.K ρ H (.tup b) vy) (hz : a.length + b.length ≤ lenLine) (q : Res X.K ρ H (.tup (a ++ b)) S Q) :
    wpAny (model X.prog X.w) X.A (binaryOp .Add v u) (EP X pins σ Q) X.xe s := by
  have rx' := rx
  have ry' := ry
  simp only [RepV] at rx ry
  obtain ⟨p, xs, rfl, h1, r1⟩ := rx
  obtain ⟨p2, ys, rfl, h2, r2⟩ := ry
  refine op_catA pins s σ H _ _ v u Q I rv ru ⟨p, p2, xs, ys, rfl, rfl, SqT.of h1, SqT.of h2, ?_, fun e => ?_, fun _ e => ?_, fun _ _ r hr => q.tup R (r1.append r2) hr⟩
  · rw [← r1.length, ← r2.length]
    exact lenLine_le hz
  · have : a = [] := by
      have := r1.length
      rw [e] at this
      exact List.length_eq_zero_iff.mp this
    subst this
    exact q.at R ry'
  · have : b = [] := by
      have := r2.length
      rw [e] at this
      exact List.length_eq_zero_iff.mp this
    subst this
    rw [List.append_nil] at q
    exact q.at R rx'
theorem op_trep {S : Store} {ρ : List Addr} {a : List D} {k : Int} {vx : V} (pins : List (Addr × Obj)) (s : Shared) (σ : L2.St) (H : Hp) (v u : Value) (Q : VK) (I : Inv X pins σ H s) (rv : RelV vx v) (ru : RelV (.int k) u)
    (R : RepS X.K ρ H S) (rx : RepV X.K ρ H (.tup a) vx) (h0 : a ≠ []) (h1 : 2 ≤ k) (h2 : k ≤ 1000) (hz : a.length ≤ 1000) (q : Res X.K ρ H (.tup (repL a k.toNat)) S Q) :
    wpAny (model X.prog X.w) X.A (binaryOp .Mult v u) (EP X pins σ Q) X.xe s := by
  simp only [RepV] at rx
  obtain ⟨p, xs, rfl, h1', r1⟩ := rx
  refine op_repT pins s σ H _ _ v u Q I rv ru ⟨p, k, xs, rfl, rfl, SqT.of h1', ?_, h1, h2, ?_, fun r hr => q.tup R (r1.rep _) hr⟩
  · intro e
    have := r1.length
    rw [e] at this
    exact h0 (List.length_eq_zero_iff.mp this)
  · rw [← r1.length]; exact hz
theorem op_bin (m : Bool) (o : BOp) : OpR X (binaryOp (opOf o)) (tG2 X.K fun x y S => (binD S o x y).map fun d => alloc m d S) := by
  intro pins s σ H vx vy v u Q I rv ru h
  obtain ⟨ρ, S, x, y, d, S', R, rx, ry, g, q⟩ := h
  dsimp only at g
  cases e : binD S o x y with
  | none => rw [e] at g; cases g
  | some d0 =>
    rw [e] at g
    simp only [Option.map_some, Option.some.injEq] at g
    have cat : ∀ a, lstOf S x = some a → (∀ b, lstOf S y = some b → o = .add → a.length + b.length ≤ lenLine → d0 = .lv (a ++ b) → wpAny (model X.prog X.w) X.A (binaryOp (opOf o) v u) (EP X pins σ Q) X.xe s) := by
      intro a ha b hb ho hz hd
      subst hd ho
      rw [← Prod.eta (alloc m (.lv (a ++ b)) S)] at g
      obtain ⟨rfl, rfl⟩ := Prod.mk.inj g
      exact op_cat2 m pins s σ H v u Q I rv ru R rx ry ha hb hz q
    have rep : ∀ a, lstOf S x = some a → (∀ k, y = .int k → o = .mul → -1000000 ≤ k → k ≤ 1000000 → a.length * k.toNat ≤ lenLine → d0 = .lv (repL a k.toNat) → wpAny (model X.prog X.w) X.A (binaryOp (opOf o) v u) (EP X pins σ Q) X.xe s) := by
      intro a ha k hy ho h1 h2 hz hd
      subst hd ho hy
      rw [← Prod.eta (alloc m (.lv (repL a k.toNat)) S)] at g
      obtain ⟨rfl, rfl⟩ := Prod.mk.inj g
      simp only [RepV] at ry
      subst ry
      exact op_rep2 m pins s σ H v u Q I rv ru R rx ha h1 h2 hz q
    have gen : (∀ k, y ≠ .int k) → (lstOf S x).bind (fun a => (lstOf S y).bind fun b => if o = .add ∧ a.length + b.length ≤ lenLine then some (D.lv (a ++ b)) else none) = some d0 → wpAny (model X.prog X.w) X.A (binaryOp (opOf o) v u) (EP X pins σ Q) X.xe s := by
      intro _ e
      simp only [Option.bind_eq_some_iff, Option.ite_none_right_eq_some, Option.some.injEq] at e
      obtain ⟨a, ha, b, hb, ⟨ho, hz⟩, hd⟩ := e
      exact cat a ha b hb ho hz hd.symm
    have gen2 : ∀ k, y = .int k → (lstOf S x).bind (fun a => if o = .mul ∧ -1000000 ≤ k ∧ k ≤ 1000000 ∧ a.length * k.toNat ≤ lenLine then some (D.lv (repL a k.toNat)) else none) = some d0 → wpAny (model X.prog X.w) X.A (binaryOp (opOf o) v u) (EP X pins σ Q) X.xe s := by
      intro k hy e
      simp only [Option.bind_eq_some_iff, Option.ite_none_right_eq_some, Option.some.injEq] at e
      obtain ⟨a, ha, ⟨ho, h1, h2, hz⟩, hd⟩ := e
      exact rep a ha k hy ho h1 h2 hz hd.symm
    cases x with
    | int i =>
      cases y with
      | int j =>
        simp only [binD, Option.map_eq_some_iff] at e
        obtain ⟨k, hk, rfl⟩ := e
        rw [alloc_int] at g
        obtain ⟨rfl, rfl⟩ := Prod.mk.inj g
        have rx' := rx
        have ry' := ry
        simp only [RepV] at rx ry
        subst rx ry
        exact op_int o i j k hk pins s σ H v u Q I rv ru (q.at R (by simp [RepV]))
      | _ => simp [binD, lstOf] at e
    | tup a =>
      cases y with
      | tup b =>
        simp only [binD, Option.ite_none_right_eq_some, Option.some.injEq] at e
        obtain ⟨⟨ho, hz⟩, rfl⟩ := e
        subst ho
        rw [alloc_tup] at g
        obtain ⟨rfl, rfl⟩ := Prod.mk.inj g
        exact op_tup2 pins s σ H v u Q I rv ru R rx ry hz q
      | int k =>
        simp only [binD, Option.ite_none_right_eq_some, Option.some.injEq] at e
        obtain ⟨⟨ho, h0, h1, h2, hz⟩, rfl⟩ := e
        subst ho
        rw [alloc_tup] at g
        obtain ⟨rfl, rfl⟩ := Prod.mk.inj g
        simp only [RepV] at ry
        subst ry
        exact op_trep pins s σ H v u Q I rv ru R rx h0 h1 h2 hz q
      | _ => simp [binD, lstOf] at e
    | _ =>
      cases y with
      | int k => exact gen2 k rfl (by simpa only [binD] using e)
      | _ => exact gen (fun k z => by cases z) (by simpa only [binD] using e)
end Eng
/-! EngB3: comparisons, subscripts, slices, built-ins on values. -/
namespace Eng
open PySem L2 PyProof.Rows
variable {X : Cx}
def copOf : COp → CmpOp
  | .lt => .Lt | .le => .LtE | .gt => .Gt | .ge => .GtE | .eq => .Eq | .ne => .NotEq | .isN => .Is | .notN => .IsNot | .isin => .In | .notin => .NotIn
mutual
def pyD : D → PyData
  | .non => .none
  | .bl b => .bool b
  | .int i => .int i
  | .str s => .str s
  | .tup l => .tuple (pyL l)
  | .lv l => .list (pyL l)
  | .scr _ => .none
  | .ref _ => .none
def pyL : List D → List PyData
  | [] => []
  | d :: r => pyD d :: pyL r
end
mutual
theorem dat_dp {K : PySem.W.Frag} {ρ : List Addr} {H : Hp} : ∀ (k : Nat) (d : D) (v : V), dat k d = true → RepV K ρ H d v → Dp K H v (pyD d)
  | _, .non, v, _, h => by simp only [RepV] at h; subst h; exact .non
  | _, .bl b, v, _, h => by simp only [RepV] at h; subst h; exact .bl b
  | _, .int i, v, _, h => by simp only [RepV] at h; subst h; exact .int i
  | _, .str s, v, _, h => by simp only [RepV] at h; subst h; exact .str s
  | k + 1, .tup l, v, c, h => by
    simp only [RepV] at h
    obtain ⟨a, xs, rfl, h2, h3⟩ := h
    exact .tup (SqT.of h2) (dat_dpL k l xs (by simpa [dat] using c) h3)
  | k + 1, .lv l, v, c, h => by
    simp only [RepV] at h
    obtain ⟨a, xs, rfl, _, h2, h3⟩ := h
    exact .lst (SqL.of h2) (dat_dpL k l xs (by simpa [dat] using c) h3)
  | 0, .tup l, v, c, h => by simp [dat] at c
  | 0, .lv l, v, c, h => by simp [dat] at c
  | _, .scr l, v, c, h => by simp [dat] at c
  | _, .ref n, v, c, h => by simp [dat] at c
theorem dat_dpL {K : PySem.W.Frag} {ρ : List Addr} {H : Hp} : ∀ (k : Nat) (l : List D) (xs : List V), datL k l = true → RepL K ρ H l xs → DpAll K H xs (pyL l)
  | k, [], xs, _, h => by simp only [RepL] at h; subst h; exact .nil
  | k, d :: l, xs, c, h => by
    simp only [RepL] at h
    obtain ⟨y, ys, rfl, h2, h3⟩ := h
    have c' : dat k d = true ∧ datL k l = true := by simpa [datL] using c
    exact .cons (dat_dp k d y c'.1 h2) (dat_dpL k l ys c'.2 h3)
end
mutual
theorem dat_clo : ∀ (k : Nat) (d : D), dat k d = true → clo 0 d = true
  | _, .non, _ => by simp [clo]
  | _, .bl b, _ => by simp [clo]
  | _, .int i, _ => by simp [clo]
  | _, .str s, _ => by simp [clo]
  | k + 1, .tup l, c => by simp only [clo]; exact dat_cloL k l (by simpa [dat] using c)
  | k + 1, .lv l, c => by simp only [clo]; exact dat_cloL k l (by simpa [dat] using c)
  | 0, .tup l, c => by simp [dat] at c
  | 0, .lv l, c => by simp [dat] at c
  | _, .scr l, c => by simp [dat] at c
  | _, .ref n, c => by simp [dat] at c
theorem dat_cloL : ∀ (k : Nat) (l : List D), datL k l = true → cloL 0 l = true
  | k, [], _ => by simp [cloL]
  | k, d :: l, c => by
    have c' : dat k d = true ∧ datL k l = true := by simpa [datL] using c
    simp only [cloL, Bool.and_eq_true]
    exact ⟨dat_clo k d c'.1, dat_cloL k l c'.2⟩
end
mutual
theorem dat_shape : ∀ (k : Nat) (d : D), dat k d = true → (pyD d).canLay0 = true ∧ (pyD d).depth ≤ k
  | k, .non, _ => by simp [pyD, PyData.canLay0, PyData.depth]
  | k, .bl b, _ => by simp [pyD, PyData.canLay0, PyData.depth]
  | k, .int i, _ => by simp [pyD, PyData.canLay0, PyData.depth]
  | k, .str s, c => by simp [dat] at c
  | k + 1, .tup l, c => by
    have h := dat_shapeL k l (by simpa [dat] using c)
    simp only [pyD, PyData.canLay0, PyData.depth]
    exact ⟨h.1, by omega⟩
  | k + 1, .lv l, c => by
    have h := dat_shapeL k l (by simpa [dat] using c)
    simp only [pyD, PyData.canLay0, PyData.depth]
    exact ⟨h.1, by omega⟩
  | 0, .tup l, c => by simp [dat] at c
  | 0, .lv l, c => by simp [dat] at c
  | _, .scr l, c => by simp [dat] at c
  | _, .ref n, c => by simp [dat] at c
theorem dat_shapeL : ∀ (k : Nat) (l : List D), datL k l = true → PyData.canLayAll0 (pyL l) = true ∧ PyData.depthAll (pyL l) ≤ k
  | k, [], _ => by simp [pyL, PyData.canLayAll0, PyData.depthAll]
  | k, d :: l, c => by
    have c' : dat k d = true ∧ datL k l = true := by simpa [datL] using c
    have h1 := dat_shape k d c'.1
    have h2 := dat_shapeL k l c'.2
    simp only [pyL, PyData.canLayAll0, PyData.depthAll, Bool.and_eq_true]
    exact ⟨⟨h1.1, h2.1⟩, by omega⟩
end
mutual
theorem eqv_eqD : ∀ (k : Nat) (x y : D), dat k x = true → dat k y = true → PyData.eqv (pyD x) (pyD y) = eqD x y := fun k x y cx cy => by
  cases x with
  | scr l => simp [dat] at cx
  | ref n => simp [dat] at cx
  | str n => simp [dat] at cx
  | tup l =>
    cases k with
    | zero => simp [dat] at cx
    | succ k =>
      cases y with
      | tup q => simp only [pyD, PyData.eqv, eqD]; exact eqv_eqL k l q (by simpa [dat] using cx) (by simpa [dat] using cy)
      | scr l => simp [dat] at cy
      | ref n => simp [dat] at cy
      | str n => simp [dat] at cy
      | _ => simp [pyD, PyData.eqv, eqD]
  | lv l =>
    cases k with
    | zero => simp [dat] at cx
    | succ k =>
      cases y with
      | lv q => simp only [pyD, PyData.eqv, eqD]; exact eqv_eqL k l q (by simpa [dat] using cx) (by simpa [dat] using cy)
      | scr l => simp [dat] at cy
      | ref n => simp [dat] at cy
      | str n => simp [dat] at cy
      | _ => simp [pyD, PyData.eqv, eqD]
  | _ =>
    cases y with
    | scr l => simp [dat] at cy
    | ref n => simp [dat] at cy
    | str n => simp [dat] at cy
    | _ => simp [pyD, PyData.eqv, eqD, b2i]
theorem eqv_eqL : ∀ (k : Nat) (x y : List D), datL k x = true → datL k y = true → PyData.eqvAll (pyL x) (pyL y) = eqL x y
  | k, [], [], _, _ => by simp [pyL, PyData.eqvAll, eqL]
  | k, [], _ :: _, _, _ => by simp [pyL, PyData.eqvAll, eqL]
  | k, _ :: _, [], _, _ => by simp [pyL, PyData.eqvAll, eqL]
  | k, x :: r, y :: q, cx, cy => by
    have c' : dat k x = true ∧ datL k r = true := by simpa [datL] using cx
    have c2 : dat k y = true ∧ datL k q = true := by simpa [datL] using cy
    simp only [pyL, PyData.eqvAll, eqL]
    rw [eqv_eqD k x y c'.1 c2.1, eqv_eqL k r q c'.2 c2.2]
end
theorem fz0 {K : PySem.W.Frag} {ρ : List Addr} {H : Hp} {S : Store} (R : RepS K ρ H S) {k : Nat} {d : D} {v : V} (c : dat 8 (fz S 0 k d) = true) (h : RepV K ρ H d v) : RepV K [] H (fz S 0 k d) v :=
  fz_rep (ρ := []) (t := ρ) R k d v (dat_clo 8 _ c) h
theorem eqS_cases {S : Store} {x y : D} {k : Bool} (h : eqS S x y = some k) :
    ((∃ a b, x = .str a ∧ y = .str b ∧ k = (a == b)) ∨ (x = .non ∧ (∃ b, y = .str b) ∧ k = false) ∨ ((∃ b, x = .str b) ∧ y = .non ∧ k = false) ∨ ((∃ i, x = .int i) ∧ (∃ b, y = .str b) ∧ k = false) ∨ ((∃ b, x = .str b) ∧ (∃ i, y = .int i) ∧ k = false)) ∨
      (dat 8 (fz S 0 fuelD x) = true ∧ dat 8 (fz S 0 fuelD y) = true ∧ k = eqD (fz S 0 fuelD x) (fz S 0 fuelD y)) := by
  unfold eqS at h
  split at h
  · simp only [Option.some.injEq] at h
    exact .inl (.inl ⟨_, _, rfl, rfl, h.symm⟩)
  · simp only [Option.some.injEq] at h
    exact .inl (.inr (.inl ⟨rfl, ⟨_, rfl⟩, h.symm⟩))
  · simp only [Option.some.injEq] at h
    exact .inl (.inr (.inr (.inl ⟨⟨_, rfl⟩, rfl, h.symm⟩)))
  · simp only [Option.some.injEq] at h
    exact .inl (.inr (.inr (.inr (.inl ⟨⟨_, rfl⟩, ⟨_, rfl⟩, h.symm⟩))))
  · simp only [Option.some.injEq] at h
    exact .inl (.inr (.inr (.inr (.inr ⟨⟨_, rfl⟩, ⟨_, rfl⟩, h.symm⟩))))
  · split at h
    · rename_i c
      rw [Bool.and_eq_true] at c
      simp only [Option.some.injEq] at h
      exact .inr ⟨c.1, c.2, h.symm⟩
    · cases h
theorem dec_V {a b : V} {k : Bool} (h : (k = true) ↔ a = b) : decide (a = b) = k := by
  cases k with
  | true => exact decide_eq_true (h.mp rfl)
  | false => exact decide_eq_false fun z => by have := h.mpr z; cases this
theorem op_eqS (hu : X.A.units + 64 < cLine) {S : Store} {ρ : List Addr} {x y : D} {k : Bool} (e : eqS S x y = some k) (pins : List (Addr × Obj)) (s : Shared) (σ : L2.St) (H : Hp) (vx vy : V) (v u : Value) (Q : VK) (I : Inv X pins σ H s) (rv : RelV vx v) (ru : RelV vy u)
    (R : RepS X.K ρ H S) (rx : RepV X.K ρ H x vx) (ry : RepV X.K ρ H y vy) :
    (Q (.bl k) H → wpAny (model X.prog X.w) X.A (compareOp .Eq v u) (EP X pins σ Q) X.xe s) ∧ (Q (.bl (!k)) H → wpAny (model X.prog X.w) X.A (compareOp .NotEq v u) (EP X pins σ Q) X.xe s) := by
  have sc : ∀ (hs : scal vx vy = true) (hk : (k = true) ↔ vx = vy), (Q (.bl k) H → wpAny (model X.prog X.w) X.A (compareOp .Eq v u) (EP X pins σ Q) X.xe s) ∧ (Q (.bl (!k)) H → wpAny (model X.prog X.w) X.A (compareOp .NotEq v u) (EP X pins σ Q) X.xe s) := by
    intro hs hk
    have d := dec_V hk
    exact ⟨fun q => L2.op_eq pins s σ H _ _ v u Q I rv ru ⟨hs, by rw [d]; exact q⟩, fun q => L2.op_ne pins s σ H _ _ v u Q I rv ru ⟨hs, by rw [d]; exact q⟩⟩
  rcases eqS_cases e with h | ⟨c1, c2, rfl⟩
  · rcases h with ⟨a, b, rfl, rfl, rfl⟩ | ⟨rfl, ⟨b, rfl⟩, rfl⟩ | ⟨⟨b, rfl⟩, rfl, rfl⟩ | ⟨⟨i, rfl⟩, ⟨b, rfl⟩, rfl⟩ | ⟨⟨b, rfl⟩, ⟨i, rfl⟩, rfl⟩ <;> (simp only [RepV] at rx ry; subst rx ry; refine sc rfl ?_; simp)
  · have r1 := dat_dp 8 _ _ c1 (fz0 R c1 rx)
    have r2 := dat_dp 8 _ _ c2 (fz0 R c2 ry)
    have s1 := dat_shape 8 _ c1
    have s2 := dat_shape 8 _ c2
    have p1 : SeqAt.shaped (pyD (fz S 0 fuelD x)) = true := by unfold SeqAt.shaped; rw [s1.1, Bool.true_and]; exact decide_eq_true (by omega)
    have p2 : SeqAt.shaped (pyD (fz S 0 fuelD y)) = true := by unfold SeqAt.shaped; rw [s2.1, Bool.true_and]; exact decide_eq_true (by omega)
    have ee := eqv_eqD 8 _ _ c1 c2
    exact ⟨fun q => op_eqD hu pins s σ H _ _ v u Q I rv ru ⟨_, _, r1, r2, p1, p2, by rw [ee]; exact q⟩, fun q => op_neD hu pins s σ H _ _ v u Q I rv ru ⟨_, _, r1, r2, p1, p2, by rw [ee]; exact q⟩⟩
theorem flat_rep {K : PySem.W.Frag} {ρ : List Addr} {H : Hp} {d : D} {v : V} (f : flat d = true) (h : RepV K ρ H d v) : flatV v = true := by
  cases d <;> simp only [flat, Bool.false_eq_true] at f <;> simp only [RepV] at h <;> subst h <;> rfl
theorem flat_repL {K : PySem.W.Frag} {ρ : List Addr} {H : Hp} : ∀ {l : List D} {xs : List V}, l.all flat = true → RepL K ρ H l xs → xs.all flatV = true
  | [], xs, _, h => by simp only [RepL] at h; subst h; rfl
  | d :: l, xs, f, h => by
    simp only [RepL] at h
    obtain ⟨y, ys, rfl, h2, h3⟩ := h
    rw [List.all_cons, Bool.and_eq_true] at f ⊢
    exact ⟨flat_rep f.1 h2, flat_repL f.2 h3⟩
theorem flat_eq {K : PySem.W.Frag} {ρ : List Addr} {H : Hp} {d e : D} {v w : V} (f : flat d = true) (g : flat e = true) (h : RepV K ρ H d v) (h' : RepV K ρ H e w) : eqV v w = eqD d e := by
  cases d <;> simp only [flat, Bool.false_eq_true] at f <;> simp only [RepV] at h <;> subst h <;> cases e <;> simp only [flat, Bool.false_eq_true] at g <;> simp only [RepV] at h' <;> subst h' <;> simp [eqV, eqD, b2i]
theorem flat_in {K : PySem.W.Frag} {ρ : List Addr} {H : Hp} {d : D} {v : V} (f : flat d = true) (h : RepV K ρ H d v) : ∀ {l : List D} {xs : List V}, l.all flat = true → RepL K ρ H l xs → inV v xs = l.any fun z => eqD z d
  | [], xs, _, q => by simp only [RepL] at q; subst q; rfl
  | e :: l, xs, g, q => by
    simp only [RepL] at q
    obtain ⟨y, ys, rfl, h2, h3⟩ := q
    rw [List.all_cons, Bool.and_eq_true] at g
    show (eqV y v || ys.any fun y => eqV y v) = _
    rw [List.any_cons, flat_eq g.1 f h2 h]
    have := flat_in f h g.2 h3
    unfold inV at this
    rw [this]
theorem op_cmp (hu : X.A.units + 64 < cLine) (o : COp) : OpR X (compareOp (copOf o)) (tG2 X.K fun x y S => (cmpD S o x y).map fun k => (.bl k, S)) := by
  intro pins s σ H vx vy v u Q I rv ru h
  obtain ⟨ρ, S, x, y, d, S', R, rx, ry, g, q⟩ := h
  dsimp only at g
  cases e : cmpD S o x y with
  | none => rw [e] at g; cases g
  | some k =>
    rw [e] at g
    simp only [Option.map_some, Option.some.injEq, Prod.mk.injEq] at g
    obtain ⟨rfl, rfl⟩ := g
    have q' : Q (.bl k) H := q.at R (by simp [RepV])
    cases o with
    | lt =>
      cases x <;> cases y <;> simp only [cmpD, reduceCtorEq, Option.some.injEq] at e
      simp only [RepV] at rx ry
      subst rx ry e
      exact L2.op_lt pins s σ H _ _ v u Q I rv ru ⟨_, _, rfl, rfl, q'⟩
    | le =>
      cases x <;> cases y <;> simp only [cmpD, reduceCtorEq, Option.some.injEq] at e
      simp only [RepV] at rx ry
      subst rx ry e
      exact L2.op_le pins s σ H _ _ v u Q I rv ru ⟨_, _, rfl, rfl, q'⟩
    | gt =>
      cases x <;> cases y <;> simp only [cmpD, reduceCtorEq, Option.some.injEq] at e
      simp only [RepV] at rx ry
      subst rx ry e
      exact L2.op_gt pins s σ H _ _ v u Q I rv ru ⟨_, _, rfl, rfl, q'⟩
    | ge =>
      cases x <;> cases y <;> simp only [cmpD, reduceCtorEq, Option.some.injEq] at e
      simp only [RepV] at rx ry
      subst rx ry e
      exact L2.op_ge pins s σ H _ _ v u Q I rv ru ⟨_, _, rfl, rfl, q'⟩
    | eq =>
      have e' : eqS S x y = some k := by simpa only [cmpD] using e
      exact (op_eqS hu e' pins s σ H vx vy v u Q I rv ru R rx ry).1 q'
    | ne =>
      have e' : (eqS S x y).map (!·) = some k := by simpa only [cmpD] using e
      rw [Option.map_eq_some_iff] at e'
      obtain ⟨k', e', rfl⟩ := e'
      exact (op_eqS hu e' pins s σ H vx vy v u Q I rv ru R rx ry).2 q'
    | isN =>
      have hy : y = .non ∧ k = decide (vx = .non) := by
        cases y <;> cases x <;> simp only [cmpD, reduceCtorEq, Option.some.injEq] at e <;> subst e <;> refine ⟨rfl, ?_⟩ <;> simp only [RepV] at rx
        · subst rx; rfl
        · subst rx; rfl
        · subst rx; rfl
        · subst rx; rfl
        · obtain ⟨a, _, rfl, _⟩ := rx; rfl
        · obtain ⟨a, _, rfl, _⟩ := rx; rfl
        · obtain ⟨a, rfl, _⟩ := rx; rfl
        · obtain ⟨a, rfl, _⟩ := rx; rfl
      obtain ⟨rfl, rfl⟩ := hy
      simp only [RepV] at ry
      exact L2.op_isN pins s σ H _ _ v u Q I rv ru ⟨ry, q'⟩
    | notN =>
      have hy : y = .non ∧ k = !decide (vx = .non) := by
        cases y <;> cases x <;> simp only [cmpD, reduceCtorEq, Option.some.injEq] at e <;> subst e <;> refine ⟨rfl, ?_⟩ <;> simp only [RepV] at rx
        · subst rx; rfl
        · subst rx; rfl
        · subst rx; rfl
        · subst rx; rfl
        · obtain ⟨a, _, rfl, _⟩ := rx; rfl
        · obtain ⟨a, _, rfl, _⟩ := rx; rfl
        · obtain ⟨a, rfl, _⟩ := rx; rfl
        · obtain ⟨a, rfl, _⟩ := rx; rfl
      obtain ⟨rfl, rfl⟩ := hy
      simp only [RepV] at ry
      exact L2.op_notN pins s σ H _ _ v u Q I rv ru ⟨ry, q'⟩
    | isin =>
      have e' : (seqOf S y).bind (fun l => if flat x && l.all flat then some (l.any fun z => eqD z x) else none) = some k := by simpa only [cmpD] using e
      simp only [Option.bind_eq_some_iff, Option.ite_none_right_eq_some, Bool.and_eq_true, Option.some.injEq] at e'
      obtain ⟨l, hl, ⟨f1, f2⟩, hk⟩ := e'
      obtain ⟨a, xs, rfl, h1, h2⟩ := ry.seq R hl
      refine op_in_seq pins s σ H _ _ v u Q I rv ru ⟨a, xs, rfl, h1, flat_rep f1 rx, flat_repL f2 h2, ?_⟩
      rw [if_neg Bool.false_ne_true, flat_in f1 rx f2 h2, hk]
      exact q'
    | notin =>
      have e' : (seqOf S y).bind (fun l => if flat x && l.all flat then some (!(l.any fun z => eqD z x)) else none) = some k := by simpa only [cmpD] using e
      simp only [Option.bind_eq_some_iff, Option.ite_none_right_eq_some, Bool.and_eq_true, Option.some.injEq] at e'
      obtain ⟨l, hl, ⟨f1, f2⟩, hk⟩ := e'
      obtain ⟨a, xs, rfl, h1, h2⟩ := ry.seq R hl
      refine op_notIn_seq pins s σ H _ _ v u Q I rv ru ⟨a, xs, rfl, h1, flat_rep f1 rx, flat_repL f2 h2, ?_⟩
      rw [if_pos rfl, flat_in f1 rx f2 h2, hk]
      exact q'
end Eng
/-! EngB4: subscripts, slices, stores, methods, built-ins on values. -/
namespace Eng
open PySem L2 PyProof.Rows
variable {X : Cx}
theorem atI_eq {α : Type} (xs : List α) (i : Int) : Eng.atI xs i = L2.atI xs i := rfl
theorem ixN_eq (n : Nat) (i : Int) : Eng.ixN n i = L2.ixN n i := rfl
theorem RepL.atI {K : PySem.W.Frag} {ρ : List Addr} {H : Hp} {l : List D} {xs : List V} {k : Int} {d : D} (r : RepL K ρ H l xs) (h : Eng.atI l k = some d) : ∃ y, L2.atI xs k = some y ∧ RepV K ρ H d y := by
  unfold Eng.atI at h
  unfold L2.atI
  rw [Option.bind_eq_some_iff] at h
  obtain ⟨j, h1, h2⟩ := h
  obtain ⟨y, a, b⟩ := r.get h2
  refine ⟨y, ?_, b⟩
  rw [← r.length, ← ixN_eq, h1]
  exact a
theorem ix_all : IxR X (tG2 X.K fun x y S => (idxD S x y).map fun d => (d, S)) := by
  intro value slice pins s σ H vx vy v u Q I rv ru h hs
  obtain ⟨ρ, S, x, y, d, S', R, rx, ry, g, q⟩ := h
  dsimp only at g
  cases y with
  | int k =>
    rw [Option.map_eq_some_iff] at g
    obtain ⟨d', g, e⟩ := g
    obtain ⟨rfl, rfl⟩ := Prod.mk.inj e
    simp only [idxD, Option.bind_eq_some_iff] at g
    obtain ⟨l, hl, hk⟩ := g
    obtain ⟨a, xs, rfl, h1, h2⟩ := rx.seq R hl
    obtain ⟨z, hz, rz⟩ := h2.atI hk
    simp only [RepV] at ry
    subst ry
    refine ix_seq value slice pins s σ H _ _ v u Q I rv ru ?_ hs
    rcases h1 with h1 | h1
    · exact .inl ⟨a, xs, k, z, rfl, rfl, h1, hz, q.at R rz⟩
    · exact .inr (.inl ⟨a, xs, k, z, rfl, rfl, h1, hz, q.at R rz⟩)
  | _ => simp [idxD] at g
theorem cutV_eq (xs : List V) (lo hi : Option Int) : Eng.cutV xs lo hi = L2.cutV xs lo hi := rfl
theorem cutV_map {α β : Type} (f : α → β) (xs : List α) (lo hi : Option Int) : Eng.cutV (xs.map f) lo hi = (Eng.cutV xs lo hi).map f := by
  unfold Eng.cutV
  rw [List.length_map, List.map_take, List.map_drop]
theorem RepL.cutV {K : PySem.W.Frag} {ρ : List Addr} {H : Hp} {l : List D} {xs : List V} (lo hi : Option Int) (r : RepL K ρ H l xs) : RepL K ρ H (Eng.cutV l lo hi) (L2.cutV xs lo hi) := by
  rw [← cutV_eq]
  unfold Eng.cutV
  rw [r.length]
  exact (r.drop _).take _
def tGS (K : PySem.W.Frag) (m : Bool) : V → Option Int → Option Int → Hp → VK → Prop := fun vx lo hi H Q => ∃ ρ S x d, RepS K ρ H S ∧ RepV K ρ H x vx ∧ slI S x lo hi = some d ∧ Res K ρ H (alloc m d S).1 (alloc m d S).2 Q
theorem sIx_whole {n : Nat} {lo hi : Option Int} (h : HT.sIx n 0 lo = 0 ∧ HT.sIx n n hi = n) {α : Type} {l : List α} (hl : l.length = n) : Eng.cutV l lo hi = l := by
  unfold Eng.cutV
  have h1 : Eng.sIx l.length 0 lo = 0 := by rw [hl]; exact h.1
  have h2 : Eng.sIx l.length l.length hi = l.length := by rw [hl]; exact h.2
  rw [h1, h2]
  simp
theorem sl_all (m : Bool) : SlR X (tGS X.K m) := by
  intro pins s σ H vx v vl vu lo hi sl Q I rv hs pl pu h
  obtain ⟨ρ, S, x, d, R, rx, g, q⟩ := h
  have lst : ∀ l, lstOf S x = some l → d = .lv (Eng.cutV l lo hi) → ∃ T id, typeLookup (.type T) "__getitem__" = pure (some (.builtin id)) ∧ s.TypeIs v T ∧ wpAny (model X.prog X.w) X.A (getItem v (.ref sl)) (EP X pins σ Q) X.xe s := by
    intro l hl hd
    subst hd
    obtain ⟨a, xs, rfl, h1, h2⟩ := rx.lst R hl
    exact sl_list pins s σ H _ v vl vu lo hi sl Q I rv hs pl pu ⟨a, xs, rfl, SqL.of h1, fun p hp => q.new R (h2.cutV lo hi) hp⟩
  cases x with
  | tup l =>
    simp only [slI, Option.some.injEq] at g
    subst g
    rw [alloc_tup] at q
    have rx' := rx
    simp only [RepV] at rx
    obtain ⟨a, xs, rfl, h1, h2⟩ := rx
    refine sl_tupA pins s σ H _ v vl vu lo hi sl Q I rv hs pl pu ⟨a, xs, rfl, SqT.of h1, fun w => ?_, fun _ p hp => q.tup R (h2.cutV lo hi) hp⟩
    rw [sIx_whole w h2.length] at q
    exact q.at R rx'
  | scr l =>
    simp only [slI, Option.some.injEq] at g
    subst g
    obtain ⟨a, xs, rfl, h1, h2⟩ := rx.seq (S := S) R (l := l.map .int) rfl
    rw [← cutV_map] at q
    rcases h1 with h1 | h1
    · exact sl_list pins s σ H _ v vl vu lo hi sl Q I rv hs pl pu ⟨a, xs, rfl, h1, fun p hp => q.new R (h2.cutV lo hi) hp⟩
    · simp only [RepV] at rx
      obtain ⟨b, e, h3⟩ := rx
      cases e
      have : SqL X.K H a (l.map V.int) := by
        rcases h3 with ⟨o, h3⟩ | h3
        · exact .inl (.inr ⟨o, h3⟩)
        · exact sqL_none h3
      exact sl_list pins s σ H _ v vl vu lo hi sl Q I rv hs pl pu ⟨a, _, rfl, this, fun p hp => q.new R ((RepL.scrI l).cutV lo hi) hp⟩
  | lv l =>
    simp only [slI, lstOf, Option.map_some, Option.some.injEq] at g
    exact lst l rfl g.symm
  | ref n =>
    simp only [slI, Option.map_eq_some_iff] at g
    obtain ⟨l, hl, e⟩ := g
    exact lst l hl e.symm
  | _ => simp [slI, lstOf] at g
/-! ### o[i] = x -/
def tGSet (K : PySem.W.Frag) : TSet := fun vo vi vx H Q => ∃ ρ S o i x S', RepS K ρ H S ∧ RepV K ρ H o vo ∧ RepV K ρ H i vi ∧ RepV K ρ H x vx ∧ setS o i x S = some S' ∧ ∀ ρ' H', Ext ρ H ρ' H' → RepS K ρ' H' S' → Q H'
theorem set_all : PSet X (tGSet X.K) := by
  intro pins s σ H vo vi vx ov iv u Q I ro ri rx h
  obtain ⟨ρ, S, o, i, x, S', R, ho, hi, hx, g, q⟩ := h
  cases o with
  | ref n =>
    cases i with
    | int k =>
      simp only [setS] at g
      cases e : S[n]? with
      | none => rw [e] at g; cases g
      | some ob =>
        rw [e] at g
        cases ob with
        | dic l => cases g
        | lst l =>
          simp only [Option.map_eq_some_iff] at g
          obtain ⟨j, hj, rfl⟩ := g
          simp only [RepV] at ho hi
          obtain ⟨a, rfl, ha⟩ := ho
          subst hi
          obtain ⟨xs, h1, h2⟩ := R.obj n _ a e ha
          obtain ⟨E, R'⟩ := rep_set R ha h1 (RepL.set hx j h2)
          exact set_list pins s σ H _ _ _ ov iv u Q I ro ri rx ⟨a, xs, k, j, rfl, rfl, h1, by rw [← h2.length, ← ixN_eq]; exact hj, q ρ _ E R'⟩
    | _ => simp [setS] at g
  | _ => simp [setS] at g
/-! ### methods of lists -/
def tGM (K : PySem.W.Frag) (g : D → List D → Store → Option (D × Store)) : V → List V → Hp → VK → Prop := fun vx vs H Q => ∃ ρ S x l d S', RepS K ρ H S ∧ RepV K ρ H x vx ∧ RepL K ρ H l vs ∧ g x l S = some (d, S') ∧ Res K ρ H d S' Q
theorem isL_ty {K : PySem.W.Frag} {ρ : List Addr} {H : Hp} {S : Store} {y : D} {v : V} (R : RepS K ρ H S) (h : isL S y = true) (r : RepV K ρ H y v) : tyV K "list" v H := by
  cases y with
  | ref n =>
    simp only [isL] at h
    cases e : S[n]? with
    | none => rw [e] at h; cases h
    | some o =>
      rw [e] at h
      cases o with
      | dic l => cases h
      | lst l =>
        simp only [RepV] at r
        obtain ⟨a, rfl, ha⟩ := r
        obtain ⟨xs, h1, _⟩ := R.obj n _ a e ha
        exact .inl ⟨rfl, xs, SqL.of h1⟩
  | _ => simp [isL] at h
theorem mtr_of {id : String} {r : V → List V → Hp → VK → Prop} (h : MtM X id r) : MtR X id r := h
theorem m_app : MtR X "list.append" (tGM X.K fun y l S => match l with
    | [d] => appS y d S
    | _ => none) := by
  intro pins s σ H vx vs v us Q I rv rs h
  obtain ⟨ρ, S, y, l, d, S', R, ry, rl, g, q⟩ := h
  dsimp only at g
  split at g
  · rename_i z
    unfold appS at g
    split at g
    · rename_i n
      split at g
      · rename_i l e
        rw [Option.ite_none_right_eq_some] at g
        obtain ⟨hz, g⟩ := g
        obtain ⟨rfl, rfl⟩ := Prod.mk.inj (Option.some.inj g)
        simp only [RepV] at ry
        obtain ⟨a, rfl, ha⟩ := ry
        simp only [RepL] at rl
        obtain ⟨vz, _, rfl, rz, rfl⟩ := rl
        obtain ⟨xs, h1, h2⟩ := R.obj n _ a e ha
        obtain ⟨E, R'⟩ := rep_set R ha h1 (h2.append (RepL.one rz))
        refine mt_append pins s σ H _ _ v us Q I rv rs ⟨a, xs, vz, rfl, rfl, h1, by rw [← h2.length]; exact lenLine_lt hz, q ρ _ _ E R' (by simp [RepV])⟩
      · cases g
    · cases g
  · cases g
theorem m_ext : MtR X "list.extend" (tGM X.K fun y l S => match l with
    | [d] => extS y d S
    | _ => none) := by
  intro pins s σ H vx vs v us Q I rv rs h
  obtain ⟨ρ, S, y, l, d, S', R, ry, rl, g, q⟩ := h
  dsimp only at g
  split at g
  · rename_i z
    unfold extS at g
    split at g
    · rename_i n
      split at g
      · rename_i l e
        rw [Option.bind_eq_some_iff] at g
        obtain ⟨p, hp, g⟩ := g
        rw [Option.ite_none_right_eq_some] at g
        obtain ⟨hz, g⟩ := g
        obtain ⟨rfl, rfl⟩ := Prod.mk.inj (Option.some.inj g)
        simp only [RepV] at ry
        obtain ⟨a, rfl, ha⟩ := ry
        simp only [RepL] at rl
        obtain ⟨vz, _, rfl, rz, rfl⟩ := rl
        obtain ⟨xs, h1, h2⟩ := R.obj n _ a e ha
        obtain ⟨b, ys, rfl, k1, k2⟩ := rz.lst R hp
        obtain ⟨E, R'⟩ := rep_set R ha h1 (h2.append k2)
        refine mt_extend pins s σ H _ _ v us Q I rv rs ⟨a, b, xs, ys, rfl, rfl, h1, k1, by rw [← h2.length, ← k2.length]; exact lenLine_le hz, q ρ _ _ E R' (by simp [RepV])⟩
      · cases g
    · cases g
  · cases g
theorem m_pop : MtR X "list.pop" (tGM X.K fun y l S => match l with
    | [] => popS y S
    | [k] => popAtS y k S
    | _ => none) := by
  intro pins s σ H vx vs v us Q I rv rs h
  obtain ⟨ρ, S, y, l, d, S', R, ry, rl, g, q⟩ := h
  dsimp only at g
  split at g
  · unfold popS at g
    split at g
    · rename_i n
      split at g
      · rename_i l e
        rw [Option.map_eq_some_iff] at g
        obtain ⟨z, hz, g⟩ := g
        obtain ⟨rfl, rfl⟩ := Prod.mk.inj g
        simp only [RepV] at ry
        obtain ⟨a, rfl, ha⟩ := ry
        simp only [RepL] at rl
        subst rl
        obtain ⟨xs, h1, h2⟩ := R.obj n _ a e ha
        obtain ⟨w, hw, rw'⟩ := h2.get hz
        have r3 : RepL X.K ρ H l.dropLast xs.dropLast := by
          rw [List.dropLast_eq_take, List.dropLast_eq_take, h2.length]
          exact h2.take _
        obtain ⟨E, R'⟩ := rep_set R ha h1 r3
        refine mt_pop pins s σ H _ _ v us Q I rv rs ⟨a, xs, w, rfl, rfl, h1, by rw [← h2.length]; exact hw, q ρ _ _ E R' (RepV.mono E _ _ rw')⟩
      · cases g
    · cases g
  · rename_i k
    unfold popAtS at g
    split at g
    · rename_i n k
      split at g
      · rename_i l e
        rw [Option.ite_none_right_eq_some] at g
        obtain ⟨hk, g⟩ := g
        rw [Option.map_eq_some_iff] at g
        obtain ⟨z, hz, g⟩ := g
        obtain ⟨rfl, rfl⟩ := Prod.mk.inj g
        simp only [RepV] at ry
        obtain ⟨a, rfl, ha⟩ := ry
        simp only [RepL] at rl
        obtain ⟨vz, _, rfl, rz, rfl⟩ := rl
        simp only [RepV] at rz
        subst rz
        obtain ⟨xs, h1, h2⟩ := R.obj n _ a e ha
        obtain ⟨w, hw, rw'⟩ := h2.get hz
        obtain ⟨E, R'⟩ := rep_set R ha h1 (h2.eraseIdx k.toNat)
        have hlt : k.toNat < xs.length := (List.getElem?_eq_some_iff.mp hw).1
        have hix : L2.ixN xs.length k = some k.toNat := by
          unfold L2.ixN
          rw [if_pos hk.1, if_pos (by omega)]
        refine mt_popAt pins s σ H _ _ v us Q I rv rs ⟨a, xs, k, k.toNat, w, rfl, rfl, h1, by omega, by omega, (ixN_seq hix).1, hw, q ρ _ _ E R' (RepV.mono E _ _ rw')⟩
      · cases g
    · cases g
  · cases g
/-! ### built-ins -/
def tGA (K : PySem.W.Frag) (g : List D → Store → Option (D × Store)) : List V → Hp → VK → Prop := fun vs H Q => ∃ ρ S l d S', RepS K ρ H S ∧ RepL K ρ H l vs ∧ g l S = some (d, S') ∧ Res K ρ H d S' Q
def valOf : Blt → Value
  | .len => .builtin "len" | .abs => .builtin "abs" | .int => .type "int" | .bool => .type "bool" | .sum => .builtin "sum" | .all => .builtin "all" | .any => .builtin "any"
  | .tuple => .type "tuple" | .list => .type "list" | .min2 => .builtin "min" | .max2 => .builtin "max" | .min => .builtin "min" | .max => .builtin "max"
theorem fold_max : ∀ (r : List Int) (x : Int), let m := r.foldl (fun m y => if y > m then y else m) x; (m = x ∨ m ∈ r) ∧ x ≤ m ∧ ∀ y ∈ r, y ≤ m
  | [], x => by simp
  | a :: r, x => by
    by_cases c : a > x
    · have h := fold_max r a
      simp only [List.foldl_cons, if_pos c] at h ⊢
      obtain ⟨h1, h2, h3⟩ := h
      refine ⟨.inr ?_, by omega, fun y hy => ?_⟩
      · rcases h1 with h1 | h1
        · rw [h1]; exact List.mem_cons_self
        · exact List.mem_cons_of_mem _ h1
      · rcases List.mem_cons.mp hy with hy | hy
        · rw [hy]; exact h2
        · exact h3 y hy
    · have h := fold_max r x
      simp only [List.foldl_cons, if_neg c] at h ⊢
      obtain ⟨h1, h2, h3⟩ := h
      refine ⟨h1.imp_right (List.mem_cons_of_mem _), h2, fun y hy => ?_⟩
      rcases List.mem_cons.mp hy with hy | hy
      · rw [hy]; omega
      · exact h3 y hy
theorem fold_min : ∀ (r : List Int) (x : Int), let m := r.foldl (fun m y => if y < m then y else m) x; (m = x ∨ m ∈ r) ∧ m ≤ x ∧ ∀ y ∈ r, m ≤ y
  | [], x => by simp
  | a :: r, x => by
    by_cases c : a < x
    · have h := fold_min r a
      simp only [List.foldl_cons, if_pos c] at h ⊢
      obtain ⟨h1, h2, h3⟩ := h
      refine ⟨.inr ?_, by omega, fun y hy => ?_⟩
      · rcases h1 with h1 | h1
        · rw [h1]; exact List.mem_cons_self
        · exact List.mem_cons_of_mem _ h1
      · rcases List.mem_cons.mp hy with hy | hy
        · rw [hy]; exact h2
        · exact h3 y hy
    · have h := fold_min r x
      simp only [List.foldl_cons, if_neg c] at h ⊢
      obtain ⟨h1, h2, h3⟩ := h
      refine ⟨h1.imp_right (List.mem_cons_of_mem _), h2, fun y hy => ?_⟩
      rcases List.mem_cons.mp hy with hy | hy
      · rw [hy]; omega
      · exact h3 y hy
theorem maxI_ok {ns : List Int} {m : Int} (h : maxI ns = some m) : 0 < ns.length ∧ ∀ k, k ∈ ns → (∀ y, y ∈ ns → y ≤ k) → k = m := by
  cases ns with
  | nil => cases h
  | cons x r =>
    simp only [maxI, Option.some.injEq] at h
    have f := fold_max r x
    simp only [h] at f
    obtain ⟨h1, h2, h3⟩ := f
    refine ⟨by simp, fun k hk hy => ?_⟩
    have a : m ≤ k := by
      rcases h1 with h1 | h1
      · rw [h1]; exact hy x List.mem_cons_self
      · exact hy m (List.mem_cons_of_mem _ h1)
    rcases List.mem_cons.mp hk with rfl | hk
    · omega
    · have := h3 k hk; omega
theorem minI_ok {ns : List Int} {m : Int} (h : minI ns = some m) : 0 < ns.length ∧ ∀ k, k ∈ ns → (∀ y, y ∈ ns → k ≤ y) → k = m := by
  cases ns with
  | nil => cases h
  | cons x r =>
    simp only [minI, Option.some.injEq] at h
    have f := fold_min r x
    simp only [h] at f
    obtain ⟨h1, h2, h3⟩ := f
    refine ⟨by simp, fun k hk hy => ?_⟩
    have a : k ≤ m := by
      rcases h1 with h1 | h1
      · rw [h1]; exact hy x List.mem_cons_self
      · exact hy m (List.mem_cons_of_mem _ h1)
    rcases List.mem_cons.mp hk with rfl | hk
    · omega
    · have := h3 k hk; omega
theorem repL1 {K : PySem.W.Frag} {ρ : List Addr} {H : Hp} {d : D} {vs : List V} (h : RepL K ρ H [d] vs) : ∃ v, vs = [v] ∧ RepV K ρ H d v := by
  simp only [RepL] at h
  obtain ⟨y, _, rfl, r, rfl⟩ := h
  exact ⟨y, rfl, r⟩
theorem repL2 {K : PySem.W.Frag} {ρ : List Addr} {H : Hp} {d e : D} {vs : List V} (h : RepL K ρ H [d, e] vs) : ∃ v w, vs = [v, w] ∧ RepV K ρ H d v ∧ RepV K ρ H e w := by
  simp only [RepL] at h
  obtain ⟨y, _, rfl, r, z, _, rfl, r2, rfl⟩ := h
  exact ⟨y, z, rfl, r, r2⟩
theorem seq_ne_str {S : Store} {s : Str} {l : List D} : seqOf S (.str s) ≠ some l := by simp [seqOf, lstOf]
theorem call_blt (hc : X.calm = true) (m : Bool) (b : Blt) : CallR X (valOf b) (tGA X.K fun l S => (bltD S b l).map fun d => alloc m d S) := by
  intro pins s σ H vs us Q I rs h
  obtain ⟨ρ, S, l, d, S', R, rl, g, q⟩ := h
  dsimp only at g
  rw [Option.map_eq_some_iff] at g
  obtain ⟨d0, g, e⟩ := g
  have q' : Res X.K ρ H (alloc m d0 S).1 (alloc m d0 S).2 Q := by rw [e]; exact q
  clear q e
  have int1 : ∀ {i : Int}, d0 = .int i → Q (.int i) H := fun {i} e => by
    subst e
    rw [alloc_int] at q'
    exact q'.at R (by simp [RepV])
  have bl1 : ∀ {i : Bool}, d0 = .bl i → Q (.bl i) H := fun {i} e => by
    subst e
    rw [alloc_bl] at q'
    exact q'.at R (by simp [RepV])
  cases b with
  | len =>
    have sh : ∃ x, l = [x] := by
      rcases l with _ | ⟨x, _ | ⟨y, r⟩⟩
      · simp [bltD] at g
      · exact ⟨_, rfl⟩
      · simp [bltD] at g
    obtain ⟨x, el⟩ := sh
    subst el
    · simp only [bltD, Option.map_eq_some_iff] at g
      obtain ⟨l, hl, e⟩ := g
      obtain ⟨v, rfl, rx⟩ := repL1 rl
      obtain ⟨a, xs, rfl, h1, h2⟩ := rx.seq R hl
      refine call_len_seq pins s σ H _ us Q I rs ⟨a, xs, rfl, h1, ?_⟩
      rw [← h2.length]
      exact int1 e.symm
  | abs =>
    have sh : ∃ i, l = [.int i] := by
      rcases l with _ | ⟨x, _ | ⟨y, r⟩⟩
      · simp [bltD] at g
      · cases x <;> first | exact ⟨_, rfl⟩ | (simp [bltD] at g; done)
      · simp [bltD] at g
    obtain ⟨i, el⟩ := sh
    subst el
    · simp only [bltD, Option.some.injEq] at g
      obtain ⟨v, rfl, rx⟩ := repL1 rl
      simp only [RepV] at rx
      subst rx
      exact call_abs pins s σ H _ us Q I rs ⟨i, rfl, int1 g.symm⟩
  | int =>
    have sh : (∃ i, l = [.int i]) ∨ ∃ i, l = [.bl i] := by
      rcases l with _ | ⟨x, _ | ⟨y, r⟩⟩
      · simp [bltD] at g
      · cases x <;> first | exact .inl ⟨_, rfl⟩ | exact .inr ⟨_, rfl⟩ | (simp [bltD] at g; done)
      · simp [bltD] at g
    rcases sh with ⟨i, el⟩ | ⟨i, el⟩
    · subst el
      simp only [bltD, Option.some.injEq] at g
      obtain ⟨v, rfl, rx⟩ := repL1 rl
      simp only [RepV] at rx
      subst rx
      exact call_int1 pins s σ H _ us Q I rs (.inl ⟨i, rfl, int1 g.symm⟩)
    · subst el
      simp only [bltD, Option.some.injEq] at g
      obtain ⟨v, rfl, rx⟩ := repL1 rl
      simp only [RepV] at rx
      subst rx
      exact call_int1 pins s σ H _ us Q I rs (.inr ⟨i, rfl, int1 g.symm⟩)
  | bool =>
    have sh : (∃ i, l = [.int i]) ∨ ∃ i, l = [.bl i] := by
      rcases l with _ | ⟨x, _ | ⟨y, r⟩⟩
      · simp [bltD] at g
      · cases x <;> first | exact .inl ⟨_, rfl⟩ | exact .inr ⟨_, rfl⟩ | (simp [bltD] at g; done)
      · simp [bltD] at g
    rcases sh with ⟨i, el⟩ | ⟨i, el⟩
    · subst el
      simp only [bltD, Option.some.injEq] at g
      obtain ⟨v, rfl, rx⟩ := repL1 rl
      simp only [RepV] at rx
      subst rx
      exact call_bool1 pins s σ H _ us Q I rs (.inl ⟨i, rfl, bl1 g.symm⟩)
    · subst el
      simp only [bltD, Option.some.injEq] at g
      obtain ⟨v, rfl, rx⟩ := repL1 rl
      simp only [RepV] at rx
      subst rx
      exact call_bool1 pins s σ H _ us Q I rs (.inr ⟨i, rfl, bl1 g.symm⟩)
  | sum =>
    have sh : ∃ x, l = [x] := by
      rcases l with _ | ⟨x, _ | ⟨y, r⟩⟩
      · simp [bltD] at g
      · exact ⟨_, rfl⟩
      · simp [bltD] at g
    obtain ⟨x, el⟩ := sh
    subst el
    · simp only [bltD, Option.map_eq_some_iff, Option.bind_eq_some_iff] at g
      obtain ⟨ns, ⟨l, hl, hn⟩, e⟩ := g
      obtain ⟨v, rfl, rx⟩ := repL1 rl
      obtain ⟨a, xs, rfl, h1, h2⟩ := rx.lst R hl
      have := h2.ints hn
      subst this
      exact cr_sum hc pins s σ H _ us Q I rs ⟨a, ns, rfl, SqL.of h1, int1 e.symm⟩
  | all =>
    have sh : ∃ x, l = [x] := by
      rcases l with _ | ⟨x, _ | ⟨y, r⟩⟩
      · simp [bltD] at g
      · exact ⟨_, rfl⟩
      · simp [bltD] at g
    obtain ⟨x, el⟩ := sh
    subst el
    · simp only [bltD, Option.map_eq_some_iff, Option.bind_eq_some_iff] at g
      obtain ⟨ns, ⟨l, hl, hn⟩, e⟩ := g
      obtain ⟨v, rfl, rx⟩ := repL1 rl
      obtain ⟨a, xs, rfl, h1, h2⟩ := rx.lst R hl
      have := h2.bls hn
      subst this
      exact cr_all hc pins s σ H _ us Q I rs ⟨a, ns, rfl, SqL.of h1, bl1 e.symm⟩
  | any =>
    have sh : ∃ x, l = [x] := by
      rcases l with _ | ⟨x, _ | ⟨y, r⟩⟩
      · simp [bltD] at g
      · exact ⟨_, rfl⟩
      · simp [bltD] at g
    obtain ⟨x, el⟩ := sh
    subst el
    · simp only [bltD, Option.map_eq_some_iff, Option.bind_eq_some_iff] at g
      obtain ⟨ns, ⟨l, hl, hn⟩, e⟩ := g
      obtain ⟨v, rfl, rx⟩ := repL1 rl
      obtain ⟨a, xs, rfl, h1, h2⟩ := rx.lst R hl
      have := h2.bls hn
      subst this
      exact cr_any hc pins s σ H _ us Q I rs ⟨a, ns, rfl, SqL.of h1, bl1 e.symm⟩
  | tuple =>
    have sh : ∃ x, l = [x] := by
      rcases l with _ | ⟨x, _ | ⟨y, r⟩⟩
      · simp [bltD] at g
      · exact ⟨_, rfl⟩
      · simp [bltD] at g
    obtain ⟨x, el⟩ := sh
    subst el
    · obtain ⟨v, rfl, rx⟩ := repL1 rl
      have go : ∀ l, lstOf S x = some l → d0 = .tup l → wpAny (model X.prog X.w) X.A (call (valOf .tuple) us) (EP X pins σ Q) X.xe s := by
        intro l hl e
        subst e
        rw [alloc_tup] at q'
        obtain ⟨a, xs, rfl, h1, h2⟩ := rx.lst R hl
        exact call_tuple_of pins s σ H _ us Q I rs ⟨a, xs, rfl, .inl ⟨SqL.of h1, fun p hp => q'.tup R h2 hp⟩⟩
      cases x with
      | tup l =>
        simp only [bltD, Option.some.injEq] at g
        subst g
        rw [alloc_tup] at q'
        have rx' := rx
        simp only [RepV] at rx
        obtain ⟨a, xs, rfl, h1, h2⟩ := rx
        exact call_tuple_of pins s σ H _ us Q I rs ⟨a, xs, rfl, .inr ⟨SqT.of h1, q'.at R rx'⟩⟩
      | lv l =>
        simp only [bltD, lstOf, Option.map_some, Option.some.injEq] at g
        exact go l rfl g.symm
      | ref n =>
        simp only [bltD, Option.map_eq_some_iff] at g
        obtain ⟨l, hl, e⟩ := g
        exact go l hl e.symm
      | _ => simp [bltD, lstOf] at g
  | list =>
    have sh : ∃ x, l = [x] := by
      rcases l with _ | ⟨x, _ | ⟨y, r⟩⟩
      · simp [bltD] at g
      · exact ⟨_, rfl⟩
      · simp [bltD] at g
    obtain ⟨x, el⟩ := sh
    subst el
    · simp only [bltD, Option.map_eq_some_iff] at g
      obtain ⟨l, hl, e⟩ := g
      subst e
      obtain ⟨v, rfl, rx⟩ := repL1 rl
      obtain ⟨a, xs, rfl, h1, h2⟩ := rx.seq R hl
      exact call_list_of pins s σ H _ us Q I rs ⟨a, xs, rfl, h1, fun p hp => q'.new R h2 hp⟩
  | min2 =>
    have sh : ∃ i j, l = [.int i, .int j] := by
      rcases l with _ | ⟨x, _ | ⟨y, _ | ⟨z, r⟩⟩⟩
      · simp [bltD] at g
      · simp [bltD] at g
      · cases x <;> cases y <;> first | exact ⟨_, _, rfl⟩ | (simp [bltD] at g; done)
      · simp [bltD] at g
    obtain ⟨i, j, el⟩ := sh
    subst el
    · simp only [bltD, Option.some.injEq] at g
      obtain ⟨v, w, rfl, rx, ry⟩ := repL2 rl
      simp only [RepV] at rx ry
      subst rx ry
      exact call_min2 hc pins s σ H _ us Q I rs ⟨i, j, rfl, int1 g.symm⟩
  | max2 =>
    have sh : ∃ i j, l = [.int i, .int j] := by
      rcases l with _ | ⟨x, _ | ⟨y, _ | ⟨z, r⟩⟩⟩
      · simp [bltD] at g
      · simp [bltD] at g
      · cases x <;> cases y <;> first | exact ⟨_, _, rfl⟩ | (simp [bltD] at g; done)
      · simp [bltD] at g
    obtain ⟨i, j, el⟩ := sh
    subst el
    · simp only [bltD, Option.some.injEq] at g
      obtain ⟨v, w, rfl, rx, ry⟩ := repL2 rl
      simp only [RepV] at rx ry
      subst rx ry
      exact call_max2 hc pins s σ H _ us Q I rs ⟨i, j, rfl, int1 g.symm⟩
  | min =>
    have sh : ∃ x, l = [x] := by
      rcases l with _ | ⟨x, _ | ⟨y, r⟩⟩
      · simp [bltD] at g
      · exact ⟨_, rfl⟩
      · simp [bltD] at g
    obtain ⟨x, el⟩ := sh
    subst el
    · simp only [bltD, Option.map_eq_some_iff, Option.bind_eq_some_iff] at g
      obtain ⟨k, ⟨l, hl, ns, hn, hk⟩, e⟩ := g
      obtain ⟨v, rfl, rx⟩ := repL1 rl
      obtain ⟨a, xs, rfl, h1, h2⟩ := rx.lst R hl
      have := h2.ints hn
      subst this
      have t := minI_ok hk
      refine cr_min hc pins s σ H _ us Q I rs ⟨a, ns, rfl, SqL.of h1, t.1, fun m hm hy => ?_⟩
      rw [t.2 m hm hy]
      exact int1 e.symm
  | max =>
    have sh : ∃ x, l = [x] := by
      rcases l with _ | ⟨x, _ | ⟨y, r⟩⟩
      · simp [bltD] at g
      · exact ⟨_, rfl⟩
      · simp [bltD] at g
    obtain ⟨x, el⟩ := sh
    subst el
    · simp only [bltD, Option.map_eq_some_iff, Option.bind_eq_some_iff] at g
      obtain ⟨k, ⟨l, hl, ns, hn, hk⟩, e⟩ := g
      obtain ⟨v, rfl, rx⟩ := repL1 rl
      obtain ⟨a, xs, rfl, h1, h2⟩ := rx.lst R hl
      have := h2.ints hn
      subst this
      have t := maxI_ok hk
      refine cr_max hc pins s σ H _ us Q I rs ⟨a, ns, rfl, SqL.of h1, t.1, fun m hm hy => ?_⟩
      rw [t.2 m hm hy]
      exact int1 e.symm
end Eng
/-! EngB5: the text beside the small language (mt), and that what is beside it comes to the same. -/
namespace Eng
open PySem L2 PyProof.Rows

inductive Ro | e | t | a | i | wA | wO | vA | vO
  deriving DecidableEq
/-- the defs by number: what they come to, name, parameters; keyword calls that are met (def, positional ones, order, names); built-ins' names that the module leaves -/
structure Tab where
  T : Nat → Fn
  fn : List (Str × List Str)
  kw : List (Nat × Nat × List Nat × List Str)
  bs : List Str

def lk (sc : Scope) (x : Str) : Option NameKind := sc.names.lookup x
def nameOk (x : Str) : Bool := !(x == ("__debug__" : Str)) && !(x == ("__classdict__" : Str))
def visB (sc : Scope) (x : Str) : Bool := decide (lk sc x = some .local) || decide (lk sc x = some .cell) || decide (lk sc x = some .free)
def varB (N : List Str) (sc : Scope) (i : Nat) (x : Str) : Bool := decide (N[i]? = some x) && visB sc x && nameOk x
def glbB (sc : Scope) (x : Str) : Bool := decide (lk sc x = some .globalImplicit) && nameOk x && !(x == ("__name__" : Str))
def bltB (C : Tab) (sc : Scope) (x : Str) : Bool := glbB sc x && decide (x ∈ C.bs)
/-- an expression of a plain sort -/
def okX : Expr → Bool
  | .Name .. => true | .Constant .. => true | .BinOp .. => true | .UnaryOp .. => true | .Compare .. => true | .BoolOp .. => true | .IfExp .. => true
  | .Call .. => true | .Subscript .. => true | .Tuple .. => true | .List .. => true | .ListComp .. => true | _ => false
/-- what a method is asked of -/
def okR : Expr → Bool
  | .Name .. => true | .Subscript .. => true | _ => false
def bopB : BOp → Operator → Bool
  | .add, .Add => true | .sub, .Sub => true | .mul, .Mult => true | .fdiv, .FloorDiv => true | .mod, .Mod => true | .pow, .Pow => true | .shl, .LShift => true | .shr, .RShift => true
  | .band, .BitAnd => true | .bor, .BitOr => true | .bxor, .BitXor => true | _, _ => false
def copB : COp → CmpOp → Bool
  | .lt, .Lt => true | .le, .LtE => true | .gt, .Gt => true | .ge, .GtE => true | .eq, .Eq => true | .ne, .NotEq => true | .isN, .Is => true | .notN, .IsNot => true | .isin, .In => true | .notin, .NotIn => true | _, _ => false
def bltName : Blt → Str
  | .len => "len" | .abs => "abs" | .int => "int" | .bool => "bool" | .sum => "sum" | .all => "all" | .any => "any" | .tuple => "tuple" | .list => "list"
  | .min2 => "min" | .max2 => "max" | .min => "min" | .max => "max"
def tyName : Ty → String
  | .int => "int" | .bool => "bool" | .str => "str" | .tuple => "tuple"
/-- targets: sto: what may be stored here -/
def mg (N : List Str) (sto : Str → Bool) : Tg → Bool → List Expr → Bool
  | .nm i, false, [.Name x _] => decide (N[i]? = some x) && sto x
  | .tup r, false, [.Tuple es _ _] => mg N sto r true es
  | .nil, true, [] => true
  | .cons t r, true, e :: es => mg N sto t false [e] && mg N sto r true es
  | _, _, _ => false
def tgIn (own : List Nat) : Tg → Bool
  | .nm i => decide (i ∈ own)
  | .tup r => tgIn own r
  | .nil => true
  | .cons t r => tgIn own t && tgIn own r
def stoB (sc : Scope) (x : Str) : Bool := decide (lk sc x = some .local) || decide (lk sc x = some .cell)
def isTup : Expr → Bool
  | .Tuple .. => true
  | _ => false
def needTup : IE → Bool
  | .enu .. => true
  | .zip .. => true
  | _ => false
def ownOf (N : List Str) (own : List Nat) : List (Str × Nat) := own.map fun i => (N.getD i Str.empty, i)

def isNo : IE → Bool
  | .no => true
  | _ => false
def mt (C : Tab) (N : List Str) : IE → Ro → Scope → List Expr → Bool
  | .var i, r, sc, es => match r, es with
    | .e, [.Name x _] => varB N sc i x
    | .t, [.Name x _] => varB N sc i x
    | _, _ => false
  | .int z, r, sc, es => match r, es with
    | .e, [.Constant (.int k) _ _] => decide (z = k)
    | _, _ => false
  | .bl b, r, sc, es => match r, es with
    | .e, [.Constant (.bool k) _ _] => decide (b = k)
    | .t, [.Constant (.bool k) _ _] => decide (b = k)
    | _, _ => false
  | .non, r, sc, es => match r, es with
    | .e, [.Constant .none _ _] => true
    | _, _ => false
  | .str s, r, sc, es => match r, es with
    | .e, [.Constant (.str k) _ _] => decide (s = k)
    | _, _ => false
  | .bin m o a b, r, sc, es => match r, es with
    | .e, [.BinOp x op y _] => bopB o op && mt C N a .e sc [x] && mt C N b .e sc [y]
    | _, _ => false
  | .neg a, r, sc, es => match r, es with
    | .e, [.UnaryOp .USub x _] => mt C N a .e sc [x]
    | _, _ => false
  | .cmp o a b, r, sc, es => match r, es with
    | .e, [.Compare x [op] [y] _] => copB o op && mt C N a .e sc [x] && mt C N b .e sc [y]
    | .t, [.Compare x [op] [y] _] => copB o op && mt C N a .e sc [x] && mt C N b .e sc [y]
    | _, _ => false
  | .chain o o' a b c, r, sc, es => match r, es with
    | .e, [.Compare x [op, op'] [y, z] _] => copB o op && copB o' op' && mt C N a .e sc [x] && mt C N b .e sc [y] && mt C N c .e sc [z]
    | .t, [.Compare x [op, op'] [y, z] _] => copB o op && copB o' op' && mt C N a .e sc [x] && mt C N b .e sc [y] && mt C N c .e sc [z]
    | _, _ => false
  | .and a b, r, sc, es => match r, es with
    | .t, [.BoolOp .And (x :: y :: l) _] => mt C N a .t sc [x] && (match l with | [] => mt C N b .t sc [y] | z :: l' => mt C N b .wA sc (y :: z :: l'))
    | .wA, x :: y :: l => mt C N a .t sc [x] && (match l with | [] => mt C N b .t sc [y] | z :: l' => mt C N b .wA sc (y :: z :: l'))
    | .e, [.BoolOp .And (x :: y :: l) _] => mt C N a .e sc [x] && (match l with | [] => mt C N b .e sc [y] | z :: l' => mt C N b .vA sc (y :: z :: l'))
    | .vA, x :: y :: l => mt C N a .e sc [x] && (match l with | [] => mt C N b .e sc [y] | z :: l' => mt C N b .vA sc (y :: z :: l'))
    | _, _ => false
  | .or a b, r, sc, es => match r, es with
    | .t, [.BoolOp .Or (x :: y :: l) _] => mt C N a .t sc [x] && (match l with | [] => mt C N b .t sc [y] | z :: l' => mt C N b .wO sc (y :: z :: l'))
    | .wO, x :: y :: l => mt C N a .t sc [x] && (match l with | [] => mt C N b .t sc [y] | z :: l' => mt C N b .wO sc (y :: z :: l'))
    | .e, [.BoolOp .Or (x :: y :: l) _] => mt C N a .e sc [x] && (match l with | [] => mt C N b .e sc [y] | z :: l' => mt C N b .vO sc (y :: z :: l'))
    | .vO, x :: y :: l => mt C N a .e sc [x] && (match l with | [] => mt C N b .e sc [y] | z :: l' => mt C N b .vO sc (y :: z :: l'))
    | _, _ => false
  | .not a, r, sc, es => match r, es with
    | .t, [.UnaryOp .Not x _] => mt C N a .t sc [x]
    | .e, [.UnaryOp .Not x _] => mt C N a .e sc [x]
    | _, _ => false
  | .ite c a b, r, sc, es => match r, es with
    | .e, [.IfExp x y z _] => mt C N c .t sc [x] && mt C N a .e sc [y] && mt C N b .e sc [z]
    | _, _ => false
  | .tup as, r, sc, es => match r, es with
    | .e, [.Tuple l _ _] => mt C N as .a sc l
    | _, _ => false
  | .lst m as, r, sc, es => match r, es with
    | .e, [.List l _] => mt C N as .a sc l
    | _, _ => false
  | .idx a i, r, sc, es => match r, es with
    | .e, [.Subscript x y _] => mt C N a .e sc [x] && mt C N i .e sc [y]
    | .t, [.Subscript x y _] => mt C N a .e sc [x] && mt C N i .e sc [y]
    | _, _ => false
  | .sl m a lo hi, r, sc, es => match r, es with
    | .e, [.Subscript x (.Slice l h none _) _] => mt C N a .e sc [x] && (match l with | none => isNon lo | some l => !isNon lo && mt C N lo .e sc [l]) && (match h with | none => isNon hi | some h => !isNon hi && mt C N hi .e sc [h])
    | _, _ => false
  | .call f as, r, sc, es => match r, es with
    | .e, [.Call (.Name x _) l [] _] => glbB sc x && (match C.fn[f]? with | some (y, ps) => decide (y = x) && decide (ps.length = l.length) | none => false) && mt C N as .a sc l
    | .t, [.Call (.Name x _) l [] _] => glbB sc x && (match C.fn[f]? with | some (y, ps) => decide (y = x) && decide (ps.length = l.length) | none => false) && mt C N as .a sc l
    | _, _ => false
  | .callk f perm as ks, r, sc, es => match r, es with
    | .e, [.Call (.Name x _) l kws _] => glbB sc x && (match C.fn[f]? with | some (y, ps) => decide (y = x) | none => false) && mt C N as .a sc l && mt C N ks .a sc (kws.map (·.value)) &&
        kws.all (fun k => k.arg.isSome) && decide ((f, l.length, perm, kws.filterMap (·.arg)) ∈ C.kw)
    | _, _ => false
  | .blt m b as, r, sc, es => match r, es with
    | .e, [.Call (.Name x _) l [] _] => bltB C sc x && decide (x = bltName b) && decide (l.length ≠ 0) && mt C N as .a sc l
    | .t, [.Call (.Name x _) l [] _] => bltB C sc x && decide (x = bltName b) && decide (l.length ≠ 0) && mt C N as .a sc l
    | _, _ => false
  | .isi t a, r, sc, es => match r, es with
    | .e, [.Call (.Name x _) [y, .Name ty _] [] _] => bltB C sc x && decide (x = "isinstance") && bltB C sc ty && decide (ty = Str.ofString (tyName t)) && mt C N a .e sc [y]
    | .t, [.Call (.Name x _) [y, .Name ty _] [] _] => bltB C sc x && decide (x = "isinstance") && bltB C sc ty && decide (ty = Str.ofString (tyName t)) && mt C N a .e sc [y]
    | _, _ => false
  | .lrev m a, r, sc, es => match r, es with
    | .e, [.Call (.Name x _) [.Call (.Name z _) [y] [] _] [] _] => bltB C sc x && decide (x = "list") && bltB C sc z && decide (z = "reversed") && mt C N a .e sc [y]
    | _, _ => false
  | .app a x, r, sc, es => match r, es with
    | .e, [.Call (.Attribute y nm ap) [z] [] p] => decide (nm = "append") && okR y && (ap.endLine == p.line) && mt C N a .e sc [y] && mt C N x .e sc [z]
    | _, _ => false
  | .ext a x, r, sc, es => match r, es with
    | .e, [.Call (.Attribute y nm ap) [z] [] p] => decide (nm = "extend") && okR y && (ap.endLine == p.line) && mt C N a .e sc [y] && mt C N x .e sc [z]
    | _, _ => false
  | .pop a, r, sc, es => match r, es with
    | .e, [.Call (.Attribute y nm ap) [] [] p] => decide (nm = "pop") && okR y && (ap.endLine == p.line) && mt C N a .e sc [y]
    | _, _ => false
  | .popAt a x, r, sc, es => match r, es with
    | .e, [.Call (.Attribute y nm ap) [z] [] p] => decide (nm = "pop") && okR y && (ap.endLine == p.line) && mt C N a .e sc [y] && mt C N x .e sc [z]
    | _, _ => false
  | .comp m own it tg c e, r, sc, es => match r, es with
    | .e, [.ListComp elt [⟨te, iter, ifs, 0⟩] scope _] => mt C N it .i sc [iter] && (!needTup it || isTup te) && mg N (stoB scope) tg false [te] && tgIn own tg && blkC N sc scope (ownOf N own) &&
        (match ifs with | [] => isNo c | [q] => mt C N c .t (relS scope sc) [q] | _ => false) && mt C N e .e (relS scope sc) [elt]
    | _, _ => false
  | .stk, r, sc, es => match r, es with
    | .e, [x] => okX x
    | .t, [_] => true
    | _, _ => false
  | .no, _, _, _ => false
  | .nil, r, sc, es => match r, es with
    | .a, [] => true
    | _, _ => false
  | .cons a r', r, sc, es => match r, es with
    | .a, x :: l => mt C N a .e sc [x] && mt C N r' .a sc l
    | _, _ => false
  | .itv a, r, sc, es => match r, es with
    | .i, [x] => mt C N a .e sc [x]
    | _, _ => false
  | .rng as, r, sc, es => match r, es with
    | .i, [.Call (.Name x _) l [] _] => decide (x = "range") && bltB C sc x && mt C N as .a sc l
    | _, _ => false
  | .enu a, r, sc, es => match r, es with
    | .i, [.Call (.Name x _) [y] [] _] => decide (x = "enumerate") && bltB C sc x && mt C N a .e sc [y]
    | _, _ => false
  | .zip a b, r, sc, es => match r, es with
    | .i, [.Call (.Name x _) [y, z] [] _] => decide (x = "zip") && bltB C sc x && mt C N a .e sc [y] && mt C N b .e sc [z]
    | _, _ => false
  | .rev a, r, sc, es => match r, es with
    | .i, [.Call (.Name x _) [y] [] _] => decide (x = "reversed") && bltB C sc x && mt C N a .e sc [y]
    | _, _ => false
end Eng
/-! EngB6: readings by the small language. -/
namespace Eng
open PySem L2 PyProof.Rows
abbrev EvF := Env → Store → Option (D × Store)
def tE (K : PySem.W.Frag) (f : EvF) : TE := fun σ H Q => ∃ ρ v S d S', RepS K ρ H S ∧ RepE K ρ H v σ ∧ f v S = some (d, S') ∧ Res K ρ H d S' Q
def tT (K : PySem.W.Frag) (f : EvF) : TT := fun σ H Q => ∃ ρ v S b S', RepS K ρ H S ∧ RepE K ρ H v σ ∧ f v S = some (.bl b, S') ∧ ∀ ρ' H', Ext ρ H ρ' H' → RepS K ρ' H' S' → Q b H'
def tA (K : PySem.W.Frag) (f : EvF) : TA := fun σ H Q => ∃ ρ v S l S', RepS K ρ H S ∧ RepE K ρ H v σ ∧ f v S = some (.tup l, S') ∧ ∀ ρ' H' ys, Ext ρ H ρ' H' → RepS K ρ' H' S' → RepL K ρ' H' l ys → Q ys H'
structure ItOk (K : PySem.W.Frag) (ρ0 : List Addr) (H0 : Hp) (src : D) (l : List D) (J : It) : Prop where
  go : ∀ i ρ H S, Ext ρ0 H0 ρ H → RepS K ρ H S → stays src l S → i < l.length → J.go i H
  stop : ∀ ρ H S, Ext ρ0 H0 ρ H → RepS K ρ H S → stays src l S → J.stop l.length H
  yld : ∀ i ρ H S x H', Ext ρ0 H0 ρ H → RepS K ρ H S → stays src l S → i < l.length → J.yld i H x H' → ∃ d, l[i]? = some d ∧ Ext ρ H ρ H' ∧ RepS K ρ H' S ∧ RepV K ρ H' d x
def tI (K : PySem.W.Frag) (f : EvF) : TI := fun σ H R => ∃ ρ v S src S1 l, RepS K ρ H S ∧ RepE K ρ H v σ ∧ f v S = some (src, S1) ∧ itemsOf S1 src = some l ∧ ∀ ρ' H' J, Ext ρ H ρ' H' → RepS K ρ' H' S1 → ItOk K ρ' H' src l J → R J H'
def spF (K : PySem.W.Frag) (F : Fn) (np : Nat) : Sp := fun vs H Q _ => vs.length = np ∧ ∃ ρ S l d S', RepS K ρ H S ∧ RepL K ρ H l vs ∧ F l S = some (d, S') ∧ Res K ρ H d S' Q
structure TabOk (X : Cx) (C : Tab) (N : List Str) : Prop where
  calm : X.calm = true
  hN : X.N = N
  nd : N.Nodup
  hu : X.A.units + 64 < cLine
  bs : ∀ x ∈ C.bs, X.mg x = none
  fns : ∀ (k : Nat) (x : Str) (ps : List Str), C.fn[k]? = some (x, ps) → ∃ (f : Addr) (fd : FuncData) (l : Nat), X.mg x = some (.ref f) ∧ PySem.W.keepIn X.K (.ref f) = true ∧ Room l X.A ∧
    FnOk X.prog X.w X.K X.mg X.base CX0 l f fd ps (spF X.K (C.T k) ps.length) ∧ Binds X.K fd ps [] ∧ (∀ l S r, C.T k l S = some r → l.length = ps.length) ∧
    ∀ n perm ks, (k, n, perm, ks) ∈ C.kw → ∀ us ws zs : List Value, us.length = n → ws.length = ks.length → (perm.mapM fun i => (us ++ ws)[i]?) = some zs → ∀ s, BindsTo s fd ⟨us, ks.zip ws⟩ (ps.zip zs)
theorem TabOk.blk {X : Cx} {C : Tab} {N : List Str} (h : TabOk X C N) (s : Shared) (H : Hp) (scope : Scope) (cenv : PySem.Env) (fp : List Addr) : TabOk (X.blk s H scope cenv fp) C N := ⟨h.calm, h.hN, h.nd, h.hu, h.bs, h.fns⟩
section
variable {X : Cx} {e : Expr} {es : List Expr}
theorem pe_weak {t t' : TE} (h : PE X e t) (w : ∀ σ H Q, t' σ H Q → t σ H Q) : PE X e t' := ⟨fun pins s σ H Q I q => h.run pins s σ H Q I (w σ H Q q)⟩
theorem pt_weak {t t' : TT} (h : PT X e t) (w : ∀ σ H Q, t' σ H Q → t σ H Q) : PT X e t' := ⟨fun pins s σ H Q I q => h.run pins s σ H Q I (w σ H Q q)⟩
theorem pw_weak {t t' : TT} (h : PW X e t) (w : ∀ σ H Q, t' σ H Q → t σ H Q) : PW X e t' := ⟨fun wh pins s σ H Q I q => h.run wh pins s σ H Q I (w σ H Q q)⟩
theorem pa_weak {t t' : TA} (h : PA X es t) (w : ∀ σ H Q, t' σ H Q → t σ H Q) : PA X es t' := ⟨fun pos pins s σ H Q I q => h.run pos pins s σ H Q I (w σ H Q q)⟩
theorem pk_weak {kws : List Keyword} {t t' : TA} (h : PK X kws t) (w : ∀ σ H Q, t' σ H Q → t σ H Q) : PK X kws t' := ⟨fun pos pins s σ H Q I q => h.run pos pins s σ H Q I (w σ H Q q)⟩
theorem pi_weak {tg : Expr} {t t' : TI} (h : PI X tg e t) (w : ∀ σ H Q, t' σ H Q → t σ H Q) : PI X tg e t' := ⟨fun pins s σ H Q I q => h.run pins s σ H Q I (w σ H Q q)⟩
end
section
variable {K : PySem.W.Frag} {ρ ρ1 : List Addr} {H H1 : Hp} {S S1 S2 S3 : Store} {v : Env} {σ : L2.St} {f g g' : EvF} {x y z d : D} {Q : VK} {T' : Store}
theorem Res.ext (q : Res K ρ H d S Q) (e : Ext ρ H ρ1 H1) : Res K ρ1 H1 d S Q := fun ρ' H' z e' R r => q ρ' H' z (e.trans e') R r
theorem one1 {R : V → Hp → Prop} (rs : RepS K ρ H S) (re : RepE K ρ H v σ) (h : f v S = some (x, S1)) (k : ∀ ρ1 H1 vx, Ext ρ H ρ1 H1 → RepS K ρ1 H1 S1 → RepE K ρ1 H1 v σ → RepV K ρ1 H1 x vx → R vx H1) : tE K f σ H R :=
  ⟨ρ, v, S, x, S1, rs, re, h, fun ρ1 H1 vx e R r => k ρ1 H1 vx e R (re.mono e) r⟩
theorem two2 {R : V → V → Hp → Prop} (rs : RepS K ρ H S) (re : RepE K ρ H v σ) (h : f v S = some (x, S1)) (h' : g v S1 = some (y, S2))
    (k : ∀ ρ2 H2 vx vy, Ext ρ H ρ2 H2 → RepS K ρ2 H2 S2 → RepE K ρ2 H2 v σ → RepV K ρ2 H2 x vx → RepV K ρ2 H2 y vy → R vx vy H2) : tE K f σ H fun vx H1 => tE K g σ H1 fun vy H2 => R vx vy H2 :=
  one1 rs re h fun ρ1 H1 vx e1 R1 re1 rx => one1 R1 re1 h' fun ρ2 H2 vy e2 R2 re2 ry => k ρ2 H2 vx vy (e1.trans e2) R2 re2 (RepV.mono e2 _ _ rx) ry
theorem tup_rep {l : List D} {vx : V} (r : RepV K ρ H (.tup l) vx) : ∃ a xs, vx = .ref a ∧ H a = some (.tup xs) ∧ RepL K ρ H l xs := by simpa only [RepV] using r
end
/-! ### what the plain sorts of expressions are -/
theorem ok_star {e : Expr} (h : okX e = true) (es : List Expr) (env : PySem.Env) : starEach (e :: es) env = (false, eval e env) :: starEach es env := by
  cases e <;> first | rfl | cases h
theorem ok_star1 {e : Expr} (h : okX e = true) (env : PySem.Env) : starEach [e] env = [(false, eval e env)] := ok_star h [] env
theorem ok_any {pos : Pos} {env : PySem.Env} : ∀ {es : List Expr}, (∀ e ∈ es, okX e = true) → (backTo pos (starEach es env)).any (·.1) = false
  | [], _ => rfl
  | e :: es, h => by
    rw [ok_star (h e List.mem_cons_self)]
    show (false || (backTo pos (starEach es env)).any (·.1)) = false
    rw [ok_any fun x hx => h x (List.mem_cons_of_mem _ hx)]
    rfl
theorem ok_fold {e : Expr} (h : okX e = true) (env : PySem.Env) (x : Value) : foldedSetIterable e env x = pure x := by
  cases e <;> first | rfl | cases h
theorem ok_ix {e : Expr} (h : okX e = true) : PlainIx e := by
  intro o i
  cases e <;> first | rfl | cases h
theorem ok_mark {e : Expr} (h : okX e = true) (op : CmpOp) : behindInMarks op e = false := by
  cases e <;> first | rfl | cases h
theorem okR_base {e : Expr} (h : okR e = true) (nm : Str) (env : PySem.Env) : attributeBase e nm env (eval e env) = eval e env := by
  cases e <;> first | rfl | cases h
theorem bop_eq {o : BOp} {op : Operator} (h : bopB o op = true) : op = opOf o := by
  cases o <;> cases op <;> first | rfl | cases h
theorem cop_eq {o : COp} {op : CmpOp} (h : copB o op = true) : op = copOf o := by
  cases o <;> cases op <;> first | rfl | cases h
theorem name_ok {x : Str} (h : nameOk x = true) : (x == ("__debug__" : Str)) = false ∧ (x == ("__classdict__" : Str)) = false := by
  unfold nameOk at h
  rw [Bool.and_eq_true] at h
  exact ⟨by simpa using h.1, by simpa using h.2⟩
theorem vis_ok {sc : Scope} {x : Str} (h : visB sc x = true) : Vis sc x := by
  unfold visB at h
  simp only [Bool.or_eq_true, decide_eq_true_eq] at h
  rcases h with (h | h) | h
  · exact .inl h
  · exact .inr (.inl h)
  · exact .inr (.inr h)
theorem glb_ok {X : Cx} {x : Str} (h : glbB X.env.scope x = true) : Gl X x ∧ (x == ("__debug__" : Str)) = false ∧ x ≠ "__name__" := by
  unfold glbB at h
  simp only [Bool.and_eq_true, decide_eq_true_eq] at h
  exact ⟨h.1.1, (name_ok h.1.2).1, by simpa using h.2⟩
theorem blt_ok {X : Cx} {C : Tab} {N : List Str} (T : TabOk X C N) {x : Str} (h : bltB C X.env.scope x = true) : Gl X x ∧ (x == ("__debug__" : Str)) = false ∧ x ≠ "__name__" ∧ X.mg x = none := by
  unfold bltB at h
  rw [Bool.and_eq_true, decide_eq_true_eq] at h
  obtain ⟨a, b, c⟩ := glb_ok h.1
  exact ⟨a, b, c, T.bs x h.2⟩
def Goal (X : Cx) (f : EvF) (nt : Bool) : Ro → List Expr → Prop
  | .e, es => ∃ e, es = [e] ∧ okX e = true ∧ PE X e (tE X.K f)
  | .t, es => ∃ e, es = [e] ∧ PT X e (tT X.K f)
  | .a, es => (∀ e ∈ es, okX e = true) ∧ PA X es (tA X.K f) ∧ ∀ kws : List Keyword, kws.map (·.value) = es → PK X kws (tA X.K f)
  | .i, es => ∃ e, es = [e] ∧ okX e = true ∧ ∀ tg, (nt = true → isTup tg = true) → PI X tg e (tI X.K f)
  | .wA, es => ∀ pos, PW X (.BoolOp .And es pos) (tT X.K f)
  | .wO, es => ∀ pos, PW X (.BoolOp .Or es pos) (tT X.K f)
  | .vA, es => ∀ pos, PE X (.BoolOp .And es pos) (tE X.K f)
  | .vO, es => ∀ pos, PE X (.BoolOp .Or es pos) (tE X.K f)
/-- an expression that is true or false, as a test -/
theorem test_of {X : Cx} {e : Expr} {f : EvF} (h : PE X e (tE X.K f)) (he : ∀ whole, isTrue e X.env whole = (do let v ← whole; standAt e.pos; holding [v] (truthy v))) : PT X e (tT X.K f) := by
  refine pt_weak (pt_val h he) fun σ H Q q => ?_
  obtain ⟨ρ, v, S, b, S', rs, re, hf, k⟩ := q
  refine one1 rs re hf fun ρ1 H1 vx e1 R1 _ rx => ?_
  simp only [RepV] at rx
  exact ⟨b, rx, k ρ1 H1 e1 R1⟩
theorem bool_of {K : PySem.W.Frag} {ρ : List Addr} {H : Hp} {b : Bool} {vx : V} (r : RepV K ρ H (.bl b) vx) : vx = .bl b := by simpa only [RepV] using r
/-! ### what is walked -/
section
variable {K : PySem.W.Frag} {ρ : List Addr} {H : Hp}
theorem it_tup {l : List D} {a : Addr} {xs : List V} (h : H a = some (.tup xs)) (r : RepL K ρ H l xs) : ItOk K ρ H (.tup l) l (Itt K a) where
  go := fun i ρ2 H2 S e R _ hi => ⟨xs, xs[i]'(by rw [← r.length]; exact hi), SqT.of (e.tups _ _ h), by simp⟩
  stop := fun ρ2 H2 S e R _ => ⟨xs, SqT.of (e.tups _ _ h), by rw [r.length]; exact Nat.le_refl _⟩
  yld := fun i ρ2 H2 S x H' e R _ hi y => by
    obtain ⟨rfl, y⟩ := y
    have hx := y xs (SqT.of (e.tups _ _ h))
    obtain ⟨z, hz, rz⟩ := (RepL.mono e _ _ r).get (List.getElem?_eq_getElem hi)
    rw [hx] at hz
    cases hz
    exact ⟨l[i], List.getElem?_eq_getElem hi, Ext.refl _ _, R, rz⟩
theorem it_lst {src : D} {l : List D} {a : Addr} (get : ∀ ρ2 H2 S, Ext ρ H ρ2 H2 → RepS K ρ2 H2 S → stays src l S → ∃ xs, SqL K H2 a xs ∧ RepL K ρ2 H2 l xs) : ItOk K ρ H src l (Itl K a) where
  go := fun i ρ2 H2 S e R st hi => by
    obtain ⟨xs, h, r⟩ := get ρ2 H2 S e R st
    exact ⟨xs, xs[i]'(by rw [← r.length]; exact hi), h, by simp⟩
  stop := fun ρ2 H2 S e R st => by
    obtain ⟨xs, h, r⟩ := get ρ2 H2 S e R st
    exact ⟨xs, h, by rw [r.length]; exact Nat.le_refl _⟩
  yld := fun i ρ2 H2 S x H' e R st hi y => by
    obtain ⟨xs, h, r⟩ := get ρ2 H2 S e R st
    obtain ⟨rfl, y⟩ := y
    have hx := y xs h
    obtain ⟨z, hz, rz⟩ := r.get (List.getElem?_eq_getElem hi)
    rw [hx] at hz
    cases hz
    exact ⟨l[i], List.getElem?_eq_getElem hi, Ext.refl _ _, R, rz⟩
theorem it_lv {l : List D} {a : Addr} {xs : List V} (n : a ∉ ρ) (h : H a = some (.lst xs)) (r : RepL K ρ H l xs) : ItOk K ρ H (.lv l) l (Itl K a) :=
  it_lst fun ρ2 H2 S e _ _ => ⟨xs, SqL.of (e.keep _ _ h n).1, RepL.mono e _ _ r⟩
theorem it_ref {l : List D} {a : Addr} {n : Nat} (h : ρ[n]? = some a) : ItOk K ρ H (.ref n) l (Itl K a) :=
  it_lst fun ρ2 H2 S e R st => by
    obtain ⟨t, e'⟩ := e.pre
    obtain ⟨xs, h1, h2⟩ := R.obj n _ a st (by rw [e']; exact get_pre h)
    exact ⟨xs, SqL.of h1, h2⟩
theorem it_scr {l : List Int} {a : Addr} (h : (∃ o, H a = some (.frz o (.lst (l.map V.int)))) ∨ SqL K (fun _ => none) a (l.map V.int)) : ItOk K ρ H (.scr l) (l.map .int) (Itl K a) :=
  it_lst fun ρ2 H2 S e R st => by
    refine ⟨l.map V.int, ?_, RepL.scrI l⟩
    rcases h with ⟨o, h⟩ | h
    · exact .inl (.inr ⟨o, e.frzs _ _ _ h⟩)
    · exact sqL_none h
theorem it_str {s : Str} : ItOk K ρ H (.str s) (s.cps.toList.map fun c => .str ⟨#[c]⟩) (Its s) where
  go := fun i ρ2 H2 S e R _ hi => by
    show i < s.cps.size
    simpa using hi
  stop := fun ρ2 H2 S e R _ => by show s.cps.size ≤ _; simp
  yld := fun i ρ2 H2 S x H' e R _ hi y => by
    obtain ⟨rfl, c, hc, rfl⟩ := y
    refine ⟨.str ⟨#[c]⟩, ?_, Ext.refl _ _, R, by simp [RepV]⟩
    rw [List.getElem?_map, Array.getElem?_toList, hc]
    rfl
theorem it_fn {src : D} {l : List D} {J : It} {n : Nat} {f : Nat → Int} (hs : ∀ S, stays src l S) (hl : l = (List.range n).map fun i => .int (f i)) (h1 : ∀ i H, i < n → J.go i H) (h2 : ∀ H, J.stop n H) (h3 : ∀ i H x H', J.yld i H x H' → H' = H ∧ x = .int (f i)) : ItOk K ρ H src l J where
  go := fun i ρ2 H2 S e R _ hi => h1 i H2 (by rw [hl] at hi; simpa using hi)
  stop := fun ρ2 H2 S e R _ => by rw [hl]; simpa using h2 H2
  yld := fun i ρ2 H2 S x H' e R _ hi y => by
    obtain ⟨rfl, rfl⟩ := h3 i H2 x H' y
    rw [hl] at hi ⊢
    have hi' : i < n := by simpa using hi
    refine ⟨.int (f i), ?_, Ext.refl _ _, R, by simp [RepV]⟩
    rw [List.getElem?_map, List.getElem?_range hi']
    rfl
theorem it_pair {src : D} {l a b : List D} {J : It} (hs : ∀ S, stays src l S) (hl : l = pairs a b) (h1 : ∀ i ρ2 H2, Ext ρ H ρ2 H2 → i < l.length → J.go i H2) (h2 : ∀ ρ2 H2, Ext ρ H ρ2 H2 → J.stop l.length H2)
    (h3 : ∀ i ρ2 H2 x H', Ext ρ H ρ2 H2 → i < l.length → J.yld i H2 x H' → ∃ T x1 x2 d1 d2, x = .ref T ∧ H2 T = none ∧ H' = upd H2 T (.tup [x1, x2]) ∧ a[i]? = some d1 ∧ b[i]? = some d2 ∧ RepV K ρ2 H2 d1 x1 ∧ RepV K ρ2 H2 d2 x2) : ItOk K ρ H src l J where
  go := fun i ρ2 H2 S e R _ hi => h1 i ρ2 H2 e hi
  stop := fun ρ2 H2 S e R _ => h2 ρ2 H2 e
  yld := fun i ρ2 H2 S x H' e R _ hi y => by
    obtain ⟨T, x1, x2, d1, d2, rfl, hT, rfl, e1, e2, r1, r2⟩ := h3 i ρ2 H2 x H' e hi y
    have r : RepL K ρ2 H2 [d1, d2] [x1, x2] := by simp only [RepL]; exact ⟨x1, _, rfl, r1, x2, _, rfl, r2, rfl⟩
    obtain ⟨k1, k2, k3⟩ := rep_tup hT R r
    refine ⟨.tup [d1, d2], ?_, k1, k2, k3⟩
    rw [hl]
    unfold pairs
    rw [List.getElem?_map, (List.getElem?_zip_eq_some (z := (d1, d2))).mpr ⟨e1, e2⟩]
    rfl
end
end Eng
/-! EngB7: targets, what is forgotten, what is walked, beside the text. -/
namespace Eng
open PySem L2 PyProof.Rows
/-! ### targets -/
def tgLen : Tg → Nat
  | .cons _ r => tgLen r + 1
  | _ => 0
mutual
def tgG (K : PySem.W.Frag) : Tg → TG
  | .nm i => gName i
  | .tup r => gTup K (tgLen r) (tgL K r)
  | .nil => fun _ _ _ _ => False
  | .cons _ _ => fun _ _ _ _ => False
def tgL (K : PySem.W.Frag) : Tg → TGs
  | .nil => gNil
  | .cons t r => gCons (tgG K t) (tgL K r)
  | .nm _ => fun _ _ _ _ => False
  | .tup _ => fun _ _ _ _ => False
end
def okT : Expr → Bool
  | .Name .. => true | .Tuple .. => true | _ => false
theorem okT_each {e : Expr} (h : okT e = true) (es : List Expr) (env : PySem.Env) : assignEach (e :: es) env = (false, assign e env) :: assignEach es env := by
  cases e <;> first | rfl | cases h
theorem mg_okT {N : List Str} {sto : Str → Bool} {t : Tg} {e : Expr} (h : mg N sto t false [e] = true) : okT e = true := by
  cases t <;> cases e <;> first | rfl | (simp [mg] at h; done)
theorem mg_len {N : List Str} {sto : Str → Bool} (env : PySem.Env) : ∀ (r : Tg) (es : List Expr), mg N sto r true es = true → (assignEach es env).length = tgLen r ∧ (assignEach es env).findIdx? (·.1) = none
  | .nil, [], _ => ⟨rfl, rfl⟩
  | .cons t r, e :: es, h => by
    simp only [mg, Bool.and_eq_true] at h
    obtain ⟨h1, h2⟩ := mg_len env r es h.2
    rw [okT_each (mg_okT h.1)]
    refine ⟨by simp [tgLen, h1], ?_⟩
    rw [List.findIdx?_cons]
    simp [h2]
  | .nil, e :: es, h => by simp [mg] at h
  | .cons t r, [], h => by simp [mg] at h
  | .nm i, es, h => by cases es <;> simp [mg] at h
  | .tup r, es, h => by cases es <;> simp [mg] at h
mutual
theorem mg_pg {X : Cx} {N : List Str} {sto : Str → Bool} (hc : X.calm = true) (hs : ∀ i x pos, N[i]? = some x → sto x = true → PG X (.Name x pos) (gName i)) : ∀ (t : Tg) (e : Expr), mg N sto t false [e] = true → PG X e (tgG X.K t)
  | .nm i, e, h => by
    cases e <;> first | (simp [mg] at h; done) | skip
    simp only [mg, Bool.and_eq_true, decide_eq_true_eq] at h
    exact hs i _ _ h.1 h.2
  | .tup r, e, h => by
    cases e <;> first | (simp [mg] at h; done) | skip
    rename_i es k pos
    have h' : mg N sto r true es = true := by simpa only [mg] using h
    obtain ⟨h1, h2⟩ := mg_len X.env r es h'
    exact pg_tup hc (mg_pgL hc hs r es h') h1 h2
  | .nil, e, h => by cases e <;> simp [mg] at h
  | .cons t r, e, h => by cases e <;> simp [mg] at h
theorem mg_pgL {X : Cx} {N : List Str} {sto : Str → Bool} (hc : X.calm = true) (hs : ∀ i x pos, N[i]? = some x → sto x = true → PG X (.Name x pos) (gName i)) : ∀ (r : Tg) (es : List Expr), mg N sto r true es = true → PGs X es (tgL X.K r)
  | .nil, [], _ => pgs_nil
  | .cons t r, e :: es, h => by
    simp only [mg, Bool.and_eq_true] at h
    exact pgs_cons (mg_pg hc hs t e h.1) (mg_pgL hc hs r es h.2) (by rw [okT_each (mg_okT h.1)]; rfl)
  | .nil, e :: es, h => by simp [mg] at h
  | .cons t r, [], h => by simp [mg] at h
  | .nm i, es, h => by cases es <;> simp [mg] at h
  | .tup r, es, h => by cases es <;> simp [mg] at h
end
theorem repE_set {K : PySem.W.Frag} {ρ : List Addr} {H : Hp} {v : Env} {σ : L2.St} {d : D} {y : V} (i : Nat) (h : RepE K ρ H v σ) (r : RepV K ρ H d y) : RepE K ρ H (v.set i (some d)) (σ.set i (some y)) := by
  refine ⟨by simp [h.len], fun j d' e => ?_⟩
  by_cases hj : j = i
  · subst hj
    have hlt : j < v.length := by
      have := (List.getElem?_eq_some_iff.mp e).1
      simpa using this
    rw [List.getElem?_set_self hlt] at e
    cases e
    exact ⟨y, by rw [List.getElem?_set_self (by rw [← h.len]; exact hlt)], r⟩
  · rw [List.getElem?_set_ne (Ne.symm hj)] at e
    obtain ⟨z, a, b⟩ := h.get j d' e
    exact ⟨z, by rw [List.getElem?_set_ne (Ne.symm hj)]; exact a, b⟩
theorem repE_none {K : PySem.W.Frag} {ρ : List Addr} {H : Hp} {v : Env} {σ : L2.St} (i : Nat) (h : RepE K ρ H v σ) : RepE K ρ H (v.set i none) σ := by
  refine ⟨by simp [h.len], fun j d' e => ?_⟩
  by_cases hj : j = i
  · subst hj
    have hlt : j < v.length := by
      have := (List.getElem?_eq_some_iff.mp e).1
      simpa using this
    rw [List.getElem?_set_self hlt] at e
    cases e
  · rw [List.getElem?_set_ne (Ne.symm hj)] at e
    exact h.get j d' e
theorem repE_wipe {K : PySem.W.Frag} {ρ : List Addr} {H : Hp} {v : Env} {σ : L2.St} (h : RepE K ρ H v σ) : ∀ w : List Nat, RepE K ρ H (wipeE v w) σ
  | [] => h
  | i :: w => repE_none i (repE_wipe h w)
theorem wipeE_get (v : Env) : ∀ (w : List Nat) (j : Nat), (wipeE v w)[j]? = if j ∈ w then (if j < v.length then some none else none) else v[j]?
  | [], j => by simp [wipeE]
  | i :: w, j => by
    have len : ∀ w : List Nat, (wipeE v w).length = v.length := fun w => by
      induction w with
      | nil => rfl
      | cons a w ih => simp [wipeE, ih]
    show ((wipeE v w).set i none)[j]? = _
    by_cases hj : j = i
    · subst hj
      by_cases hl : j < v.length
      · rw [List.getElem?_set_self (by rw [len]; exact hl)]
        simp [hl]
      · rw [List.getElem?_eq_none (by simp [len]; omega)]
        simp [hl]
    · rw [List.getElem?_set_ne (Ne.symm hj), wipeE_get v w j]
      simp [hj]
theorem wipe_get (σ : L2.St) : ∀ (w : List Nat) (j : Nat), (L2.wipe σ w)[j]? = if j ∈ w then (if j < σ.length then some none else none) else σ[j]?
  | [], j => by simp [L2.wipe]
  | i :: w, j => by
    show ((L2.wipe σ w).set i none)[j]? = _
    by_cases hj : j = i
    · subst hj
      by_cases hl : j < σ.length
      · rw [List.getElem?_set_self (by rw [wipe_length]; exact hl)]
        simp [hl]
      · rw [List.getElem?_eq_none (by simp [wipe_length]; omega)]
        simp [hl]
    · rw [List.getElem?_set_ne (Ne.symm hj), wipe_get σ w j]
      simp [hj]
theorem repE_wipe2 {K : PySem.W.Frag} {ρ : List Addr} {H : Hp} {v : Env} {σ : L2.St} (h : RepE K ρ H v σ) (w : List Nat) : RepE K ρ H (wipeE v w) (L2.wipe σ w) := by
  refine ⟨by rw [wipe_length, ← h.len]; exact (repE_wipe h w).len.trans h.len.symm, fun j d e => ?_⟩
  rw [wipeE_get] at e
  rw [wipe_get]
  by_cases hj : j ∈ w
  · rw [if_pos hj] at e
    split at e <;> cases e
  · rw [if_neg hj] at e ⊢
    exact h.get j d e
theorem wipe_set (σ : L2.St) {w : List Nat} {i : Nat} (x : Option V) (h : i ∈ w) : L2.wipe (σ.set i x) w = L2.wipe σ w := by
  apply List.ext_getElem?
  intro j
  rw [wipe_get, wipe_get]
  by_cases hj : j ∈ w
  · simp [hj]
  · rw [if_neg hj, if_neg hj, List.getElem?_set_ne (fun e => hj (by rw [← e]; exact h))]
theorem wipe_wipe (σ : L2.St) (w : List Nat) : L2.wipe (L2.wipe σ w) w = L2.wipe σ w := by
  apply List.ext_getElem?
  intro j
  rw [wipe_get, wipe_get, wipe_length]
  by_cases hj : j ∈ w <;> simp [hj]
theorem len_bind : ∀ (r : Tg) (l : List D) (v v' : Env), bindL r l v = some v' → l.length = tgLen r
  | .nil, [], _, _, _ => rfl
  | .nil, d :: l, _, _, e => by simp [bindL] at e
  | .cons t r, [], _, _, e => by simp [bindL] at e
  | .cons t r, d :: l, v, v', e => by
    simp only [bindL, Option.bind_eq_some_iff] at e
    obtain ⟨v1, _, e2⟩ := e
    simp [tgLen, len_bind r l v1 v' e2]
  | .nm _, l, _, _, e => by simp [bindL] at e
  | .tup _, l, _, _, e => by simp [bindL] at e
mutual
theorem bind_ok {K : PySem.W.Frag} {ρ : List Addr} {H : Hp} : ∀ (t : Tg) (d : D) (v v' : Env) (σ : L2.St) (y : V) (Q : L2.St → Hp → Prop), RepE K ρ H v σ → RepV K ρ H d y → bindT t d v = some v' →
    (∀ σ', RepE K ρ H v' σ' → (∀ w, tgIn w t = true → L2.wipe σ' w = L2.wipe σ w) → Q σ' H) → tgG K t y σ H Q
  | .nm i, d, v, v', σ, y, Q, re, r, e, k => by
    simp only [bindT, Option.some.injEq] at e
    subst e
    refine k _ (repE_set i re r) fun w hw => ?_
    simp only [tgIn, decide_eq_true_eq] at hw
    exact wipe_set σ _ hw
  | .tup r, d, v, v', σ, y, Q, re, rv, e, k => by
    cases d with
    | tup l =>
      simp only [bindT] at e
      obtain ⟨a, xs, rfl, h1, h2⟩ := tup_rep rv
      obtain ⟨hl, go⟩ := bind_okL r l v v' σ xs Q re h2 e
      exact ⟨a, xs, rfl, SqT.of h1, by rw [← h2.length]; exact hl, go fun σ' h h' => k σ' h fun w hw => h' w (by simpa only [tgIn] using hw)⟩
    | _ => simp [bindT] at e
  | .nil, d, v, v', σ, y, Q, re, rv, e, k => by simp [bindT] at e
  | .cons t r, d, v, v', σ, y, Q, re, rv, e, k => by simp [bindT] at e
theorem bind_okL {K : PySem.W.Frag} {ρ : List Addr} {H : Hp} : ∀ (r : Tg) (l : List D) (v v' : Env) (σ : L2.St) (xs : List V) (Q : L2.St → Hp → Prop), RepE K ρ H v σ → RepL K ρ H l xs → bindL r l v = some v' →
    l.length = tgLen r ∧ ((∀ σ', RepE K ρ H v' σ' → (∀ w, tgIn w r = true → L2.wipe σ' w = L2.wipe σ w) → Q σ' H) → tgL K r xs σ H Q)
  | .nil, l, v, v', σ, xs, Q, re, rl, e => by
    cases l with
    | nil =>
      simp only [bindL, Option.some.injEq] at e
      subst e
      simp only [RepL] at rl
      exact ⟨rfl, fun k => ⟨rl, k σ re fun _ _ => rfl⟩⟩
    | cons d l => simp [bindL] at e
  | .cons t r, l, v, v', σ, xs, Q, re, rl, e => by
    cases l with
    | nil => simp [bindL] at e
    | cons d l =>
      simp only [bindL, Option.bind_eq_some_iff] at e
      obtain ⟨v1, e1, e2⟩ := e
      simp only [RepL] at rl
      obtain ⟨y, ys, rfl, r1, r2⟩ := rl
      have hl : l.length = tgLen r := by
        exact len_bind r l v1 v' e2
      refine ⟨by simp [tgLen, hl], fun k => ⟨y, ys, rfl, bind_ok t d v v1 σ y _ re r1 e1 fun σ1 re1 w1 => ?_⟩⟩
      exact (bind_okL r l v1 v' σ1 ys Q re1 r2 e2).2 fun σ2 re2 w2 => k σ2 re2 fun w hw => by
        simp only [tgIn, Bool.and_eq_true] at hw
        rw [w2 w hw.2, w1 w hw.1]
  | .nm _, l, v, v', σ, xs, Q, re, rl, e => by simp [bindL] at e
  | .tup _, l, v, v', σ, xs, Q, re, rl, e => by simp [bindL] at e
end
end Eng
/-! EngB8: an expression of the text comes to what its like in the small language comes to. -/
namespace Eng
open PySem L2 PyProof.Rows
section
variable {X : Cx} {C : Tab} {N : List Str}
theorem lkS {sc scope : Scope} {x : Str} {k : NameKind} (hk : k ≠ .free) (h : lk scope x = some k) : lk (relS scope sc) x = some k := lookup_relS_keep hk h
/-- a name of a comprehension's own is stored -/
theorem sto_blk (T : TabOk X C N) (s : Shared) (H : Hp) (scope : Scope) (Ca : Addr) (cl : List (Str × Addr)) (fp : List Addr) : ∀ i x pos, N[i]? = some x → stoB scope x = true → PG (X.blk s H scope (compEnvC scope cl Ca X.env) fp) (.Name x pos) (gName i) := by
  intro i x pos hi hx
  unfold stoB at hx
  simp only [Bool.or_eq_true, decide_eq_true_eq] at hx
  refine pg_name (show X.N.Nodup by rw [T.hN]; exact T.nd) (show X.N[i]? = some x by rw [T.hN]; exact hi) ?_ ?_
  · rcases hx with hx | hx
    · exact .inl (lkS (sc := X.env.scope) (by decide) hx)
    · exact .inr (lkS (sc := X.env.scope) (by decide) hx)
  · rcases hx with hx | hx
    · exact .inr (lkS (sc := X.env.scope) (by decide) hx)
    · refine .inl ?_
      show (scope.names.lookup x == some NameKind.cell) = true
      rw [show scope.names.lookup x = some NameKind.cell from hx]
      rfl
theorem mt_nil {as : IE} {sc : Scope} (h : mt C N as .a sc [] = true) : as = .nil := by
  cases as <;> first | rfl | (simp [mt] at h; done)
theorem mt_len {sc : Scope} : ∀ (l : List Expr) (as : IE), mt C N as .a sc l = true → ∀ (F : Nat → Fn) v S q S', evalE F as v S = some (.tup q, S') → q.length = l.length
  | [], as, h, F, v, S, q, S', e => by
    have := mt_nil h
    subst this
    simp only [evalE, Option.some.injEq, Prod.mk.injEq, D.tup.injEq] at e
    rw [← e.1]
    rfl
  | x :: l, as, h, F, v, S, q, S', e => by
    cases as <;> first | (simp [mt] at h; done) | skip
    rename_i a r
    simp only [mt, Bool.and_eq_true] at h
    simp only [evalE, Option.bind_eq_some_iff] at e
    obtain ⟨⟨y, S1⟩, _, ⟨z, S2⟩, e2, e⟩ := e
    cases z with
    | tup q2 =>
      simp only [Option.ite_none_right_eq_some, Option.some.injEq, Prod.mk.injEq, D.tup.injEq] at e
      obtain ⟨_, rfl, _⟩ := e
      simp [mt_len l r h.2 F v S1 q2 S2 e2]
    | _ => simp at e
theorem call_ok (T : TabOk X C N) {k : Nat} {x : Str} {p pos : Pos} {l : List Expr} {as : IE} {ps : List Str} {b : Bool} (hg : glbB X.env.scope x = true) (hf : C.fn[k]? = some (x, ps)) (hn : l = [] → as = .nil) (ha : Goal X (evalE C.T as) b .a l) :
    PE X (.Call (.Name x p) l [] pos) (tE X.K (evalE C.T (.call k as))) := by
  obtain ⟨f, fd, lv, hm, hk, hr, F, hb, hlen, _⟩ := T.fns k x ps hf
  obtain ⟨g1, g2, _⟩ := glb_ok hg
  obtain ⟨hx, hp, _⟩ := ha
  cases l with
  | nil =>
    have := hn rfl
    subst this
    refine pe_weak (pe_call0 F hr g1 hm hk hb .nil pass0 g2) fun σ H Q q => ?_
    obtain ⟨ρ, v, S, d, S', rs, re, h, q⟩ := q
    simp only [evalE, Option.bind_some] at h
    exact ⟨hlen _ _ _ h, ρ, S, [], d, S', rs, by simp [RepL], h, q⟩
  | cons e es =>
    refine pe_weak (pe_call F hr g1 hm hk hb .nil pass0 hp g2 (ok_star (hx e List.mem_cons_self) es _) (ok_any fun y hy => hx y (List.mem_cons_of_mem _ hy))) fun σ H Q q => ?_
    obtain ⟨ρ, v, S, d, S', rs, re, h, q⟩ := q
    simp only [evalE, Option.bind_eq_some_iff] at h
    obtain ⟨⟨x1, S1⟩, h1, h⟩ := h
    cases x1 with
    | tup args =>
      exact ⟨ρ, v, S, args, S1, rs, re, h1, fun ρ1 H1 ys e1 R1 ry => by
        dsimp only
        rw [List.append_nil]
        exact ⟨by rw [← ry.length]; exact hlen _ _ _ h, ρ1, S1, args, d, S', R1, ry, h, q.ext e1⟩⟩
    | _ => cases h
theorem mapM_rep {K : PySem.W.Frag} {ρ : List Addr} {H : Hp} {l : List D} {xs : List V} (r : RepL K ρ H l xs) : ∀ (perm : List Nat) (l' : List D), (perm.mapM fun i => l[i]?) = some l' → ∃ ys, (perm.mapM fun i => xs[i]?) = some ys ∧ RepL K ρ H l' ys
  | [], l', h => by
    simp only [List.mapM_nil, Option.pure_def, Option.some.injEq] at h
    subst h
    exact ⟨[], by simp, by simp [RepL]⟩
  | i :: perm, l', h => by
    simp only [List.mapM_cons, Option.pure_def, Option.bind_eq_bind, Option.bind_eq_some_iff, Option.some.injEq] at h
    obtain ⟨d, h1, l2, h2, rfl⟩ := h
    obtain ⟨y, e1, r1⟩ := r.get h1
    obtain ⟨ys, e2, r2⟩ := mapM_rep r perm l2 h2
    refine ⟨y :: ys, ?_, ?_⟩
    · simp only [List.mapM_cons, Option.pure_def, Option.bind_eq_bind, e1, e2, Option.bind_some]
    · simp only [RepL]
      exact ⟨y, ys, rfl, r1, r2⟩
theorem mapM_vals {xs : List V} {us : List Value} (r : Vals xs us) : ∀ (perm : List Nat) (ys : List V), (perm.mapM fun i => xs[i]?) = some ys → ∃ zs, (perm.mapM fun i => us[i]?) = some zs ∧ Vals ys zs
  | [], ys, h => by
    simp only [List.mapM_nil, Option.pure_def, Option.some.injEq] at h
    subst h
    exact ⟨[], by simp, .nil⟩
  | i :: perm, ys, h => by
    simp only [List.mapM_cons, Option.pure_def, Option.bind_eq_bind, Option.bind_eq_some_iff, Option.some.injEq] at h
    obtain ⟨d, h1, l2, h2, rfl⟩ := h
    obtain ⟨u, e1, r1⟩ := r.get h1
    obtain ⟨zs, e2, r2⟩ := mapM_vals r perm l2 h2
    exact ⟨u :: zs, by simp only [List.mapM_cons, Option.pure_def, Option.bind_eq_bind, e1, e2, Option.bind_some], .cons r1 r2⟩
theorem kw_len : ∀ kws : List Keyword, kws.all (fun k => k.arg.isSome) = true → kws.length = (kws.filterMap (·.arg)).length
  | [], _ => rfl
  | a :: r, h => by
    rw [List.all_cons, Bool.and_eq_true] at h
    obtain ⟨nm, hnm⟩ := Option.isSome_iff_exists.mp h.1
    rw [List.filterMap_cons, hnm]
    simp [kw_len r h.2]
theorem kw_each {env : PySem.Env} {pos : Pos} : ∀ (kws : List Keyword), kws.all (fun k => k.arg.isSome) = true → (backToKw pos (keywordEach kws env)).all (·.1.isSome) = true ∧ (backToKw pos (keywordEach kws env)).filterMap (·.1) = kws.filterMap (·.arg) ∧ (backToKw pos (keywordEach kws env)).any (·.1.isNone) = false
  | [], _ => ⟨rfl, rfl, rfl⟩
  | ⟨nm, e, kp⟩ :: kws, h => by
    rw [List.all_cons, Bool.and_eq_true] at h
    obtain ⟨a, b, c⟩ := kw_each (env := env) (pos := pos) kws h.2
    cases nm with
    | none => cases h.1
    | some nm =>
      refine ⟨?_, ?_, ?_⟩
      · show (true && (backToKw pos (keywordEach kws env)).all (·.1.isSome)) = true
        rw [a]; rfl
      · show nm :: (backToKw pos (keywordEach kws env)).filterMap (·.1) = nm :: kws.filterMap (·.arg)
        rw [b]
      · show (false || (backToKw pos (keywordEach kws env)).any (·.1.isNone)) = false
        rw [c]; rfl
theorem callk_ok (T : TabOk X C N) {k : Nat} {x : Str} {p pos : Pos} {l : List Expr} {kws : List Keyword} {perm : List Nat} {as ks : IE} {ps : List Str} {b b' : Bool} (hg : glbB X.env.scope x = true) (hf : C.fn[k]? = some (x, ps)) (hn : l = [] → as = .nil) (ln1 : ∀ v S q S', evalE C.T as v S = some (.tup q, S') → q.length = l.length) (ln2 : ∀ v S q S', evalE C.T ks v S = some (.tup q, S') → q.length = kws.length)
    (ha : Goal X (evalE C.T as) b .a l) (hk2 : Goal X (evalE C.T ks) b' .a (kws.map (·.value))) (hall : kws.all (fun k => k.arg.isSome) = true) (hkw : (k, l.length, perm, kws.filterMap (·.arg)) ∈ C.kw) :
    PE X (.Call (.Name x p) l kws pos) (tE X.K (evalE C.T (.callk k perm as ks))) := by
  obtain ⟨f, fd, lv, hm, hk, hr, F, _, hlen, hbk⟩ := T.fns k x ps hf
  obtain ⟨g1, g2, _⟩ := glb_ok hg
  obtain ⟨hx, hp, _⟩ := ha
  obtain ⟨hx2, _, hpk⟩ := hk2
  have pk := hpk kws rfl
  refine ⟨fun pins s σ H Q I h => ?_⟩
  obtain ⟨kw1, kw2, kw3⟩ := kw_each (env := X.env) (pos := pos) kws hall
  refine wpAny_Call_Name_kw (ld_glob I g1 hm ?_ g2)
  -- behind the arguments
  have fin : ∀ (us ws : List Value) (s2 : Shared) (vs zs : List V) (H2 : Hp) (ρ2 : List Addr) (S2 : Store) (q1 q2 l' : List D) (d : D) (S' : Store), L2.Inv X pins σ H2 s2 → Vals vs us → Vals zs ws → RepS X.K ρ2 H2 S2 → RepL X.K ρ2 H2 q1 vs → RepL X.K ρ2 H2 q2 zs → us.length = l.length →
      ws.length = (kws.filterMap (·.arg)).length → permD perm (q1 ++ q2) = some l' → C.T k l' S2 = some (d, S') → Res X.K ρ2 H2 d S' Q → wpAny (model X.prog X.w) X.A (call (.ref f) us ((kws.filterMap (·.arg)).zip ws)) (EP X pins σ Q) X.xe s2 := by
    intro us ws s2 vs zs H2 ρ2 S2 q1 q2 l' d S' I2 r1 r2 R2 a1 a2 l1 l2 hperm hT hq
    obtain ⟨ys, e1, ry⟩ := mapM_rep (a1.append a2) perm l' hperm
    obtain ⟨zz, e2, rz⟩ := mapM_vals (r1.append r2) perm ys e1
    refine wpAny_call (codeAny_mono (F.run X.A X.stack s2 H2 ⟨us, (kws.filterMap (·.arg)).zip ws⟩ zz ys Q E0 hr I2.env0 (hbk _ perm _ hkw us ws zz l1 l2 e2 s2) rz ⟨by rw [← ry.length]; exact hlen _ _ _ hT, ρ2, S2, l', d, S', R2, ry, hT, hq⟩) fun r s' hq' => ?_)
    cases r with
    | error e => exact (show False from hq').elim
    | ok fl =>
      cases fl with
      | ret u => exact I2.after hq'
      | next => exact False.elim hq'
      | brk => exact False.elim hq'
      | cont => exact False.elim hq'
  obtain ⟨ρ, v, S, d, S', rs, re, h, q⟩ := h
  simp only [evalE, Option.bind_eq_some_iff] at h
  obtain ⟨⟨x1, S1⟩, h1, ⟨x2, S2⟩, h2, h⟩ := h
  cases x1 with
  | tup q1 =>
    cases x2 with
    | tup q2 =>
      simp only [Option.bind_eq_some_iff] at h
      obtain ⟨l', hl', h⟩ := h
      have n1 := ln1 _ _ _ _ h1
      have n2 : q2.length = (kws.filterMap (·.arg)).length := (ln2 _ _ _ _ h2).trans (kw_len kws hall)
      cases l with
      | nil =>
        have := hn rfl
        subst this
        simp only [evalE, Option.some.injEq, Prod.mk.injEq, D.tup.injEq] at h1
        obtain ⟨rfl, rfl⟩ := h1
        refine PySem.W.callWith_KW0 (h₀ := X.base) I.ok.mod.kin hk kw1 (thn (pk.run pos pins s σ H _ I ⟨ρ, v, S, q2, S2, rs, re, h2, fun ρ2 H2 zs e2 R2 rz => (⟨e2, R2, rz⟩ : Ext ρ H ρ2 H2 ∧ RepS X.K ρ2 H2 S2 ∧ RepL X.K ρ2 H2 q2 zs) |> fun z => (⟨ρ2, z⟩ : ∃ ρ2, Ext ρ H ρ2 H2 ∧ RepS X.K ρ2 H2 S2 ∧ RepL X.K ρ2 H2 q2 zs)⟩) fun ws s2 ⟨zs, H2, I2, rz, ρ2, e2, R2, a2⟩ => ⟨I2.kIn, ?_⟩) (by rw [kw3]; rfl)
        rw [kw2]
        exact fin [] ws s2 [] zs H2 ρ2 S2 [] q2 l' d S' I2 .nil rz R2 (by simp [RepL]) a2 rfl (by rw [← rz.length, ← a2.length]; exact n2) hl' h (q.ext e2)
      | cons e es =>
        have hs := ok_star (hx e List.mem_cons_self) es X.env
        refine PySem.W.callWith_KW (h₀ := X.base) I.ok.mod.kin hk kw1 (thn (hp.run pos pins s σ H _ I ⟨ρ, v, S, q1, S1, rs, re, h1, fun ρ1 H1 ys e1 R1 ry => (⟨ρ1, e1, R1, ry⟩ : ∃ ρ1, Ext ρ H ρ1 H1 ∧ RepS X.K ρ1 H1 S1 ∧ RepL X.K ρ1 H1 q1 ys)⟩) fun us s1 ⟨vs, H1, I1, r1, ρ1, e1, R1, a1⟩ => ?_) (by rw [ok_any hx, kw3]; rfl) hs
        refine thn (pk.run pos pins s1 σ H1 _ I1 ⟨ρ1, v, S1, q2, S2, R1, re.mono e1, h2, fun ρ2 H2 zs e2 R2 rz => (⟨ρ2, e2, R2, rz⟩ : ∃ ρ2, Ext ρ1 H1 ρ2 H2 ∧ RepS X.K ρ2 H2 S2 ∧ RepL X.K ρ2 H2 q2 zs)⟩) fun ws s2 ⟨zs, H2, I2, rz, ρ2, e2, R2, a2⟩ => ⟨I2.kIn, ?_⟩
        rw [kw2]
        exact fin us ws s2 vs zs H2 ρ2 S2 q1 q2 l' d S' I2 r1 rz R2 (RepL.mono e2 _ _ a1) a2 (by rw [← r1.length, ← a1.length]; exact n1) (by rw [← rz.length, ← a2.length]; exact n2) hl' h (q.ext (e1.trans e2))
    | _ => cases h
  | _ => cases h
end
end Eng
/-! EngB9: comprehensions, walks, and the whole of the expressions. -/
namespace Eng
open PySem L2 PyProof.Rows
section
variable {X : Cx} {C : Tab} {N : List Str}
/-- a comprehension's turns: what the loop's like comes to is what is left to come -/
theorem comp_ok (T : TabOk X C N) {m : Bool} {own : List Nat} {it c e : IE} {tg : Tg} {te iter elt : Expr} {ifs : List Expr} {scope : Scope} {pos : Pos} {tt : TT}
    (hi : ∀ tg, (needTup it = true → isTup tg = true) → PI X tg iter (tI X.K (evalE C.T it))) (hit : okX iter = true) (hnt : needTup it = true → isTup te = true) (hmg : mg N (stoB scope) tg false [te] = true) (hin : tgIn own tg = true) (hb : blkC N X.env.scope scope (ownOf N own) = true)
    (ht : ∀ (s : Shared) (H : Hp) (Ca : Addr) (cl : List (Str × Addr)) (fp : List Addr), PTs (X.blk s H scope (compEnvC scope cl Ca X.env) fp) ifs tt) (htt : ∀ σ H Q, tT X.K (evalE C.T c) σ H Q → tt σ H Q)
    (he : ∀ (s : Shared) (H : Hp) (Ca : Addr) (cl : List (Str × Addr)) (fp : List Addr), PE (X.blk s H scope (compEnvC scope cl Ca X.env) fp) elt (tE X.K (evalE C.T e))) :
    ∀ σ H Q, tE X.K (evalE C.T (.comp m own it tg c e)) σ H Q → tLc (tI X.K (evalE C.T it)) (tgG X.K tg) tt (tE X.K (evalE C.T e)) ((ownOf N own).map (·.2)) σ H Q := by
  intro σ H Q ⟨ρ, v, S, d, S', rs, re, h, q⟩
  have eo : (ownOf N own).map (·.2) = own := by
    unfold ownOf
    rw [List.map_map]
    exact List.map_id'' (fun _ => rfl) own
  rw [eo]
  simp only [evalE, Option.bind_eq_some_iff, Option.ite_none_right_eq_some] at h
  obtain ⟨⟨src, S1⟩, h1, l, h2, hz, S2, h3, h4⟩ := h
  refine ⟨ρ, v, S, src, S1, l, rs, re, h1, h2, fun ρ1 H1 J e1 R1 J1 D hD => ?_⟩
  -- the list stands at D by the number k
  obtain ⟨ρ2, eD, R2, rD⟩ := rep_lst (K := X.K) (l := []) (xs := []) true hD R1 (by simp [RepL])
  have kD : ρ2[S1.length]? = some D := by
    have : RepV X.K ρ2 (upd H1 D (.lst [])) (.ref S1.length) (.ref D) := rD
    simp only [RepV] at this
    obtain ⟨a, e, h⟩ := this
    cases e
    exact h
  let W : Nat → Nat → Hp → Prop := fun i m' H' => m' = l.length - i ∧ i ≤ l.length ∧ ∃ ρ' T', Ext ρ1 H1 ρ' H' ∧ RepS X.K ρ' H' T' ∧ ρ'[S1.length]? = some D ∧ RepE X.K ρ' H' (wipeE v own) (L2.wipe σ own) ∧ compL src l tg (wipeE v own) S1.length (evalE C.T c) (evalE C.T e) (l.drop i) T' = some S2
  refine ⟨W, ⟨l.length, by simp, Nat.zero_le _, ρ2, S1 ++ [.lst []], eD, R2, kD, repE_wipe2 ((re.mono e1).mono eD) own, by simpa using h3⟩, ?_⟩
  rintro i m' H' ⟨rfl, hil, ρ', T', ex, R', kD', re', hr⟩
  by_cases hlt : i < l.length
  · rw [List.drop_eq_getElem_cons hlt] at hr
    simp only [compL, Option.ite_none_right_eq_some] at hr
    obtain ⟨st, hr⟩ := hr
    simp only [Option.bind_eq_some_iff] at hr
    obtain ⟨v', hv, ⟨b, T1⟩, hc, hr⟩ := hr
    refine .inr ⟨J1.go i ρ' H' T' ex R' st hlt, fun H2 => W (i + 1) (l.length - (i + 1)) H2, fun H2 w => ⟨l.length - (i + 1), by omega, w⟩, fun x H2 hy => ?_⟩
    obtain ⟨dx, hd, ex2, R3, rx⟩ := J1.yld i ρ' H' T' x H2 ex R' st hlt hy
    have hdx : dx = l[i] := by
      rw [List.getElem?_eq_getElem hlt] at hd
      exact (Option.some.inj hd).symm
    subst hdx
    refine bind_ok tg _ _ v' _ x _ (re'.mono ex2) rx hv fun σ2 re2 w2 => ⟨?_, ?_⟩
    · rw [w2 own hin, wipe_wipe]
    · cases b with
      | bl k =>
        refine htt σ2 H2 _ ⟨ρ', v', T', k, T1, R3, re2, hc, fun ρ3 H3 e3 R4 => ?_⟩
        cases k with
        | false =>
          show W (i + 1) _ H3
          exact ⟨rfl, hlt, ρ3, T1, (ex.trans ex2).trans e3, R4, by obtain ⟨t, z⟩ := e3.pre; rw [z]; exact get_pre kD', (re'.mono ex2).mono e3, hr⟩
        | true =>
          simp only [Option.bind_eq_some_iff] at hr
          obtain ⟨⟨y, T2⟩, hy2, hr⟩ := hr
          show tE X.K (evalE C.T e) σ2 H3 _
          refine one1 R4 (re2.mono e3) hy2 fun ρ4 H4 vy e4 R5 re5 ry => ?_
          have kD4 : ρ4[S1.length]? = some D := by
            obtain ⟨t, z⟩ := e3.pre
            obtain ⟨t', z'⟩ := e4.pre
            rw [z', z]
            exact get_pre (get_pre kD')
          obtain ⟨o, ho, ro⟩ := R5.at kD4
          rw [ho] at hr
          cases o with
          | dic q => cases hr
          | lst acc =>
            simp only [Option.ite_none_right_eq_some] at hr
            obtain ⟨hacc, hr⟩ := hr
            obtain ⟨xs, hx1, hx2⟩ := ro
            obtain ⟨e5, R6⟩ := rep_set R5 kD4 hx1 (hx2.append (RepL.one ry))
            refine ⟨xs, hx1, by rw [← hx2.length]; exact lenLine_lt hacc, rfl, hlt, ρ4, _, (((ex.trans ex2).trans e3).trans e4).trans e5, R6, kD4, (((re'.mono ex2).mono e3).mono e4).mono e5, hr⟩
      | _ => cases hr
  · have ei : i = l.length := by omega
    subst ei
    rw [List.drop_length] at hr
    simp only [compL, Option.ite_none_right_eq_some, Option.some.injEq] at hr
    obtain ⟨st, hr⟩ := hr
    subst hr
    refine .inl ⟨J1.stop ρ' H' T' ex R' st, ?_⟩
    · have rv : RepV X.K ρ' H' (.ref S1.length) (.ref D) := by
        simp only [RepV]
        exact ⟨D, rfl, kD'⟩
      cases m with
      | true =>
        simp only [if_true, Option.some.injEq, Prod.mk.injEq] at h4
        obtain ⟨rfl, rfl⟩ := h4
        exact q ρ' H' _ (e1.trans ex) R' rv
      | false =>
        simp only [Bool.false_eq_true, if_false] at h4
        obtain ⟨g1, g2, g3⟩ := gc_ok R1 ex R' rv h4
        exact q ρ1 H' _ (e1.trans g1) g2 g3
end
end Eng
/-! EngB10: the whole of the expressions. -/
namespace Eng
open PySem L2 PyProof.Rows
section
variable {X : Cx} {C : Tab} {N : List Str}
theorem boot_blt (b : Blt) : (∃ id, valOf b = .builtin id ∧ bootBuiltins (bltName b) = some (.builtin id)) ∨ ∃ T, valOf b = .type T ∧ bootBuiltins (bltName b) = some (.type T) := by
  cases b <;> first
    | exact .inl ⟨_, rfl, by decide +kernel⟩
    | exact .inr ⟨_, rfl, by decide +kernel⟩
theorem blt_plain (T : TabOk X C N) {m : Bool} {b : Blt} {p pos : Pos} {l : List Expr} {as : IE} {nt : Bool} (hx : bltB C X.env.scope (bltName b) = true) (hl : l.length ≠ 0) (ha : Goal X (evalE C.T as) nt .a l) :
    PE X (.Call (.Name (bltName b) p) l [] pos) (tE X.K (evalE C.T (.blt m b as))) := by
  obtain ⟨g1, g2, g3, g4⟩ := blt_ok T hx
  obtain ⟨hox, hp, _⟩ := ha
  cases l with
  | nil => exact absurd rfl hl
  | cons e es =>
    have he := ok_star (hox e List.mem_cons_self) es X.env
    have hpl : (backTo pos (starEach es X.env)).any (·.1) = false := ok_any fun y hy => hox y (List.mem_cons_of_mem _ hy)
    have go : PE X (.Call (.Name (bltName b) p) (e :: es) [] pos) (tCB (tGA X.K fun l S => (bltD S b l).map fun d => alloc m d S) (tA X.K (evalE C.T as))) := by
      have hc := call_blt (X := X) T.calm m b
      rcases boot_blt b with ⟨id, e1, e2⟩ | ⟨t, e1, e2⟩
      · rw [e1] at hc
        exact pe_callB hc g1 g4 e2 hp g3 g2 he hpl
      · rw [e1] at hc
        exact pe_callTy hc g1 g4 e2 hp g3 g2 he hpl
    refine pe_weak go fun σ H Q q => ?_
    obtain ⟨ρ, v, S, d, S', rs, re, h, q⟩ := q
    simp only [evalE, Option.bind_eq_some_iff] at h
    obtain ⟨⟨x1, S1⟩, h1, h⟩ := h
    cases x1 with
    | tup args => exact ⟨ρ, v, S, args, S1, rs, re, h1, fun ρ1 H1 ys e1 R1 ry => ⟨ρ1, S1, args, d, S', R1, ry, h, q.ext e1⟩⟩
    | _ => cases h
def kindTy : D → String
  | .non => "NoneType" | .bl _ => "bool" | .int _ => "int" | .str _ => "str" | .tup _ => "tuple" | .lv _ => "list" | .scr _ => "list" | .ref _ => "list"
theorem kit_all (t : Ty) (d : D) : kitB (kindTy d) (tyName t) = some (kindIs t d) := by
  cases t <;> cases d <;> (show kitB _ _ = some _; simp only [kindTy, tyName, kindIs]; decide +kernel)
theorem kit_dict (t : Ty) (n : Nat) : kitB "dict" (tyName t) = some (kindIs t (.ref n)) := by
  cases t <;> (show kitB _ _ = some _; simp only [tyName, kindIs]; decide +kernel)
theorem tyx_of {K : PySem.W.Frag} {ρ : List Addr} {H : Hp} {S : Store} {d : D} {v : V} (R : RepS K ρ H S) (h : RepV K ρ H d v) : TyX K H v (.type (kindTy d)) ∨ ∃ n, d = .ref n ∧ TyX K H v (.type "dict") := by
  cases d with
  | non => simp only [RepV] at h; subst h; exact .inl (.base .non)
  | bl b => simp only [RepV] at h; subst h; exact .inl (.base (.bl b))
  | int b => simp only [RepV] at h; subst h; exact .inl (.base (.int b))
  | str b => simp only [RepV] at h; subst h; exact .inl (.base (.str b))
  | tup l =>
    obtain ⟨a, xs, rfl, h1, _⟩ := tup_rep h
    exact .inl (.base (.tup h1))
  | lv l =>
    simp only [RepV] at h
    obtain ⟨a, xs, rfl, _, h1, _⟩ := h
    exact .inl (.base (.lst h1))
  | scr l =>
    simp only [RepV] at h
    obtain ⟨a, rfl, h1⟩ := h
    rcases h1 with ⟨o, h1⟩ | h1
    · exact .inl (.base (.frz h1))
    · rcases h1 with (h1 | ⟨o, h1⟩) | ⟨o, its, n, hk, hc, _⟩
      · cases h1
      · cases h1
      · exact .inl (.kList hk hc)
  | ref n =>
    simp only [RepV] at h
    obtain ⟨a, rfl, h1⟩ := h
    obtain ⟨o, _, q⟩ := R.at h1
    cases o with
    | lst l =>
      obtain ⟨xs, e, _⟩ := q
      exact .inl (.base (.lst e))
    | dic l =>
      obtain ⟨xs, e, _⟩ := q
      exact .inr ⟨n, rfl, .base (.dK e)⟩
theorem boot_isty (t : Ty) : bootBuiltins (Str.ofString (tyName t)) = some (.type (tyName t)) := by
  cases t <;> decide +kernel
theorem isi_ok (T : TabOk X C N) {t : Ty} {p pos p2 : Pos} {y : Expr} {a : IE} (hx : bltB C X.env.scope "isinstance" = true) (ht : bltB C X.env.scope (Str.ofString (tyName t)) = true) (oy : okX y = true) (ha : PE X y (tE X.K (evalE C.T a))) :
    PE X (.Call (.Name "isinstance" p) [y, .Name (Str.ofString (tyName t)) p2] [] pos) (tE X.K (evalE C.T (.isi t a))) := by
  obtain ⟨g1, g2, g3, g4⟩ := blt_ok T hx
  obtain ⟨t1, t2, t3, t4⟩ := blt_ok T ht
  have pt : PE X (.Name (Str.ofString (tyName t)) p2) (tC (.ty (tyName t))) := pe_bltn t1 t4 (boot_isty t) (show RelV (.ty (tyName t)) (.type (tyName t)) from rfl) t3 t2
  refine pe_weak (pe_callB call_isi g1 g4 boot_isinstance (pa_cons ha (pa_cons pt pa_nil rfl) (ok_star oy _ _)) g3 g2 (ok_star oy _ _) rfl) fun σ H Q q => ?_
  obtain ⟨ρ, v, S, d, S', rs, re, h, q⟩ := q
  simp only [evalE, Option.map_eq_some_iff] at h
  obtain ⟨⟨x, S1⟩, h1, e⟩ := h
  obtain ⟨rfl, rfl⟩ := Prod.mk.inj e
  refine one1 rs re h1 fun ρ1 H1 vx e1 R1 _ rx => ?_
  have fin : Q (.bl (kindIs t x)) H1 := q ρ1 H1 _ e1 R1 (by simp [RepV])
  rcases tyx_of R1 rx with ty | ⟨n, rfl, ty⟩
  · exact ⟨vx, .ty (tyName t), _, _, _, rfl, .ty _, ty, kit_ty (kit_all t x), fin⟩
  · exact ⟨vx, .ty (tyName t), _, _, _, rfl, .ty _, ty, kit_ty (kit_dict t n), fin⟩
end
end Eng
/-! EngB11: the whole of the expressions. -/
namespace Eng
open PySem L2 PyProof.Rows
section
variable {X : Cx} {C : Tab} {N : List Str}
theorem tCmp_of {a b x y : IE} {o : COp} (hc : X.calm = true) : ∀ σ H Q, tE X.K (evalE C.T (.cmp o a b)) σ H Q → tOp (tG2 X.K fun x y S => (cmpD S o x y).map fun k => (.bl k, S)) (tE X.K (evalE C.T a)) (tE X.K (evalE C.T b)) σ H Q := by
  intro σ H Q ⟨ρ, v, S, d, S', rs, re, h, q⟩
  simp only [evalE, Option.bind_eq_some_iff] at h
  obtain ⟨⟨x, S1⟩, h1, ⟨y, S2⟩, h2, h⟩ := h
  exact two2 rs re h1 h2 fun ρ2 H2 vx vy e2 R2 _ rx ry => ⟨ρ2, S2, x, y, d, S', R2, rx, ry, h, q.ext e2⟩
theorem tChain_of {a b c : IE} {o o' : COp} : ∀ σ H Q, tE X.K (evalE C.T (.chain o o' a b c)) σ H Q →
    tChain (tG2 X.K fun x y S => (cmpD S o x y).map fun k => (.bl k, S)) (tG2 X.K fun x y S => (cmpD S o' x y).map fun k => (.bl k, S)) (tE X.K (evalE C.T a)) (tE X.K (evalE C.T b)) (tE X.K (evalE C.T c)) σ H Q := by
  intro σ H Q ⟨ρ, v, S, d, S', rs, re, h, q⟩
  simp only [evalE, Option.bind_eq_some_iff] at h
  obtain ⟨⟨x, S1⟩, h1, ⟨y, S2⟩, h2, k, h3, h⟩ := h
  refine two2 rs re h1 h2 fun ρ2 H2 vx vy e2 R2 re2 rx ry => ⟨ρ2, S2, x, y, .bl k, S2, R2, rx, ry, by simp [h3], fun ρ3 H3 z e3 R3 rz => ⟨k, bool_of rz, ?_⟩⟩
  cases k with
  | false =>
    rw [if_neg Bool.false_ne_true] at h ⊢
    simp only [Option.some.injEq, Prod.mk.injEq] at h
    obtain ⟨rfl, rfl⟩ := h
    exact (q.ext (e2.trans e3)).at R3 (by simp [RepV])
  | true =>
    rw [if_pos rfl] at h ⊢
    simp only [Option.bind_eq_some_iff] at h
    obtain ⟨⟨z', T3⟩, h4, h5⟩ := h
    exact one1 R3 (re2.mono e3) h4 fun ρ4 H4 vz e4 R4 _ rz' => ⟨ρ4, T3, y, z', d, S', R4, RepV.mono e4 _ _ (RepV.mono e3 _ _ ry), rz', h5, q.ext ((e2.trans e3).trans e4)⟩
theorem tTest_of {f : EvF} {t : TE} (h : ∀ σ H Q, tE X.K f σ H Q → t σ H Q) : ∀ σ H (Q : Bool → Hp → Prop), tT X.K f σ H Q → tTest t σ H Q := by
  intro σ H Q ⟨ρ, v, S, b, S', rs, re, hf, k⟩
  exact h σ H _ ⟨ρ, v, S, .bl b, S', rs, re, hf, fun ρ' H' z e R r => ⟨b, bool_of r, k ρ' H' e R⟩⟩
theorem last_mark {o o' : CmpOp} {y z : Expr} (h : okX z = true) : lastMarks [o, o'] [y, z] = false := by
  show lastMarks [o'] [z] = false
  show behindInMarks o' z = false
  exact ok_mark h o'
theorem tAnd_of {a b : IE} : ∀ σ H (Q : Bool → Hp → Prop), tT X.K (evalE C.T (.and a b)) σ H Q → tAnd (tT X.K (evalE C.T a)) (tT X.K (evalE C.T b)) σ H Q := by
  intro σ H Q ⟨ρ, v, S, k, S', rs, re, h, q⟩
  simp only [evalE, Option.bind_eq_some_iff] at h
  obtain ⟨⟨x, S1⟩, h1, h⟩ := h
  cases x with
  | bl c =>
    refine ⟨ρ, v, S, c, S1, rs, re, h1, fun ρ1 H1 e1 R1 => ?_⟩
    cases c with
    | true => exact ⟨ρ1, v, S1, k, S', R1, re.mono e1, h, fun ρ2 H2 e2 R2 => q ρ2 H2 (e1.trans e2) R2⟩
    | false =>
      simp only [Option.some.injEq, Prod.mk.injEq, D.bl.injEq] at h
      obtain ⟨rfl, rfl⟩ := h
      exact q ρ1 H1 e1 R1
  | _ => cases h
theorem tOr_of {a b : IE} : ∀ σ H (Q : Bool → Hp → Prop), tT X.K (evalE C.T (.or a b)) σ H Q → tOr (tT X.K (evalE C.T a)) (tT X.K (evalE C.T b)) σ H Q := by
  intro σ H Q ⟨ρ, v, S, k, S', rs, re, h, q⟩
  simp only [evalE, Option.bind_eq_some_iff] at h
  obtain ⟨⟨x, S1⟩, h1, h⟩ := h
  cases x with
  | bl c =>
    refine ⟨ρ, v, S, c, S1, rs, re, h1, fun ρ1 H1 e1 R1 => ?_⟩
    cases c with
    | false => exact ⟨ρ1, v, S1, k, S', R1, re.mono e1, h, fun ρ2 H2 e2 R2 => q ρ2 H2 (e1.trans e2) R2⟩
    | true =>
      simp only [Option.some.injEq, Prod.mk.injEq, D.bl.injEq] at h
      obtain ⟨rfl, rfl⟩ := h
      exact q ρ1 H1 e1 R1
  | _ => cases h
theorem tAndV_of {a b : IE} : ∀ σ H Q, tE X.K (evalE C.T (.and a b)) σ H Q → tAndV (tE X.K (evalE C.T a)) (tE X.K (evalE C.T b)) σ H Q := by
  intro σ H Q ⟨ρ, v, S, d, S', rs, re, h, q⟩
  simp only [evalE, Option.bind_eq_some_iff] at h
  obtain ⟨⟨x, S1⟩, h1, h⟩ := h
  cases x with
  | bl c =>
    refine one1 rs re h1 fun ρ1 H1 vx e1 R1 re1 rx => ⟨c, bool_of rx, ?_⟩
    cases c with
    | true => exact ⟨ρ1, v, S1, d, S', R1, re1, h, q.ext e1⟩
    | false =>
      simp only [Option.some.injEq, Prod.mk.injEq] at h
      obtain ⟨rfl, rfl⟩ := h
      exact (q.ext e1).at R1 (by simp [RepV])
  | _ => cases h
theorem tOrV_of {a b : IE} : ∀ σ H Q, tE X.K (evalE C.T (.or a b)) σ H Q → tOrV (tE X.K (evalE C.T a)) (tE X.K (evalE C.T b)) σ H Q := by
  intro σ H Q ⟨ρ, v, S, d, S', rs, re, h, q⟩
  simp only [evalE, Option.bind_eq_some_iff] at h
  obtain ⟨⟨x, S1⟩, h1, h⟩ := h
  cases x with
  | bl c =>
    refine one1 rs re h1 fun ρ1 H1 vx e1 R1 re1 rx => ⟨c, bool_of rx, ?_⟩
    cases c with
    | false => exact ⟨ρ1, v, S1, d, S', R1, re1, h, q.ext e1⟩
    | true =>
      simp only [Option.some.injEq, Prod.mk.injEq] at h
      obtain ⟨rfl, rfl⟩ := h
      exact (q.ext e1).at R1 (by simp [RepV])
  | _ => cases h
/-! ### the nodes, one by one -/
theorem n_name (T : TabOk X C N) {i : Nat} {x : Str} {p : Pos} (h : varB N X.env.scope i x = true) : PE X (.Name x p) (tE X.K (evalE C.T (.var i))) := by
  unfold varB at h
  simp only [Bool.and_eq_true, decide_eq_true_eq] at h
  obtain ⟨⟨h1, h2⟩, h3⟩ := h
  obtain ⟨n1, n2⟩ := name_ok h3
  refine pe_weak (pe_var (i := i) (by rw [T.hN]; exact h1) (vis_ok h2) n1 n2) fun σ H Q ⟨ρ, v, S, d, S', rs, re, h, q⟩ => ?_
  simp only [evalE] at h
  split at h
  · rename_i d' e
    simp only [Option.some.injEq, Prod.mk.injEq] at h
    obtain ⟨rfl, rfl⟩ := h
    obtain ⟨y, hy, ry⟩ := re.get i _ e
    exact ⟨y, hy, q.at rs ry⟩
  · cases h
theorem const_of {K : PySem.W.Frag} {f : EvF} {d : D} {z : V} (hf : ∀ v S, f v S = some (d, S)) (r : ∀ ρ H, RepV K ρ H d z) : ∀ σ H Q, tE K f σ H Q → tC z σ H Q := by
  intro σ H Q ⟨ρ, v, S, d', S', rs, re, h, q⟩
  rw [hf] at h
  simp only [Option.some.injEq, Prod.mk.injEq] at h
  obtain ⟨rfl, rfl⟩ := h
  exact q.at rs (r ρ H)
theorem n_bin (T : TabOk X C N) {m : Bool} {o : BOp} {a b : IE} {x y : Expr} {p : Pos} (ha : PE X x (tE X.K (evalE C.T a))) (hb : PE X y (tE X.K (evalE C.T b))) : PE X (.BinOp x (opOf o) y p) (tE X.K (evalE C.T (.bin m o a b))) := by
  refine pe_weak (pe_op (op_bin m o) ha hb) fun σ H Q ⟨ρ, v, S, d, S', rs, re, h, q⟩ => ?_
  simp only [evalE, Option.bind_eq_some_iff] at h
  obtain ⟨⟨x1, S1⟩, h1, ⟨y1, S2⟩, h2, h⟩ := h
  exact two2 rs re h1 h2 fun ρ2 H2 vx vy e2 R2 _ rx ry => ⟨ρ2, S2, x1, y1, d, S', R2, rx, ry, h, q.ext e2⟩
theorem n_neg {a : IE} {x : Expr} {p : Pos} (ha : PE X x (tE X.K (evalE C.T a))) : PE X (.UnaryOp .USub x p) (tE X.K (evalE C.T (.neg a))) := by
  refine pe_weak (pe_un un_neg ha) fun σ H Q ⟨ρ, v, S, d, S', rs, re, h, q⟩ => ?_
  simp only [evalE, Option.bind_eq_some_iff] at h
  obtain ⟨⟨x1, S1⟩, h1, h⟩ := h
  cases x1 with
  | int i =>
    simp only [Option.some.injEq, Prod.mk.injEq] at h
    obtain ⟨rfl, rfl⟩ := h
    refine one1 rs re h1 fun ρ1 H1 vx e1 R1 _ rx => ?_
    simp only [RepV] at rx
    exact ⟨i, rx, (q.ext e1).at R1 (by simp [RepV])⟩
  | _ => cases h
theorem n_not {a : IE} {x : Expr} {p : Pos} (ha : PE X x (tE X.K (evalE C.T a))) : PE X (.UnaryOp .Not x p) (tE X.K (evalE C.T (.not a))) := by
  refine pe_weak (pe_not ha) fun σ H Q ⟨ρ, v, S, d, S', rs, re, h, q⟩ => ?_
  simp only [evalE, Option.bind_eq_some_iff] at h
  obtain ⟨⟨x1, S1⟩, h1, h⟩ := h
  cases x1 with
  | bl i =>
    simp only [Option.some.injEq, Prod.mk.injEq] at h
    obtain ⟨rfl, rfl⟩ := h
    refine one1 rs re h1 fun ρ1 H1 vx e1 R1 _ rx => ?_
    exact ⟨i, bool_of rx, (q.ext e1).at R1 (by simp [RepV])⟩
  | _ => cases h
theorem n_notT {a : IE} {x : Expr} {p : Pos} (ha : PT X x (tT X.K (evalE C.T a))) : PT X (.UnaryOp .Not x p) (tT X.K (evalE C.T (.not a))) := by
  refine pt_weak (pt_not ha) fun σ H Q ⟨ρ, v, S, k, S', rs, re, h, q⟩ => ?_
  simp only [evalE, Option.bind_eq_some_iff] at h
  obtain ⟨⟨x1, S1⟩, h1, h⟩ := h
  cases x1 with
  | bl i =>
    simp only [Option.some.injEq, Prod.mk.injEq, D.bl.injEq] at h
    obtain ⟨rfl, rfl⟩ := h
    exact ⟨ρ, v, S, i, S1, rs, re, h1, q⟩
  | _ => cases h
theorem n_ite {c a b : IE} {x y z : Expr} {p : Pos} (hc : PT X x (tT X.K (evalE C.T c))) (ha : PE X y (tE X.K (evalE C.T a))) (hb : PE X z (tE X.K (evalE C.T b))) : PE X (.IfExp x y z p) (tE X.K (evalE C.T (.ite c a b))) := by
  refine pe_weak (pe_ifExp hc ha hb) fun σ H Q ⟨ρ, v, S, d, S', rs, re, h, q⟩ => ?_
  simp only [evalE, Option.bind_eq_some_iff] at h
  obtain ⟨⟨x1, S1⟩, h1, h⟩ := h
  cases x1 with
  | bl k =>
    refine ⟨ρ, v, S, k, S1, rs, re, h1, fun ρ1 H1 e1 R1 => ?_⟩
    cases k with
    | true => exact ⟨ρ1, v, S1, d, S', R1, re.mono e1, h, q.ext e1⟩
    | false => exact ⟨ρ1, v, S1, d, S', R1, re.mono e1, h, q.ext e1⟩
  | _ => cases h
theorem len_cons {C : Tab} : ∀ (as : IE) (v : Env) (S : Store) (l : List D) (S' : Store), (∃ N sc es, mt C N as .a sc es = true) → evalE C.T as v S = some (.tup l, S') → l.length ≤ lenLine := by
  intro as v S l S' ⟨N, sc, es, hm⟩ h
  cases as <;> first | (cases es <;> simp [mt] at hm; done) | skip
  · simp only [evalE, Option.some.injEq, Prod.mk.injEq, D.tup.injEq] at h
    rw [← h.1]
    decide
  · simp only [evalE, Option.bind_eq_some_iff] at h
    obtain ⟨⟨x1, S1⟩, h1, ⟨y1, S2⟩, h2, h⟩ := h
    cases y1 with
    | tup q =>
      simp only [Option.ite_none_right_eq_some, Option.some.injEq, Prod.mk.injEq, D.tup.injEq] at h
      obtain ⟨hl, rfl, _⟩ := h
      exact hl
    | _ => cases h
theorem n_tup {as : IE} {l : List Expr} {k : Nat} {p : Pos} (hl : ∀ v S l S', evalE C.T as v S = some (.tup l, S') → l.length ≤ lenLine) (ho : ∀ v S d S', evalE C.T as v S = some (d, S') → ∃ q, d = .tup q) (ha : PA X l (tA X.K (evalE C.T as))) : PE X (.Tuple l k p) (tE X.K (evalE C.T (.tup as))) := by
  refine pe_weak (pe_tup ha) fun σ H Q ⟨ρ, v, S, d, S', rs, re, h, q⟩ => ?_
  have h' : evalE C.T as v S = some (d, S') := by simpa only [evalE] using h
  obtain ⟨r, rfl⟩ := ho _ _ _ _ h'
  exact ⟨ρ, v, S, r, S', rs, re, h', fun ρ1 H1 ys e1 R1 ry => ⟨by rw [← ry.length]; exact lenLine_le (hl _ _ _ _ h'), fun a na => (q.ext e1).tup R1 ry na⟩⟩
theorem n_lst {m : Bool} {as : IE} {l : List Expr} {p : Pos} (hl : ∀ v S l S', evalE C.T as v S = some (.tup l, S') → l.length ≤ lenLine) (ha : PA X l (tA X.K (evalE C.T as))) : PE X (.List l p) (tE X.K (evalE C.T (.lst m as))) := by
  refine pe_weak (pe_lst ha) fun σ H Q ⟨ρ, v, S, d, S', rs, re, h, q⟩ => ?_
  simp only [evalE, Option.bind_eq_some_iff] at h
  obtain ⟨⟨x1, S1⟩, h1, h⟩ := h
  cases x1 with
  | tup r =>
    simp only [Option.some.injEq] at h
    refine ⟨ρ, v, S, r, S1, rs, re, h1, fun ρ1 H1 ys e1 R1 ry => ⟨by rw [← ry.length]; exact lenLine_le (hl _ _ _ _ h1), fun a na => ?_⟩⟩
    have q' : Res X.K ρ1 H1 (alloc m (.lv r) S1).1 (alloc m (.lv r) S1).2 Q := by rw [h]; exact q.ext e1
    exact q'.new R1 ry na
  | _ => cases h
theorem n_idx {a i : IE} {x y : Expr} {p : Pos} (oy : okX y = true) (ha : PE X x (tE X.K (evalE C.T a))) (hb : PE X y (tE X.K (evalE C.T i))) : PE X (.Subscript x y p) (tE X.K (evalE C.T (.idx a i))) := by
  refine pe_weak (pe_ix ix_all ha hb (ok_ix oy)) fun σ H Q ⟨ρ, v, S, d, S', rs, re, h, q⟩ => ?_
  simp only [evalE, Option.bind_eq_some_iff] at h
  obtain ⟨⟨x1, S1⟩, h1, ⟨y1, S2⟩, h2, h⟩ := h
  exact two2 rs re h1 h2 fun ρ2 H2 vx vy e2 R2 _ rx ry => ⟨ρ2, S2, x1, y1, d, S', R2, rx, ry, h, q.ext e2⟩
/-- a slice's part -/
def tOf (K : PySem.W.Frag) (k : Bool) (f : EvF) : L2.TO := fun σ H Q => ∃ ρ v S d S' o, RepS K ρ H S ∧ RepE K ρ H v σ ∧ f v S = some (d, S') ∧ partD k d = some o ∧ ∀ ρ' H', Ext ρ H ρ' H' → RepS K ρ' H' S' → Q o H'
theorem po_weak {e : Option Expr} {t t' : L2.TO} (h : PO X e t) (w : ∀ σ H Q, t' σ H Q → t σ H Q) : PO X e t' := ⟨fun pins s σ H Q I q => h.run pins s σ H Q I (w σ H Q q)⟩
theorem po_no {lo : IE} (hn : isNon lo = true) : PO X none (tOf X.K (isNon lo) (evalE C.T lo)) := by
  cases lo <;> first | (cases hn; done) | skip
  refine po_weak po_none fun σ H Q ⟨ρ, v, S, d, S', o, rs, re, h, hp, q⟩ => ?_
  simp only [evalE, Option.some.injEq, Prod.mk.injEq] at h
  obtain ⟨rfl, rfl⟩ := h
  simp only [isNon, partD, if_true, Option.some.injEq] at hp
  subst hp
  exact q ρ H (Ext.refl _ _) rs
theorem po_ex {lo : IE} {e : Expr} (hn : isNon lo = false) (h : PE X e (tE X.K (evalE C.T lo))) : PO X (some e) (tOf X.K (isNon lo) (evalE C.T lo)) := by
  refine po_weak (po_some h) fun σ H Q ⟨ρ, v, S, d, S', o, rs, re, h, hp, q⟩ => ?_
  rw [hn] at hp
  simp only [partD, Bool.false_eq_true, if_false] at hp
  cases d with
  | int i =>
    simp only [Option.some.injEq] at hp
    subst hp
    refine one1 rs re h fun ρ1 H1 vx e1 R1 _ rx => ?_
    simp only [RepV] at rx
    exact ⟨i, rx, q ρ1 H1 e1 R1⟩
  | _ => cases hp
theorem n_sl {m : Bool} {a lo hi : IE} {x : Expr} {l h : Option Expr} {p p2 : Pos} (ha : PE X x (tE X.K (evalE C.T a))) (h1 : PO X l (tOf X.K (isNon lo) (evalE C.T lo))) (h2 : PO X h (tOf X.K (isNon hi) (evalE C.T hi))) :
    PE X (.Subscript x (.Slice l h none p2) p) (tE X.K (evalE C.T (.sl m a lo hi))) := by
  refine pe_weak (pe_slice (sl_all m) ha h1 h2) fun σ H Q ⟨ρ, v, S, d, S', rs, re, h, q⟩ => ?_
  simp only [evalE, Option.bind_eq_some_iff, Option.map_eq_some_iff] at h
  obtain ⟨⟨x1, S1⟩, h1, ⟨y1, S2⟩, h2, o1, p1, ⟨z1, S3⟩, h3, o2, p2, d0, h4, e⟩ := h
  refine one1 rs re h1 fun ρ1 H1 vx e1 R1 re1 rx => ⟨ρ1, v, S1, y1, S2, o1, R1, re1, h2, p1, fun ρ2 H2 e2 R2 => ⟨ρ2, v, S2, z1, S3, o2, R2, re1.mono e2, h3, p2, fun ρ3 H3 e3 R3 => ?_⟩⟩
  exact ⟨ρ3, S3, x1, d0, R3, RepV.mono (e2.trans e3) _ _ rx, h4, by rw [e]; exact q.ext ((e1.trans e2).trans e3)⟩
theorem n_lrev (T : TabOk X C N) {m : Bool} {a : IE} {y : Expr} {p p1 p2 p3 : Pos} (hx : bltB C X.env.scope "list" = true) (hz : bltB C X.env.scope "reversed" = true) (oy : okX y = true) (ha : PE X y (tE X.K (evalE C.T a))) :
    PE X (.Call (.Name "list" p) [.Call (.Name "reversed" p1) [y] [] p2] [] p3) (tE X.K (evalE C.T (.lrev m a))) := by
  obtain ⟨g1, g2, g3, g4⟩ := blt_ok T hx
  obtain ⟨t1, t2, t3, t4⟩ := blt_ok T hz
  refine pe_weak (EngM.pe_lstRev T.calm g1 g4 t1 t4 ha (ok_star oy _ _)) fun σ H Q ⟨ρ, v, S, d, S', rs, re, h, q⟩ => ?_
  simp only [evalE, Option.bind_eq_some_iff, Option.map_eq_some_iff] at h
  obtain ⟨⟨x1, S1⟩, h1, l, hl, e⟩ := h
  refine one1 rs re h1 fun ρ1 H1 vx e1 R1 re1 rx => ?_
  obtain ⟨b, xs, rfl, k1, k2⟩ := rx.lst R1 hl
  refine ⟨b, xs, rfl, SqL.of k1, fun w hw => ?_⟩
  have q' : Res X.K ρ1 H1 (alloc m (.lv l.reverse) S1).1 (alloc m (.lv l.reverse) S1).2 Q := by rw [e]; exact q.ext e1
  exact q'.new R1 k2.reverse hw
/-! ### methods -/
theorem few1 {y : Expr} (h : okX y = true) {cpos : Pos} {env : PySem.Env} : ((backTo cpos (starEach [y] env)).all (fun x => !x.1) && (backToKw cpos (keywordEach [] env)).all (fun x => x.1.isSome) && decide (([y] : List Expr).length + ([] : List Keyword).length + (if ([] : List Keyword).isEmpty then 0 else 1) < 30)) = true := by
  rw [ok_star h]
  rfl
theorem n_app {a x : IE} {y z : Expr} {ap p : Pos} (oy : okR y = true) (oz : okX z = true) (hp : (ap.endLine == p.line) = true) (ha : PE X y (tE X.K (evalE C.T a))) (hz : PE X z (tE X.K (evalE C.T x))) : PE X (.Call (.Attribute y "append" ap) [z] [] p) (tE X.K (evalE C.T (.app a x))) := by
  refine pe_weak (pe_bm PySem.F.plainAttrs_list PySem.F.slot_list_append PySem.F.type_list_append m_app ha (pa_cons hz pa_nil (ok_star oz _ _)) (okR_base oy _ _) (few1 oz) hp (ok_star oz _ _) rfl) fun σ H Q ⟨ρ, v, S, d, S', rs, re, h, q⟩ => ?_
  simp only [evalE, Option.bind_eq_some_iff, Option.ite_none_right_eq_some] at h
  obtain ⟨⟨x1, S1⟩, h1, hL, ⟨z1, S2⟩, h2, h⟩ := h
  refine one1 rs re h1 fun ρ1 H1 vx e1 R1 re1 rx => ⟨isL_ty R1 hL rx, one1 R1 re1 h2 fun ρ2 H2 vz e2 R2 _ rz => ?_⟩
  exact ⟨ρ2, S2, x1, [z1], d, S', R2, RepV.mono e2 _ _ rx, RepL.one rz, h, q.ext (e1.trans e2)⟩
theorem n_ext {a x : IE} {y z : Expr} {ap p : Pos} (oy : okR y = true) (oz : okX z = true) (hp : (ap.endLine == p.line) = true) (ha : PE X y (tE X.K (evalE C.T a))) (hz : PE X z (tE X.K (evalE C.T x))) : PE X (.Call (.Attribute y "extend" ap) [z] [] p) (tE X.K (evalE C.T (.ext a x))) := by
  refine pe_weak (pe_bm PySem.F.plainAttrs_list PySem.F.slot_list_extend PySem.F.type_list_extend m_ext ha (pa_cons hz pa_nil (ok_star oz _ _)) (okR_base oy _ _) (few1 oz) hp (ok_star oz _ _) rfl) fun σ H Q ⟨ρ, v, S, d, S', rs, re, h, q⟩ => ?_
  simp only [evalE, Option.bind_eq_some_iff, Option.ite_none_right_eq_some] at h
  obtain ⟨⟨x1, S1⟩, h1, hL, ⟨z1, S2⟩, h2, h⟩ := h
  refine one1 rs re h1 fun ρ1 H1 vx e1 R1 re1 rx => ⟨isL_ty R1 hL rx, one1 R1 re1 h2 fun ρ2 H2 vz e2 R2 _ rz => ?_⟩
  exact ⟨ρ2, S2, x1, [z1], d, S', R2, RepV.mono e2 _ _ rx, RepL.one rz, h, q.ext (e1.trans e2)⟩
theorem n_popAt {a x : IE} {y z : Expr} {ap p : Pos} (oy : okR y = true) (oz : okX z = true) (hp : (ap.endLine == p.line) = true) (ha : PE X y (tE X.K (evalE C.T a))) (hz : PE X z (tE X.K (evalE C.T x))) : PE X (.Call (.Attribute y "pop" ap) [z] [] p) (tE X.K (evalE C.T (.popAt a x))) := by
  refine pe_weak (pe_bm PySem.F.plainAttrs_list PySem.F.slot_list_pop PySem.F.type_list_pop m_pop ha (pa_cons hz pa_nil (ok_star oz _ _)) (okR_base oy _ _) (few1 oz) hp (ok_star oz _ _) rfl) fun σ H Q ⟨ρ, v, S, d, S', rs, re, h, q⟩ => ?_
  simp only [evalE, Option.bind_eq_some_iff, Option.ite_none_right_eq_some] at h
  obtain ⟨⟨x1, S1⟩, h1, hL, ⟨z1, S2⟩, h2, h⟩ := h
  refine one1 rs re h1 fun ρ1 H1 vx e1 R1 re1 rx => ⟨isL_ty R1 hL rx, one1 R1 re1 h2 fun ρ2 H2 vz e2 R2 _ rz => ?_⟩
  exact ⟨ρ2, S2, x1, [z1], d, S', R2, RepV.mono e2 _ _ rx, RepL.one rz, h, q.ext (e1.trans e2)⟩
theorem pop_isL {S : Store} {y d : D} {S' : Store} (h : popS y S = some (d, S')) : isL S y = true := by
  unfold popS at h
  split at h
  · unfold isL
    rename_i n
    dsimp only at h ⊢
    split at h
    · rfl
    · cases h
  · cases h
theorem n_pop {a : IE} {y : Expr} {ap p : Pos} (oy : okR y = true) (hp : (ap.endLine == p.line) = true) (ha : PE X y (tE X.K (evalE C.T a))) : PE X (.Call (.Attribute y "pop" ap) [] [] p) (tE X.K (evalE C.T (.pop a))) := by
  refine pe_weak (pe_bm0 PySem.F.plainAttrs_list PySem.F.slot_list_pop PySem.F.type_list_pop m_pop ha (okR_base oy _ _) hp) fun σ H Q ⟨ρ, v, S, d, S', rs, re, h, q⟩ => ?_
  simp only [evalE, Option.bind_eq_some_iff] at h
  obtain ⟨⟨x1, S1⟩, h1, h⟩ := h
  refine one1 rs re h1 fun ρ1 H1 vx e1 R1 re1 rx => ⟨isL_ty R1 (pop_isL h) rx, ?_⟩
  exact ⟨ρ1, S1, x1, [], d, S', R1, rx, by simp [RepL], h, q.ext e1⟩
end
end Eng
/-! EngB12: what is walked; the whole of the expressions. -/
namespace Eng
open PySem L2 PyProof.Rows
section
variable {X : Cx} {C : Tab} {N : List Str}
theorem i_val {a : IE} {e tg : Expr} (ha : PE X e (tE X.K (evalE C.T a))) : PI X tg e (tI X.K (evalE C.T (.itv a))) := by
  refine ⟨fun pins s σ H R I q => ?_⟩
  obtain ⟨ρ, v, S, src, S1, l, rs, re, h, hl, k⟩ := q
  have h' : evalE C.T a v S = some (src, S1) := by simpa only [evalE] using h
  cases src with
  | tup q =>
    simp only [itemsOf, seqOf, Option.some.injEq] at hl
    subst hl
    refine (pi_tup ha).run pins s σ H R I (one1 rs re h' fun ρ1 H1 vx e1 R1 _ rx => ?_)
    obtain ⟨b, xs, rfl, k1, k2⟩ := tup_rep rx
    exact ⟨b, rfl, ⟨xs, SqT.of k1⟩, k ρ1 H1 _ e1 R1 (it_tup k1 k2)⟩
  | lv q =>
    simp only [itemsOf, seqOf, lstOf, Option.some.injEq] at hl
    subst hl
    refine (pi_list ha).run pins s σ H R I (one1 rs re h' fun ρ1 H1 vx e1 R1 _ rx => ?_)
    simp only [RepV] at rx
    obtain ⟨b, xs, rfl, k0, k1, k2⟩ := rx
    exact ⟨b, rfl, ⟨xs, SqL.of k1⟩, k ρ1 H1 _ e1 R1 (it_lv k0 k1 k2)⟩
  | scr q =>
    simp only [itemsOf, seqOf, Option.some.injEq] at hl
    subst hl
    refine (pi_list ha).run pins s σ H R I (one1 rs re h' fun ρ1 H1 vx e1 R1 _ rx => ?_)
    simp only [RepV] at rx
    obtain ⟨b, rfl, k1⟩ := rx
    refine ⟨b, rfl, ⟨q.map V.int, ?_⟩, k ρ1 H1 _ e1 R1 (it_scr k1)⟩
    rcases k1 with ⟨o, k1⟩ | k1
    · exact .inl (.inr ⟨o, k1⟩)
    · exact sqL_none k1
  | ref n =>
    have hl' : lstOf S1 (.ref n) = some l := by simpa only [itemsOf, seqOf] using hl
    refine (pi_list ha).run pins s σ H R I (one1 rs re h' fun ρ1 H1 vx e1 R1 _ rx => ?_)
    have rx' := rx
    simp only [RepV] at rx
    obtain ⟨b, rfl, k1⟩ := rx
    obtain ⟨b', xs, e, k2, _⟩ := rx'.lst R1 hl'
    cases e
    exact ⟨b, rfl, ⟨xs, SqL.of k2⟩, k ρ1 H1 _ e1 R1 (it_ref k1)⟩
  | str z =>
    simp only [itemsOf, Option.some.injEq] at hl
    subst hl
    refine (pi_str ha).run pins s σ H R I (one1 rs re h' fun ρ1 H1 vx e1 R1 _ rx => ?_)
    simp only [RepV] at rx
    exact ⟨z, rx, k ρ1 H1 _ e1 R1 it_str⟩
  | _ => simp [itemsOf, seqOf, lstOf] at hl
theorem okA {es : List Expr} {f : EvF} {nt : Bool} (h : Goal X f nt .a es) {e : Expr} (he : e ∈ es) : okX e = true := h.1 e he
theorem i_rng (T : TabOk X C N) {as : IE} {l : List Expr} {p pos : Pos} {tg : Expr} {nt : Bool} (hx : bltB C X.env.scope "range" = true) (ha : Goal X (evalE C.T as) nt .a l) (hlen : ∀ v S q S', evalE C.T as v S = some (.tup q, S') → q.length = l.length) : PI X tg (.Call (.Name "range" p) l [] pos) (tI X.K (evalE C.T (.rng as))) := by
  obtain ⟨g1, g2, g3, g4⟩ := blt_ok T hx
  refine ⟨fun pins s σ H R I q => ?_⟩
  obtain ⟨ρ, v, S, src, S1, l', rs, re, h, hl, k⟩ := q
  simp only [evalE, Option.bind_eq_some_iff] at h
  obtain ⟨⟨x1, S2⟩, h1, h⟩ := h
  cases x1 with
  | tup args =>
    simp only [Option.map_eq_some_iff] at h
    obtain ⟨r, hr, e⟩ := h
    obtain ⟨rfl, rfl⟩ := Prod.mk.inj e
    simp only [itemsOf, seqOf, Option.some.injEq] at hl
    subst hl
    have hn := hlen _ _ _ _ h1
    obtain ⟨hox, hp, _⟩ := ha
    unfold rngL at hr
    split at hr
    · rename_i b
      match l, hn with
      | [e], _ =>
        rw [Option.ite_none_right_eq_some] at hr
        obtain ⟨⟨c1, c2⟩, hr⟩ := hr
        refine (pi_range1 g1 g4 hp (ok_star1 (hox e List.mem_cons_self) _)).run pins s σ H R I ⟨ρ, v, S, _, S2, rs, re, h1, fun ρ1 H1 ys e1 R1 ry => ?_⟩
        obtain ⟨w, rfl, rw'⟩ := repL1 ry
        simp only [RepV] at rw'
        subst rw'
        refine ⟨b, rfl, c2, c1, k ρ1 H1 _ e1 R1 (it_fn (n := b.toNat) (f := fun i => ((i : Nat) : Int)) (fun _ => trivial) (Option.some.inj hr).symm (fun _ _ h => h) (fun _ => Nat.le_refl _) fun i H x H' y => ⟨y.1, by rw [y.2]; simp⟩)⟩
      | [], hn => cases hn
      | _ :: _ :: _, hn => cases hn
    · rename_i a b
      match l, hn with
      | [e, e2], _ =>
        rw [Option.ite_none_right_eq_some] at hr
        obtain ⟨⟨c1, c2, c3, c4⟩, hr⟩ := hr
        have o1 := hox e List.mem_cons_self
        have o2 := hox e2 (List.mem_cons_of_mem _ List.mem_cons_self)
        refine (pi_range2 g1 g4 hp (by rw [ok_star o1, ok_star1 o2]) (ok_star1 o2 _)).run pins s σ H R I ⟨ρ, v, S, _, S2, rs, re, h1, fun ρ1 H1 ys e1 R1 ry => ?_⟩
        obtain ⟨w, w2, rfl, rw', rw2⟩ := repL2 ry
        simp only [RepV] at rw' rw2
        subst rw' rw2
        refine ⟨a, b, rfl, ⟨c1, c2, c4, c3⟩, k ρ1 H1 _ e1 R1 (it_fn (n := (b - a).toNat) (f := fun i => a + ((i : Nat) : Int)) (fun _ => trivial) (Option.some.inj hr).symm (fun _ _ h => h) (fun _ => Nat.le_refl _) fun i H x H' y => ⟨y.1, by rw [y.2]⟩)⟩
      | [], hn => cases hn
      | [_], hn => cases hn
      | _ :: _ :: _ :: _, hn => cases hn
    · rename_i a b c
      match l, hn with
      | [e, e2, e3], _ =>
        rw [Option.ite_none_right_eq_some] at hr
        obtain ⟨⟨c0, c1, c2, c3, c4⟩, hr⟩ := hr
        subst c0
        have o1 := hox e List.mem_cons_self
        have o2 := hox e2 (List.mem_cons_of_mem _ List.mem_cons_self)
        have o3 := hox e3 (List.mem_cons_of_mem _ (List.mem_cons_of_mem _ List.mem_cons_self))
        refine (pi_range3 g1 g4 hp (ok_star o1 _ _) (ok_any fun y hy => hox y (List.mem_cons_of_mem _ hy))).run pins s σ H R I ⟨ρ, v, S, _, S2, rs, re, h1, fun ρ1 H1 ys e1 R1 ry => ?_⟩
        simp only [RepL, RepV] at ry
        obtain ⟨_, _, rfl, rfl, _, _, rfl, rfl, _, _, rfl, rfl, rfl⟩ := ry
        refine ⟨a, b, -1, (a - b).toNat, rfl, RgC.neg c1 c2 c4 c3, k ρ1 H1 _ e1 R1 (it_fn (n := (a - b).toNat) (f := fun i => a - ((i : Nat) : Int)) (fun _ => trivial) (Option.some.inj hr).symm (fun _ _ h => h) (fun _ => Nat.le_refl _) fun i H x H' y => ⟨y.1, by rw [y.2]; congr 1; omega⟩)⟩
      | [], hn => cases hn
      | [_], hn => cases hn
      | [_, _], hn => cases hn
      | _ :: _ :: _ :: _ :: _, hn => cases hn
    · cases hr
  | _ => cases h
theorem stayL_of {x : D} (h : stay1 x = true) (h2 : isTupD x = false) : stayL x = true := by
  cases x <;> simp [stay1, isTupD, stayL] at *
theorem stay_tup {K : PySem.W.Frag} {ρ : List Addr} {H : Hp} {S : Store} {x : D} {vx : V} {l : List D} (hs : isTupD x = true) (hl : seqOf S x = some l) (r : RepV K ρ H x vx) :
    ∃ a, vx = .ref a ∧ (∃ xs, SqT K H a xs) ∧ (∀ ρ2 H2, Ext ρ H ρ2 H2 → ∃ xs, SqT K H2 a xs ∧ RepL K ρ2 H2 l xs) := by
  cases x with
  | tup q =>
    simp only [seqOf, Option.some.injEq] at hl
    subst hl
    obtain ⟨a, xs, rfl, h1, h2⟩ := tup_rep r
    exact ⟨a, rfl, ⟨xs, SqT.of h1⟩, fun ρ2 H2 e => ⟨xs, SqT.of (e.tups _ _ h1), RepL.mono e _ _ h2⟩⟩
  | _ => simp [isTupD] at hs
theorem stay_lst {K : PySem.W.Frag} {ρ : List Addr} {H : Hp} {S : Store} {x : D} {vx : V} {l : List D} (R : RepS K ρ H S) (hs : stayL x = true) (hl : seqOf S x = some l) (r : RepV K ρ H x vx) :
    ∃ a, vx = .ref a ∧ (∃ xs, SqL K H a xs) ∧ (∀ ρ2 H2, Ext ρ H ρ2 H2 → ∃ xs, SqL K H2 a xs ∧ RepL K ρ2 H2 l xs) := by
  cases x with
  | lv q =>
    simp only [seqOf, lstOf, Option.some.injEq] at hl
    subst hl
    simp only [RepV] at r
    obtain ⟨a, xs, rfl, h0, h1, h2⟩ := r
    exact ⟨a, rfl, ⟨xs, SqL.of h1⟩, fun ρ2 H2 e => ⟨xs, SqL.of (e.keep _ _ h1 h0).1, RepL.mono e _ _ h2⟩⟩
  | scr q =>
    simp only [seqOf, Option.some.injEq] at hl
    subst hl
    simp only [RepV] at r
    obtain ⟨a, rfl, h1⟩ := r
    have key : ∀ ρ2 H2, Ext ρ H ρ2 H2 → SqL K H2 a (q.map V.int) := fun ρ2 H2 e => by
      rcases h1 with ⟨o, h1⟩ | h1
      · exact .inl (.inr ⟨o, e.frzs _ _ _ h1⟩)
      · exact sqL_none h1
    exact ⟨a, rfl, ⟨_, key ρ H (Ext.refl _ _)⟩, fun ρ2 H2 e => ⟨_, key ρ2 H2 e, RepL.scrI q⟩⟩
  | _ => simp [stayL] at hs
theorem i_enu (T : TabOk X C N) {a : IE} {y tg : Expr} {p pos : Pos} (hx : bltB C X.env.scope "enumerate" = true) (oy : okX y = true) (ha : PE X y (tE X.K (evalE C.T a))) (ht : isTup tg = true) : PI X tg (.Call (.Name "enumerate" p) [y] [] pos) (tI X.K (evalE C.T (.enu a))) := by
  obtain ⟨g1, g2, g3, g4⟩ := blt_ok T hx
  cases tg <;> first | (cases ht; done) | skip
  refine ⟨fun pins s σ H R I q => ?_⟩
  obtain ⟨ρ, v, S, src, S1, l', rs, re, h, hl, k⟩ := q
  simp only [evalE, Option.bind_eq_some_iff, Option.ite_none_right_eq_some, Option.map_eq_some_iff] at h
  obtain ⟨⟨x1, S2⟩, h1, hst, l, hl1, e⟩ := h
  obtain ⟨rfl, rfl⟩ := Prod.mk.inj e
  simp only [itemsOf, seqOf, Option.some.injEq] at hl
  subst hl
  refine (pi_enum g1 g4 (pa_cons ha pa_nil (ok_star oy _ _)) (ok_star1 oy _)).run pins s σ H R I (one1 rs re h1 fun ρ1 H1 vx e1 R1 _ rx => ?_)
  obtain ⟨b, rfl, ⟨xs, hq⟩, get⟩ := stay_lst R1 hst hl1 rx
  · refine ⟨b, xs, rfl, hq, k ρ1 H1 _ e1 R1 (it_pair (a := (List.range l.length).map fun i => .int (i : Nat)) (b := l) (fun _ => trivial) ?_ (fun i ρ2 H2 e2 hi => ?_) (fun ρ2 H2 e2 => ?_) fun i ρ2 H2 x H' e2 hi y => ?_)⟩
    · unfold enuL pairs
      rw [List.zip_map_left, List.map_map]
      rfl
    · obtain ⟨ys, q1, q2⟩ := get ρ2 H2 e2
      have hi' : i < l.length := by simpa [enuL] using hi
      exact ⟨ys, ys[i]'(by rw [← q2.length]; exact hi'), q1, by simp⟩
    · obtain ⟨ys, q1, q2⟩ := get ρ2 H2 e2
      exact ⟨ys, q1, by rw [← q2.length]; simp [enuL]⟩
    · obtain ⟨ys, q1, q2⟩ := get ρ2 H2 e2
      have hi' : i < l.length := by simpa [enuL] using hi
      obtain ⟨t, z, rfl, hT, rfl, hz⟩ := y
      have hz' := hz ys q1
      obtain ⟨w, hw, rw'⟩ := q2.get (List.getElem?_eq_getElem hi')
      rw [hz'] at hw
      cases hw
      exact ⟨t, .int (i : Nat), z, .int (i : Nat), l[i], rfl, hT, rfl, by rw [List.getElem?_map, List.getElem?_range hi']; rfl, List.getElem?_eq_getElem hi', by simp [RepV], rw'⟩
theorem zip_end {ρ1 : List Addr} {H1 : Hp} {S : Store} {x1 x2 : D} {l l2 : List D} {vx vy : V} {R : It → Hp → Prop} (st1 : stay1 x1 = true) (st2 : stay1 x2 = true) (st3 : isTupD x1 = isTupD x2) (hl1 : seqOf S x1 = some l) (hl2 : seqOf S x2 = some l2) (R1 : RepS X.K ρ1 H1 S) (rx : RepV X.K ρ1 H1 x1 vx) (ry : RepV X.K ρ1 H1 x2 vy)
    (k : ∀ J, ItOk X.K ρ1 H1 (.tup (pairs l l2)) (pairs l l2) J → R J H1) : ∃ p q xs ys, [vx, vy] = [V.ref p, V.ref q] ∧ ((SqL X.K H1 p xs ∧ SqL X.K H1 q ys ∧ R (Itz X.K p q) H1) ∨ (SqT X.K H1 p xs ∧ SqT X.K H1 q ys ∧ R (RZ.ItzT X.K p q) H1)) := by
  have par : ∀ (J : It), (∀ i ρ2 H2, Ext ρ1 H1 ρ2 H2 → i < (pairs l l2).length → J.go i H2) → (∀ ρ2 H2, Ext ρ1 H1 ρ2 H2 → J.stop (pairs l l2).length H2) →
      (∀ i ρ2 H2 x H', Ext ρ1 H1 ρ2 H2 → i < (pairs l l2).length → J.yld i H2 x H' → ∃ T x1 x2 d1 d2, x = .ref T ∧ H2 T = none ∧ H' = upd H2 T (.tup [x1, x2]) ∧ l[i]? = some d1 ∧ l2[i]? = some d2 ∧ RepV X.K ρ2 H2 d1 x1 ∧ RepV X.K ρ2 H2 d2 x2) → R J H1 :=
    fun J j1 j2 j3 => k J (it_pair (a := l) (b := l2) (fun _ => trivial) rfl j1 j2 j3)
  have ln : (pairs l l2).length = min l.length l2.length := by simp [pairs]
  rcases hx1 : isTupD x1 with _ | _
  · have sl1 : stayL x1 = true := stayL_of st1 hx1
    have sl2 : stayL x2 = true := stayL_of st2 (by rw [← st3]; exact hx1)
    obtain ⟨p1, rfl, ⟨xs, hq⟩, get⟩ := stay_lst R1 sl1 hl1 rx
    obtain ⟨p2, rfl, ⟨ys, hq2⟩, get2⟩ := stay_lst R1 sl2 hl2 ry
    refine ⟨p1, p2, xs, ys, rfl, .inl ⟨hq, hq2, par _ (fun i ρ2 H2 e2 hi => ?_) (fun ρ2 H2 e2 => ?_) fun i ρ2 H2 x H' e2 hi yy => ?_⟩⟩
    · obtain ⟨us, q1, q2⟩ := get ρ2 H2 e2
      obtain ⟨ws, q3, q4⟩ := get2 ρ2 H2 e2
      exact ⟨us, ws, us[i]'(by rw [← q2.length]; omega), ws[i]'(by rw [← q4.length]; omega), q1, q3, by simp, by simp⟩
    · obtain ⟨us, q1, q2⟩ := get ρ2 H2 e2
      obtain ⟨ws, q3, q4⟩ := get2 ρ2 H2 e2
      exact ⟨us, ws, q1, q3, by rw [← q2.length, ← q4.length]; omega⟩
    · obtain ⟨us, q1, q2⟩ := get ρ2 H2 e2
      obtain ⟨ws, q3, q4⟩ := get2 ρ2 H2 e2
      obtain ⟨t, z1, z2, rfl, hT, rfl, hz, hz2⟩ := yy
      have i1 : i < l.length := by omega
      have i2 : i < l2.length := by omega
      obtain ⟨w, hw, rw1⟩ := q2.get (List.getElem?_eq_getElem i1)
      obtain ⟨w2, hw2, rw2⟩ := q4.get (List.getElem?_eq_getElem i2)
      rw [hz us q1] at hw
      rw [hz2 ws q3] at hw2
      cases hw
      cases hw2
      exact ⟨t, z1, z2, l[i], l2[i], rfl, hT, rfl, List.getElem?_eq_getElem i1, List.getElem?_eq_getElem i2, rw1, rw2⟩
  · have sl2 : isTupD x2 = true := by rw [← st3]; exact hx1
    obtain ⟨p1, rfl, ⟨xs, hq⟩, get⟩ := stay_tup hx1 hl1 rx
    obtain ⟨p2, rfl, ⟨ys, hq2⟩, get2⟩ := stay_tup sl2 hl2 ry
    refine ⟨p1, p2, xs, ys, rfl, .inr ⟨hq, hq2, par _ (fun i ρ2 H2 e2 hi => ?_) (fun ρ2 H2 e2 => ?_) fun i ρ2 H2 x H' e2 hi yy => ?_⟩⟩
    · obtain ⟨us, q1, q2⟩ := get ρ2 H2 e2
      obtain ⟨ws, q3, q4⟩ := get2 ρ2 H2 e2
      exact ⟨us, ws, us[i]'(by rw [← q2.length]; omega), ws[i]'(by rw [← q4.length]; omega), q1, q3, by simp, by simp⟩
    · obtain ⟨us, q1, q2⟩ := get ρ2 H2 e2
      obtain ⟨ws, q3, q4⟩ := get2 ρ2 H2 e2
      exact ⟨us, ws, q1, q3, by rw [← q2.length, ← q4.length]; omega⟩
    · obtain ⟨us, q1, q2⟩ := get ρ2 H2 e2
      obtain ⟨ws, q3, q4⟩ := get2 ρ2 H2 e2
      obtain ⟨t, z1, z2, rfl, hT, rfl, hz, hz2⟩ := yy
      have i1 : i < l.length := by omega
      have i2 : i < l2.length := by omega
      obtain ⟨w, hw, rw1⟩ := q2.get (List.getElem?_eq_getElem i1)
      obtain ⟨w2, hw2, rw2⟩ := q4.get (List.getElem?_eq_getElem i2)
      rw [hz us q1] at hw
      rw [hz2 ws q3] at hw2
      cases hw
      cases hw2
      exact ⟨t, z1, z2, l[i], l2[i], rfl, hT, rfl, List.getElem?_eq_getElem i1, List.getElem?_eq_getElem i2, rw1, rw2⟩
theorem i_zip (T : TabOk X C N) {a b : IE} {y z tg : Expr} {p pos : Pos} (hx : bltB C X.env.scope "zip" = true) (oy : okX y = true) (oz : okX z = true) (ha : PE X y (tE X.K (evalE C.T a))) (hb : PE X z (tE X.K (evalE C.T b))) (ht : isTup tg = true) :
    PI X tg (.Call (.Name "zip" p) [y, z] [] pos) (tI X.K (evalE C.T (.zip a b))) := by
  obtain ⟨g1, g2, g3, g4⟩ := blt_ok T hx
  cases tg <;> first | (cases ht; done) | skip
  refine ⟨fun pins s σ H R I q => ?_⟩
  obtain ⟨ρ, v, S, src, S1, l', rs, re, h, hl, k⟩ := q
  simp only [evalE, Option.bind_eq_some_iff, Option.ite_none_right_eq_some, Option.map_eq_some_iff, Bool.and_eq_true] at h
  obtain ⟨⟨x1, S2⟩, h1, ⟨x2, S3⟩, h2, ⟨⟨st1, st2⟩, st3'⟩, l, hl1, l2, hl2, e⟩ := h
  have st3 : isTupD x1 = isTupD x2 := by simpa using st3'
  obtain ⟨rfl, rfl⟩ := Prod.mk.inj e
  simp only [itemsOf, seqOf, Option.some.injEq] at hl
  subst hl
  have oz' : ∀ w ∈ [z], okX w = true := fun w hw => by
    rw [List.mem_singleton.mp hw]
    exact oz
  refine (RZ.pi_zipA g1 g4 (pa_cons ha (pa_cons hb pa_nil (ok_star oz _ _)) (ok_star oy _ _)) (ok_star oy _ _) (ok_any oz')).run pins s σ H R I ?_
  exact two2 rs re h1 h2 fun ρ1 H1 vx vy e1 R1 _ rx ry => zip_end st1 st2 st3 hl1 hl2 R1 rx ry fun J i => k ρ1 H1 J e1 R1 i
theorem i_rev (T : TabOk X C N) {a : IE} {y tg : Expr} {p pos : Pos} (hx : bltB C X.env.scope "reversed" = true) (oy : okX y = true) (ha : PE X y (tE X.K (evalE C.T a))) : PI X tg (.Call (.Name "reversed" p) [y] [] pos) (tI X.K (evalE C.T (.rev a))) := by
  obtain ⟨g1, g2, g3, g4⟩ := blt_ok T hx
  refine ⟨fun pins s σ H R I q => ?_⟩
  obtain ⟨ρ, v, S, src, S1, l', rs, re, h, hl, k⟩ := q
  simp only [evalE, Option.bind_eq_some_iff, Option.ite_none_right_eq_some, Option.map_eq_some_iff] at h
  obtain ⟨⟨x1, S2⟩, h1, hst, l, hl1, e⟩ := h
  obtain ⟨rfl, rfl⟩ := Prod.mk.inj e
  simp only [itemsOf, seqOf, Option.some.injEq] at hl
  subst hl
  refine (RT.pi_revA g1 g4 ha (ok_star oy _ _)).run pins s σ H R I (one1 rs re h1 fun ρ1 H1 vx e1 R1 _ rx => ?_)
  have rgt : ∀ {i : Nat}, i < l.length → l.reverse[i]? = l[l.length - 1 - i]? := fun hi => List.getElem?_reverse hi
  have fin : ∀ (b : Addr) (xs0 : List V) (Sq : Hp → List V → Prop) (J : It), xs0.length = l.length → (∀ ρ2 H2, Ext ρ1 H1 ρ2 H2 → ∃ xs, Sq H2 xs ∧ RepL X.K ρ2 H2 l xs) → (∀ i H2, (i < xs0.length ∧ ∃ (xs : List V) (x : V), Sq H2 xs ∧ xs[xs0.length - 1 - i]? = some x) → J.go i H2) →
      (∀ i H2, xs0.length ≤ i → J.stop i H2) → (∀ i H2 x H', J.yld i H2 x H' → H' = H2 ∧ ∀ xs, Sq H2 xs → xs[xs0.length - 1 - i]? = some x) → R J H1 := by
    intro b xs0 Sq J hlen get j1 j2 j3
    refine k ρ1 H1 J e1 R1 ⟨fun i ρ2 H2 S e2 R2 _ hi => ?_, fun ρ2 H2 S e2 R2 _ => j2 _ _ (by rw [hlen]; simp), fun i ρ2 H2 S x H' e2 R2 _ hi yy => ?_⟩
    · have hi' : i < l.length := by simpa using hi
      obtain ⟨xs, q1, q2⟩ := get ρ2 H2 e2
      have h3 : l.length - 1 - i < xs.length := by rw [← q2.length]; omega
      exact j1 i H2 ⟨by omega, xs, xs[l.length - 1 - i], q1, by rw [hlen]; exact List.getElem?_eq_getElem h3⟩
    · have hi' : i < l.length := by simpa using hi
      obtain ⟨xs, q1, q2⟩ := get ρ2 H2 e2
      obtain ⟨rfl, hz⟩ := j3 i H2 x H' yy
      have hz' := hz xs q1
      rw [hlen] at hz'
      have h4 : l.length - 1 - i < l.length := by omega
      obtain ⟨w, hw, rw1⟩ := q2.get (List.getElem?_eq_getElem h4)
      rw [hz'] at hw
      cases hw
      exact ⟨l[l.length - 1 - i], by rw [rgt hi']; exact List.getElem?_eq_getElem h4, Ext.refl _ _, R2, rw1⟩
  rcases hx1 : isTupD x1 with _ | _
  · obtain ⟨b, rfl, ⟨xs, hq⟩, get⟩ := stay_lst R1 (stayL_of hst hx1) hl1 rx
    obtain ⟨xs', hq', hr'⟩ := get ρ1 H1 (Ext.refl _ _)
    exact ⟨b, xs', rfl, .inl ⟨hq', fin b xs' (fun H2 xs => SqL X.K H2 b xs) _ hr'.length.symm get (fun i H2 h => h) (fun i H2 h => h) fun i H2 x H' h => h⟩⟩
  · obtain ⟨b, rfl, ⟨xs, hq⟩, get⟩ := stay_tup hx1 hl1 rx
    obtain ⟨xs', hq', hr'⟩ := get ρ1 H1 (Ext.refl _ _)
    exact ⟨b, xs', rfl, .inr ⟨hq', fin b xs' (fun H2 xs => SqT X.K H2 b xs) _ hr'.length.symm get (fun i H2 h => h) (fun i H2 h => h) fun i H2 x H' h => h⟩⟩
end
end Eng
/-! EngB13: the whole of the expressions. -/
namespace Eng
open PySem L2 PyProof.Rows
section
variable {C : Tab} {N : List Str}
theorem goal_e {X : Cx} {f : EvF} {nt : Bool} {e : Expr} (h : Goal X f nt .e [e]) : okX e = true ∧ PE X e (tE X.K f) := by
  obtain ⟨e', he, h1, h2⟩ := h
  cases he
  exact ⟨h1, h2⟩
theorem goal_t {X : Cx} {f : EvF} {nt : Bool} {e : Expr} (h : Goal X f nt .t [e]) : PT X e (tT X.K f) := by
  obtain ⟨e', he, h2⟩ := h
  cases he
  exact h2
theorem mt_tup {as : IE} {sc : Scope} {l : List Expr} (h : mt C N as .a sc l = true) : ∀ v S d S', evalE C.T as v S = some (d, S') → ∃ q, d = .tup q := by
  intro v S d S' e
  cases as <;> first | (cases l <;> simp [mt] at h; done) | skip
  · simp only [evalE, Option.some.injEq, Prod.mk.injEq] at e
    exact ⟨[], e.1.symm⟩
  · simp only [evalE, Option.bind_eq_some_iff] at e
    obtain ⟨⟨x1, S1⟩, h1, ⟨y1, S2⟩, h2, e⟩ := e
    cases y1 with
    | tup q =>
      simp only [Option.ite_none_right_eq_some, Option.some.injEq, Prod.mk.injEq] at e
      exact ⟨_, e.2.1.symm⟩
    | _ => cases e
/-- THE WHOLE of the expressions -/
theorem snd : ∀ (ir : IE) (X : Cx), TabOk X C N → ∀ r es, mt C N ir r X.env.scope es = true → Goal X (evalE C.T ir) (needTup ir) r es := by
  intro ir
  induction ir with
  | var i =>
    intro X T r es h
    unfold mt at h
    split at h
    · exact ⟨_, rfl, rfl, n_name T h⟩
    · exact ⟨_, rfl, test_of (n_name T h) fun _ => rfl⟩
    · cases h
  | int z =>
    intro X T r es h
    unfold mt at h
    split at h
    · have := of_decide_eq_true h
      subst this
      exact ⟨_, rfl, rfl, pe_weak pe_int (const_of (d := .int z) (fun _ _ => by simp only [evalE]) fun _ _ => by simp [RepV])⟩
    · cases h
  | bl z =>
    intro X T r es h
    unfold mt at h
    split at h
    · have := of_decide_eq_true h
      subst this
      exact ⟨_, rfl, rfl, pe_weak pe_bl (const_of (d := .bl z) (fun _ _ => by simp only [evalE]) fun _ _ => by simp [RepV])⟩
    · have := of_decide_eq_true h
      subst this
      exact ⟨_, rfl, test_of (pe_weak pe_bl (const_of (d := .bl z) (fun _ _ => by simp only [evalE]) fun _ _ => by simp [RepV])) fun _ => rfl⟩
    · cases h
  | non =>
    intro X T r es h
    unfold mt at h
    split at h
    · exact ⟨_, rfl, rfl, pe_weak pe_non (const_of (d := .non) (fun _ _ => by simp only [evalE]) fun _ _ => by simp [RepV])⟩
    · cases h
  | str z =>
    intro X T r es h
    unfold mt at h
    split at h
    · have := of_decide_eq_true h
      subst this
      exact ⟨_, rfl, rfl, pe_weak pe_str (const_of (d := .str z) (fun _ _ => by simp only [evalE]) fun _ _ => by simp [RepV])⟩
    · cases h
  | bin m o a b iha ihb =>
    intro X T r es h
    unfold mt at h
    split at h
    · simp only [Bool.and_eq_true] at h
      obtain ⟨⟨ho, h1⟩, h2⟩ := h
      have := bop_eq ho
      subst this
      exact ⟨_, rfl, rfl, n_bin T (goal_e (iha X T _ _ h1)).2 (goal_e (ihb X T _ _ h2)).2⟩
    · cases h
  | neg a iha =>
    intro X T r es h
    unfold mt at h
    split at h
    · exact ⟨_, rfl, rfl, n_neg (goal_e (iha X T _ _ h)).2⟩
    · cases h
  | cmp o a b iha ihb =>
    intro X T r es h
    unfold mt at h
    split at h
    · simp only [Bool.and_eq_true] at h
      obtain ⟨⟨ho, h1⟩, h2⟩ := h
      have := cop_eq ho
      subst this
      obtain ⟨_, p1⟩ := goal_e (iha X T _ _ h1)
      obtain ⟨o2, p2⟩ := goal_e (ihb X T _ _ h2)
      exact ⟨_, rfl, rfl, pe_weak (pe_cmpR (op_cmp T.hu o) p1 p2 (ok_mark o2 _)) (tCmp_of (x := a) (y := b) T.calm)⟩
    · simp only [Bool.and_eq_true] at h
      obtain ⟨⟨ho, h1⟩, h2⟩ := h
      have := cop_eq ho
      subst this
      obtain ⟨_, p1⟩ := goal_e (iha X T _ _ h1)
      obtain ⟨o2, p2⟩ := goal_e (ihb X T _ _ h2)
      exact ⟨_, rfl, pt_weak (pt_cmpR (op_cmp T.hu o) p1 p2 (ok_mark o2 _)) (tTest_of (tCmp_of (x := a) (y := b) T.calm))⟩
    · cases h
  | chain o o' a b c iha ihb ihc =>
    intro X T r es h
    unfold mt at h
    split at h
    · simp only [Bool.and_eq_true] at h
      obtain ⟨⟨⟨⟨ho, ho'⟩, h1⟩, h2⟩, h3⟩ := h
      have := cop_eq ho
      subst this
      have := cop_eq ho'
      subst this
      obtain ⟨_, p1⟩ := goal_e (iha X T _ _ h1)
      obtain ⟨o2, p2⟩ := goal_e (ihb X T _ _ h2)
      obtain ⟨o3, p3⟩ := goal_e (ihc X T _ _ h3)
      exact ⟨_, rfl, rfl, pe_weak (pe_chain (op_cmp T.hu o) (op_cmp T.hu o') p1 p2 p3 (last_mark o3)) tChain_of⟩
    · simp only [Bool.and_eq_true] at h
      obtain ⟨⟨⟨⟨ho, ho'⟩, h1⟩, h2⟩, h3⟩ := h
      have := cop_eq ho
      subst this
      have := cop_eq ho'
      subst this
      obtain ⟨_, p1⟩ := goal_e (iha X T _ _ h1)
      obtain ⟨o2, p2⟩ := goal_e (ihb X T _ _ h2)
      obtain ⟨o3, p3⟩ := goal_e (ihc X T _ _ h3)
      exact ⟨_, rfl, pt_weak (pt_chain (op_cmp T.hu o) (op_cmp T.hu o') p1 p2 p3 (last_mark o3)) (tTest_of tChain_of)⟩
    · cases h
  | and a b iha ihb =>
    intro X T r es h
    have wA : ∀ x y l, mt C N a .t X.env.scope [x] = true → (match l with | [] => mt C N b .t X.env.scope [y] | z :: l' => mt C N b .wA X.env.scope (y :: z :: l')) = true → ∀ pos, PW X (.BoolOp .And (x :: y :: l) pos) (tT X.K (evalE C.T (.and a b))) := by
      intro x y l h1 h2 pos
      have p1 := goal_t (iha X T _ _ h1)
      cases l with
      | nil => exact pw_weak (pw_and p1 (pw_and1 (goal_t (ihb X T _ _ h2)))) tAnd_of
      | cons z l => exact pw_weak (pw_and p1 (ihb X T _ _ h2 pos)) tAnd_of
    have vA : ∀ x y l, mt C N a .e X.env.scope [x] = true → (match l with | [] => mt C N b .e X.env.scope [y] | z :: l' => mt C N b .vA X.env.scope (y :: z :: l')) = true → ∀ pos, PE X (.BoolOp .And (x :: y :: l) pos) (tE X.K (evalE C.T (.and a b))) := by
      intro x y l h1 h2 pos
      have p1 := (goal_e (iha X T _ _ h1)).2
      cases l with
      | nil => exact pe_weak (pe_and p1 (pe_one (goal_e (ihb X T _ _ h2)).2)) tAndV_of
      | cons z l => exact pe_weak (pe_and p1 (ihb X T _ _ h2 pos)) tAndV_of
    unfold mt at h
    split at h
    · rw [Bool.and_eq_true] at h
      exact ⟨_, rfl, PW.pt (wA _ _ _ h.1 h.2 _)⟩
    · rw [Bool.and_eq_true] at h
      exact fun pos => wA _ _ _ h.1 h.2 pos
    · rw [Bool.and_eq_true] at h
      exact ⟨_, rfl, rfl, vA _ _ _ h.1 h.2 _⟩
    · rw [Bool.and_eq_true] at h
      exact fun pos => vA _ _ _ h.1 h.2 pos
    · cases h
  | or a b iha ihb =>
    intro X T r es h
    have wA : ∀ x y l, mt C N a .t X.env.scope [x] = true → (match l with | [] => mt C N b .t X.env.scope [y] | z :: l' => mt C N b .wO X.env.scope (y :: z :: l')) = true → ∀ pos, PW X (.BoolOp .Or (x :: y :: l) pos) (tT X.K (evalE C.T (.or a b))) := by
      intro x y l h1 h2 pos
      have p1 := goal_t (iha X T _ _ h1)
      cases l with
      | nil => exact pw_weak (pw_or p1 (pw_or1 (goal_t (ihb X T _ _ h2)))) tOr_of
      | cons z l => exact pw_weak (pw_or p1 (ihb X T _ _ h2 pos)) tOr_of
    have vA : ∀ x y l, mt C N a .e X.env.scope [x] = true → (match l with | [] => mt C N b .e X.env.scope [y] | z :: l' => mt C N b .vO X.env.scope (y :: z :: l')) = true → ∀ pos, PE X (.BoolOp .Or (x :: y :: l) pos) (tE X.K (evalE C.T (.or a b))) := by
      intro x y l h1 h2 pos
      have p1 := (goal_e (iha X T _ _ h1)).2
      cases l with
      | nil => exact pe_weak (pe_or p1 (pe_one (goal_e (ihb X T _ _ h2)).2)) tOrV_of
      | cons z l => exact pe_weak (pe_or p1 (ihb X T _ _ h2 pos)) tOrV_of
    unfold mt at h
    split at h
    · rw [Bool.and_eq_true] at h
      exact ⟨_, rfl, PW.pt (wA _ _ _ h.1 h.2 _)⟩
    · rw [Bool.and_eq_true] at h
      exact fun pos => wA _ _ _ h.1 h.2 pos
    · rw [Bool.and_eq_true] at h
      exact ⟨_, rfl, rfl, vA _ _ _ h.1 h.2 _⟩
    · rw [Bool.and_eq_true] at h
      exact fun pos => vA _ _ _ h.1 h.2 pos
    · cases h
  | not a iha =>
    intro X T r es h
    unfold mt at h
    split at h
    · exact ⟨_, rfl, n_notT (goal_t (iha X T _ _ h))⟩
    · exact ⟨_, rfl, rfl, n_not (goal_e (iha X T _ _ h)).2⟩
    · cases h
  | ite c a b ihc iha ihb =>
    intro X T r es h
    unfold mt at h
    split at h
    · simp only [Bool.and_eq_true] at h
      exact ⟨_, rfl, rfl, n_ite (goal_t (ihc X T _ _ h.1.1)) (goal_e (iha X T _ _ h.1.2)).2 (goal_e (ihb X T _ _ h.2)).2⟩
    · cases h
  | tup as ih =>
    intro X T r es h
    unfold mt at h
    split at h
    · exact ⟨_, rfl, rfl, n_tup (fun v S l S' e => len_cons as v S l S' ⟨N, _, _, h⟩ e) (mt_tup h) (ih X T _ _ h).2.1⟩
    · cases h
  | lst m as ih =>
    intro X T r es h
    unfold mt at h
    split at h
    · exact ⟨_, rfl, rfl, n_lst (fun v S l S' e => len_cons as v S l S' ⟨N, _, _, h⟩ e) (ih X T _ _ h).2.1⟩
    · cases h
  | idx a i iha ihi =>
    intro X T r es h
    unfold mt at h
    split at h
    · rw [Bool.and_eq_true] at h
      obtain ⟨oy, p2⟩ := goal_e (ihi X T _ _ h.2)
      exact ⟨_, rfl, rfl, n_idx oy (goal_e (iha X T _ _ h.1)).2 p2⟩
    · rw [Bool.and_eq_true] at h
      obtain ⟨oy, p2⟩ := goal_e (ihi X T _ _ h.2)
      exact ⟨_, rfl, test_of (n_idx oy (goal_e (iha X T _ _ h.1)).2 p2) fun _ => rfl⟩
    · cases h
  | sl m a lo hi iha ihl ihh =>
    intro X T r es h
    have part : ∀ (k : IE) (l : Option Expr), (∀ e, mt C N k .e X.env.scope [e] = true → PE X e (tE X.K (evalE C.T k))) → (match l with | none => isNon k | some l => !isNon k && mt C N k .e X.env.scope [l]) = true → PO X l (tOf X.K (isNon k) (evalE C.T k)) := by
      intro k l ih h
      cases l with
      | none => exact po_no h
      | some e =>
        simp only [Bool.and_eq_true, Bool.not_eq_true'] at h
        exact po_ex h.1 (ih e h.2)
    unfold mt at h
    split at h
    · simp only [Bool.and_eq_true] at h
      exact ⟨_, rfl, rfl, n_sl (goal_e (iha X T _ _ h.1.1)).2 (part lo _ (fun e z => (goal_e (ihl X T _ _ z)).2) h.1.2) (part hi _ (fun e z => (goal_e (ihh X T _ _ z)).2) h.2)⟩
    · cases h
  | call f as ih =>
    intro X T r es h
    have go : ∀ x p l pos, (glbB X.env.scope x && (match C.fn[f]? with | some (y, ps) => decide (y = x) && decide (ps.length = l.length) | none => false) && mt C N as .a X.env.scope l) = true → PE X (.Call (.Name x p) l [] pos) (tE X.K (evalE C.T (.call f as))) := by
      intro x p l pos h
      simp only [Bool.and_eq_true] at h
      obtain ⟨⟨h1, h2⟩, h3⟩ := h
      cases e : C.fn[f]? with
      | none => rw [e] at h2; cases h2
      | some yp =>
        obtain ⟨y, ps⟩ := yp
        rw [e] at h2
        simp only [Bool.and_eq_true, decide_eq_true_eq] at h2
        obtain ⟨rfl, _⟩ := h2
        refine call_ok T h1 e (fun z => ?_) (ih X T _ _ h3)
        subst z
        exact mt_nil h3
    unfold mt at h
    split at h
    · exact ⟨_, rfl, rfl, go _ _ _ _ h⟩
    · exact ⟨_, rfl, test_of (go _ _ _ _ h) fun _ => rfl⟩
    · cases h
  | callk f perm as ks iha ihk =>
    intro X T r es h
    unfold mt at h
    split at h
    · simp only [Bool.and_eq_true] at h
      obtain ⟨⟨⟨⟨⟨h1, h2⟩, h3⟩, h4⟩, h5⟩, h6⟩ := h
      cases e : C.fn[f]? with
      | none => rw [e] at h2; cases h2
      | some yp =>
        obtain ⟨y, ps⟩ := yp
        rw [e] at h2
        simp only [decide_eq_true_eq] at h2
        subst h2
        refine ⟨_, rfl, rfl, callk_ok T h1 e (fun z => ?_) (fun v S q S' z => mt_len _ _ h3 _ _ _ _ _ z) (fun v S q S' z => ?_) (iha X T _ _ h3) (ihk X T _ _ h4) h5 (of_decide_eq_true h6)⟩
        · subst z
          exact mt_nil h3
        · have := mt_len _ _ h4 _ _ _ _ _ z
          simpa using this
    · cases h
  | blt m b as ih =>
    intro X T r es h
    have go : ∀ x p l pos, (bltB C X.env.scope x && decide (x = bltName b) && decide (l.length ≠ 0) && mt C N as .a X.env.scope l) = true → PE X (.Call (.Name x p) l [] pos) (tE X.K (evalE C.T (.blt m b as))) := by
      intro x p l pos h
      simp only [Bool.and_eq_true, decide_eq_true_eq] at h
      obtain ⟨⟨⟨h1, rfl⟩, h2⟩, h3⟩ := h
      exact blt_plain T h1 h2 (ih X T _ _ h3)
    unfold mt at h
    split at h
    · exact ⟨_, rfl, rfl, go _ _ _ _ h⟩
    · exact ⟨_, rfl, test_of (go _ _ _ _ h) fun _ => rfl⟩
    · cases h
  | isi t a ih =>
    intro X T r es h
    have go : ∀ x p y ty p2 pos, (bltB C X.env.scope x && decide (x = "isinstance") && bltB C X.env.scope ty && decide (ty = Str.ofString (tyName t)) && mt C N a .e X.env.scope [y]) = true → PE X (.Call (.Name x p) [y, .Name ty p2] [] pos) (tE X.K (evalE C.T (.isi t a))) := by
      intro x p y ty p2 pos h
      simp only [Bool.and_eq_true, decide_eq_true_eq] at h
      obtain ⟨⟨⟨⟨h1, rfl⟩, h2⟩, rfl⟩, h3⟩ := h
      obtain ⟨oy, py⟩ := goal_e (ih X T _ _ h3)
      exact isi_ok T h1 h2 oy py
    unfold mt at h
    split at h
    · exact ⟨_, rfl, rfl, go _ _ _ _ _ _ h⟩
    · exact ⟨_, rfl, test_of (go _ _ _ _ _ _ h) fun _ => rfl⟩
    · cases h
  | lrev m a ih =>
    intro X T r es h
    unfold mt at h
    split at h
    · simp only [Bool.and_eq_true, decide_eq_true_eq] at h
      obtain ⟨⟨⟨⟨h1, rfl⟩, h2⟩, rfl⟩, h3⟩ := h
      obtain ⟨oy, py⟩ := goal_e (ih X T _ _ h3)
      exact ⟨_, rfl, rfl, n_lrev T h1 h2 oy py⟩
    · cases h
  | app a x iha ihx =>
    intro X T r es h
    unfold mt at h
    split at h
    · simp only [Bool.and_eq_true, decide_eq_true_eq] at h
      obtain ⟨⟨⟨⟨rfl, h1⟩, h2⟩, h3⟩, h4⟩ := h
      obtain ⟨oz, pz⟩ := goal_e (ihx X T _ _ h4)
      exact ⟨_, rfl, rfl, n_app h1 oz h2 (goal_e (iha X T _ _ h3)).2 pz⟩
    · cases h
  | ext a x iha ihx =>
    intro X T r es h
    unfold mt at h
    split at h
    · simp only [Bool.and_eq_true, decide_eq_true_eq] at h
      obtain ⟨⟨⟨⟨rfl, h1⟩, h2⟩, h3⟩, h4⟩ := h
      obtain ⟨oz, pz⟩ := goal_e (ihx X T _ _ h4)
      exact ⟨_, rfl, rfl, n_ext h1 oz h2 (goal_e (iha X T _ _ h3)).2 pz⟩
    · cases h
  | pop a iha =>
    intro X T r es h
    unfold mt at h
    split at h
    · simp only [Bool.and_eq_true, decide_eq_true_eq] at h
      obtain ⟨⟨⟨rfl, h1⟩, h2⟩, h3⟩ := h
      exact ⟨_, rfl, rfl, n_pop h1 h2 (goal_e (iha X T _ _ h3)).2⟩
    · cases h
  | popAt a x iha ihx =>
    intro X T r es h
    unfold mt at h
    split at h
    · simp only [Bool.and_eq_true, decide_eq_true_eq] at h
      obtain ⟨⟨⟨⟨rfl, h1⟩, h2⟩, h3⟩, h4⟩ := h
      obtain ⟨oz, pz⟩ := goal_e (ihx X T _ _ h4)
      exact ⟨_, rfl, rfl, n_popAt h1 oz h2 (goal_e (iha X T _ _ h3)).2 pz⟩
    · cases h
  | comp m own it tg c e ihi ihc ihe =>
    intro X T r es h
    unfold mt at h
    split at h
    · rename_i elt te iter ifs scope pos
      simp only [Bool.and_eq_true] at h
      obtain ⟨⟨⟨⟨⟨⟨h1, h2⟩, h3⟩, h4⟩, h5⟩, h6⟩, h7⟩ := h
      obtain ⟨iter', ei, oi, pit⟩ := ihi X T _ _ h1
      cases ei
      have hnt : needTup it = true → isTup te = true := fun z => by
        rw [z] at h2
        simpa using h2
      have blk : ∀ (s : Shared) (H : Hp) (Ca : Addr) (cl : List (Str × Addr)) (fp : List Addr), TabOk (X.blk s H scope (compEnvC scope cl Ca X.env) fp) C N := fun s H Ca cl fp => T.blk s H scope _ fp
      have hg : ∀ (s : Shared) (H : Hp) (Ca : Addr) (cl : List (Str × Addr)) (fp : List Addr), PG (X.blk s H scope (compEnvC scope cl Ca X.env) fp) te (tgG X.K tg) := fun s H Ca cl fp => mg_pg (X := X.blk s H scope (compEnvC scope cl Ca X.env) fp) T.calm (sto_blk T s H scope Ca cl fp) tg te h3
      have he : ∀ (s : Shared) (H : Hp) (Ca : Addr) (cl : List (Str × Addr)) (fp : List Addr), PE (X.blk s H scope (compEnvC scope cl Ca X.env) fp) elt (tE X.K (evalE C.T e)) := fun s H Ca cl fp => (goal_e (ihe _ (blk s H Ca cl fp) _ _ h7)).2
      have tests : ∃ tt : TT, (∀ (s : Shared) (H : Hp) (Ca : Addr) (cl : List (Str × Addr)) (fp : List Addr), PTs (X.blk s H scope (compEnvC scope cl Ca X.env) fp) ifs tt) ∧ ∀ σ H (Q : Bool → Hp → Prop), tT X.K (evalE C.T c) σ H Q → tt σ H Q := by
        cases ifs with
        | nil =>
          have hc : c = .no := by
            cases c <;> first | rfl | (simp [isNo] at h6; done)
          subst hc
          refine ⟨tYes, fun _ _ _ _ _ => pts_nil, fun σ H Q ⟨ρ, v, S, b, S', rs, re, h, q⟩ => ?_⟩
          simp only [evalE, Option.some.injEq, Prod.mk.injEq, D.bl.injEq] at h
          obtain ⟨rfl, rfl⟩ := h
          exact q ρ H (Ext.refl _ _) rs
        | cons q1 r =>
          cases r with
          | nil => exact ⟨tT X.K (evalE C.T c), fun s H Ca cl fp => pts_one (goal_t (ihc _ (blk s H Ca cl fp) _ _ h6)), fun _ _ _ z => z⟩
          | cons _ _ => cases h6
      obtain ⟨tt, ht, htt⟩ := tests
      exact ⟨_, rfl, rfl, pe_weak (pe_lc T.calm (by rw [T.hN]; exact T.nd) (pit te hnt) (by rw [T.hN]; exact blkOk_by h5) hg ht he (ok_fold oi _)) (comp_ok (pos := pos) T (fun tg z => pit tg z) oi hnt h3 h4 h5 ht htt he)⟩
    · cases h
  | stk =>
    intro X T r es h
    unfold mt at h
    split at h
    · exact ⟨_, rfl, h, ⟨fun pins s σ H Q I ⟨_, _, _, _, _, _, _, h, _⟩ => by simp [evalE] at h⟩⟩
    · exact ⟨_, rfl, ⟨fun pins s σ H Q I ⟨_, _, _, _, _, _, _, h, _⟩ => by simp [evalE] at h⟩⟩
    · cases h
  | no =>
    intro X T r es h
    simp [mt] at h
  | nil =>
    intro X T r es h
    unfold mt at h
    split at h
    · have z : ∀ σ H (Q : List V → Hp → Prop), tA X.K (evalE C.T .nil) σ H Q → tNil σ H Q := fun σ H Q ⟨ρ, v, S, l, S', rs, re, h, q⟩ => by
        simp only [evalE, Option.some.injEq, Prod.mk.injEq, D.tup.injEq] at h
        obtain ⟨rfl, rfl⟩ := h
        exact q ρ H [] (Ext.refl _ _) rs (by simp [RepL])
      refine ⟨fun _ hm => by simp at hm, pa_weak pa_nil z, fun kws hk => ?_⟩
      have : kws = [] := by simpa using hk
      subst this
      exact pk_weak pk_nil z
    · cases h
  | cons a r' iha ihr =>
    intro X T r es h
    unfold mt at h
    split at h
    · rename_i x l
      rw [Bool.and_eq_true] at h
      obtain ⟨ox, px⟩ := goal_e (iha X T _ _ h.1)
      obtain ⟨ol, pl, kl⟩ := ihr X T _ _ h.2
      have z : ∀ σ H (Q : List V → Hp → Prop), tA X.K (evalE C.T (.cons a r')) σ H Q → tCons (tE X.K (evalE C.T a)) (tA X.K (evalE C.T r')) σ H Q := fun σ H Q ⟨ρ, v, S, l, S', rs, re, h, q⟩ => by
        simp only [evalE, Option.bind_eq_some_iff] at h
        obtain ⟨⟨x1, S1⟩, h1, ⟨y1, S2⟩, h2, h⟩ := h
        cases y1 with
        | tup q1 =>
          simp only [Option.ite_none_right_eq_some, Option.some.injEq, Prod.mk.injEq, D.tup.injEq] at h
          obtain ⟨_, rfl, rfl⟩ := h
          refine one1 rs re h1 fun ρ1 H1 vx e1 R1 re1 rx => ⟨ρ1, v, S1, q1, S2, R1, re1, h2, fun ρ2 H2 ys e2 R2 ry => q ρ2 H2 (vx :: ys) (e1.trans e2) R2 ?_⟩
          simp only [RepL]
          exact ⟨vx, ys, rfl, RepV.mono e2 _ _ rx, ry⟩
        | _ => cases h
      refine ⟨fun e he => ?_, pa_weak (pa_cons px pl (ok_star ox _ _)) z, fun kws hk => ?_⟩
      · rcases List.mem_cons.mp he with rfl | he
        · exact ox
        · exact ol e he
      · cases kws with
        | nil => cases hk
        | cons kw kws =>
          obtain ⟨nm, ke, kp⟩ := kw
          simp only [List.map_cons, List.cons.injEq] at hk
          obtain ⟨rfl, hk⟩ := hk
          exact pk_weak (pk_cons px (kl kws hk)) z
    · cases h
  | itv a ih =>
    intro X T r es h
    unfold mt at h
    split at h
    · obtain ⟨ox, px⟩ := goal_e (ih X T _ _ h)
      exact ⟨_, rfl, ox, fun tg _ => i_val px⟩
    · cases h
  | rng as ih =>
    intro X T r es h
    unfold mt at h
    split at h
    · simp only [Bool.and_eq_true, decide_eq_true_eq] at h
      obtain ⟨⟨rfl, h1⟩, h2⟩ := h
      exact ⟨_, rfl, rfl, fun tg _ => i_rng T h1 (ih X T _ _ h2) fun v S q S' z => mt_len _ _ h2 _ _ _ _ _ z⟩
    · cases h
  | enu a ih =>
    intro X T r es h
    unfold mt at h
    split at h
    · simp only [Bool.and_eq_true, decide_eq_true_eq] at h
      obtain ⟨⟨rfl, h1⟩, h2⟩ := h
      obtain ⟨ox, px⟩ := goal_e (ih X T _ _ h2)
      exact ⟨_, rfl, rfl, fun tg ht => i_enu T h1 ox px (ht rfl)⟩
    · cases h
  | zip a b iha ihb =>
    intro X T r es h
    unfold mt at h
    split at h
    · simp only [Bool.and_eq_true, decide_eq_true_eq] at h
      obtain ⟨⟨⟨rfl, h1⟩, h2⟩, h3⟩ := h
      obtain ⟨ox, px⟩ := goal_e (iha X T _ _ h2)
      obtain ⟨oy, py⟩ := goal_e (ihb X T _ _ h3)
      exact ⟨_, rfl, rfl, fun tg ht => i_zip T h1 ox oy px py (ht rfl)⟩
    · cases h
  | rev a ih =>
    intro X T r es h
    unfold mt at h
    split at h
    · simp only [Bool.and_eq_true, decide_eq_true_eq] at h
      obtain ⟨⟨rfl, h1⟩, h2⟩ := h
      obtain ⟨ox, px⟩ := goal_e (ih X T _ _ h2)
      exact ⟨_, rfl, rfl, fun tg _ => i_rev T h1 ox px⟩
    · cases h
end
end Eng
/-! EngB14: statements beside the text: readings, and each sort of statement. -/
namespace Eng
open PySem L2 PyProof.Rows
def EndOk (K : PySem.W.Frag) (ρ : List Addr) (H : Hp) (fl : Fl) (v : Env) (S : Store) (D : Ends) : Prop := match fl with
  | .nx => ∀ ρ' H' σ', Ext ρ H ρ' H' → RepS K ρ' H' S → RepE K ρ' H' v σ' → D.nx σ' H'
  | .bk => ∀ ρ' H' σ', Ext ρ H ρ' H' → RepS K ρ' H' S → RepE K ρ' H' v σ' → D.bk σ' H'
  | .ct => ∀ ρ' H' σ', Ext ρ H ρ' H' → RepS K ρ' H' S → RepE K ρ' H' v σ' → D.ct σ' H'
  | .rt d => ∀ ρ' H' y, Ext ρ H ρ' H' → RepS K ρ' H' S → RepV K ρ' H' d y → D.rt y H'
def tS (K : PySem.W.Frag) (f : Run) : TS := fun D σ H => ∃ ρ v S fl v' S', RepS K ρ H S ∧ RepE K ρ H v σ ∧ f v S = some (fl, v', S') ∧ EndOk K ρ H fl v' S' D
theorem EndOk.ext {K : PySem.W.Frag} {ρ ρ1 : List Addr} {H H1 : Hp} {fl : Fl} {v : Env} {S : Store} {D : Ends} (h : EndOk K ρ H fl v S D) (e : Ext ρ H ρ1 H1) : EndOk K ρ1 H1 fl v S D := by
  cases fl with
  | nx => exact fun ρ' H' σ' e' => h ρ' H' σ' (e.trans e')
  | bk => exact fun ρ' H' σ' e' => h ρ' H' σ' (e.trans e')
  | ct => exact fun ρ' H' σ' e' => h ρ' H' σ' (e.trans e')
  | rt d => exact fun ρ' H' y e' => h ρ' H' y (e.trans e')
theorem ps_weak {X : Cx} {st : Stmt} {t t' : TS} (h : PS X st t) (w : ∀ D σ H, t' D σ H → t D σ H) : PS X st t' := ⟨fun pins s σ H D I q => h.run pins s σ H D I (w D σ H q)⟩
theorem pss_weak {X : Cx} {st : List Stmt} {t t' : TS} (h : PSs X st t) (w : ∀ D σ H, t' D σ H → t D σ H) : PSs X st t' := ⟨fun pins s σ H D I q => h.run pins s σ H D I (w D σ H q)⟩
section
variable {K : PySem.W.Frag} {T : Nat → Fn} {Dn : Ends} {σ : L2.St} {H : Hp}
theorem zs_skip (h : tS K (evalS T .skip) Dn σ H) : tNext Dn σ H := by
  obtain ⟨ρ, v, S, fl, v', S', rs, re, h, q⟩ := h
  simp only [evalS, Option.some.injEq, Prod.mk.injEq] at h
  obtain ⟨rfl, rfl, rfl⟩ := h
  exact q ρ H σ (Ext.refl _ _) rs re
theorem zs_brk (h : tS K (evalS T .brk) Dn σ H) : tBreak Dn σ H := by
  obtain ⟨ρ, v, S, fl, v', S', rs, re, h, q⟩ := h
  simp only [evalS, Option.some.injEq, Prod.mk.injEq] at h
  obtain ⟨rfl, rfl, rfl⟩ := h
  exact q ρ H σ (Ext.refl _ _) rs re
theorem zs_cont (h : tS K (evalS T .cont) Dn σ H) : tCont Dn σ H := by
  obtain ⟨ρ, v, S, fl, v', S', rs, re, h, q⟩ := h
  simp only [evalS, Option.some.injEq, Prod.mk.injEq] at h
  obtain ⟨rfl, rfl, rfl⟩ := h
  exact q ρ H σ (Ext.refl _ _) rs re
theorem zs_seq {a b : IS} (h : tS K (evalS T (.seq a b)) Dn σ H) : tSeq (tS K (evalS T a)) (tS K (evalS T b)) Dn σ H := by
  obtain ⟨ρ, v, S, fl, v', S', rs, re, h, q⟩ := h
  simp only [evalS, Option.bind_eq_some_iff] at h
  obtain ⟨⟨f1, v1, S1⟩, h1, h2⟩ := h
  refine ⟨ρ, v, S, f1, v1, S1, rs, re, h1, ?_⟩
  cases f1 with
  | nx => exact fun ρ' H' σ' e R re' => ⟨ρ', v1, S1, fl, v', S', R, re', h2, q.ext e⟩
  | bk =>
    simp only [Option.some.injEq, Prod.mk.injEq] at h2
    obtain ⟨rfl, rfl, rfl⟩ := h2
    exact q
  | ct =>
    simp only [Option.some.injEq, Prod.mk.injEq] at h2
    obtain ⟨rfl, rfl, rfl⟩ := h2
    exact q
  | rt d =>
    simp only [Option.some.injEq, Prod.mk.injEq] at h2
    obtain ⟨rfl, rfl, rfl⟩ := h2
    exact q
theorem zs_set {i : Nat} {e : IE} (h : tS K (evalS T (.set i e)) Dn σ H) : tAsg (tE K (evalE T e)) (gName i) Dn σ H := by
  obtain ⟨ρ, v, S, fl, v', S', rs, re, h, q⟩ := h
  simp only [evalS, Option.map_eq_some_iff] at h
  obtain ⟨⟨x, S1⟩, h1, h2⟩ := h
  simp only [Prod.mk.injEq] at h2
  obtain ⟨rfl, rfl, rfl⟩ := h2
  exact one1 rs re h1 fun ρ1 H1 vx e1 R1 re1 rx => q ρ1 H1 _ e1 R1 (repE_set i re1 rx)
theorem zs_ret {e : IE} (h : tS K (evalS T (.ret e)) Dn σ H) : tRet (tE K (evalE T e)) Dn σ H := by
  obtain ⟨ρ, v, S, fl, v', S', rs, re, h, q⟩ := h
  simp only [evalS, Option.map_eq_some_iff] at h
  obtain ⟨⟨x, S1⟩, h1, h2⟩ := h
  simp only [Prod.mk.injEq] at h2
  obtain ⟨rfl, rfl, rfl⟩ := h2
  exact one1 rs re h1 fun ρ1 H1 vx e1 R1 re1 rx => q ρ1 H1 _ e1 R1 rx
theorem zs_retN (h : tS K (evalS T (.ret .non)) Dn σ H) : tRetN Dn σ H := by
  obtain ⟨ρ, v, S, fl, v', S', rs, re, h, q⟩ := h
  simp only [evalS, evalE, Option.map_some, Option.some.injEq, Prod.mk.injEq] at h
  obtain ⟨rfl, rfl, rfl⟩ := h
  exact q ρ H _ (Ext.refl _ _) rs (by simp [RepV])
theorem zs_ex {e : IE} (h : tS K (evalS T (.ex e)) Dn σ H) : tDrop (tE K (evalE T e)) Dn σ H := by
  obtain ⟨ρ, v, S, fl, v', S', rs, re, h, q⟩ := h
  simp only [evalS, Option.map_eq_some_iff] at h
  obtain ⟨⟨x, S1⟩, h1, h2⟩ := h
  simp only [Prod.mk.injEq] at h2
  obtain ⟨rfl, rfl, rfl⟩ := h2
  exact one1 rs re h1 fun ρ1 H1 vx e1 R1 re1 rx => q ρ1 H1 _ e1 R1 re1
theorem zs_ite {c : IE} {a b : IS} (h : tS K (evalS T (.ite c a b)) Dn σ H) : tIfS (tT K (evalE T c)) (tS K (evalS T a)) (tS K (evalS T b)) Dn σ H := by
  obtain ⟨ρ, v, S, fl, v', S', rs, re, h, q⟩ := h
  simp only [evalS, Option.bind_eq_some_iff] at h
  obtain ⟨⟨x, S1⟩, h1, h2⟩ := h
  cases x with
  | bl k =>
    refine ⟨ρ, v, S, k, S1, rs, re, h1, fun ρ1 H1 e1 R1 => ?_⟩
    cases k with
    | true => exact ⟨ρ1, v, S1, fl, v', S', R1, re.mono e1, h2, q.ext e1⟩
    | false => exact ⟨ρ1, v, S1, fl, v', S', R1, re.mono e1, h2, q.ext e1⟩
  | _ => cases h2
theorem zs_tgs {t : Tg} {e : IE} (h : tS K (evalS T (.tgs t e)) Dn σ H) : tAsg (tE K (evalE T e)) (tgG K t) Dn σ H := by
  obtain ⟨ρ, v, S, fl, v', S', rs, re, h, q⟩ := h
  simp only [evalS, Option.bind_eq_some_iff, Option.map_eq_some_iff] at h
  obtain ⟨⟨x, S1⟩, h1, v1, h2, h3⟩ := h
  simp only [Prod.mk.injEq] at h3
  obtain ⟨rfl, rfl, rfl⟩ := h3
  exact one1 rs re h1 fun ρ1 H1 vx e1 R1 re1 rx => bind_ok t x v v1 σ vx Dn.nx re1 rx h2 fun σ' re' _ => q ρ1 H1 σ' e1 R1 re'
theorem zs_six {o i e : IE} (h : tS K (evalS T (.six o i e)) Dn σ H) : tAsg (tE K (evalE T e)) (gSub (tE K (evalE T o)) (tE K (evalE T i)) (tGSet K)) Dn σ H := by
  obtain ⟨ρ, v, S, fl, v', S', rs, re, h, q⟩ := h
  simp only [evalS, Option.bind_eq_some_iff, Option.map_eq_some_iff] at h
  obtain ⟨⟨x, S1⟩, h1, ⟨a, S2⟩, h2, ⟨k, S3⟩, h3, S4, h4, h5⟩ := h
  simp only [Prod.mk.injEq] at h5
  obtain ⟨rfl, rfl, rfl⟩ := h5
  refine one1 rs re h1 fun ρ1 H1 vx e1 R1 re1 rx => one1 R1 re1 h2 fun ρ2 H2 va e2 R2 re2 ra => one1 R2 re2 h3 fun ρ3 H3 vk e3 R3 re3 rk => ?_
  exact ⟨ρ3, S3, a, k, x, S4, R3, RepV.mono e3 _ _ ra, rk, RepV.mono (e2.trans e3) _ _ rx, h4, fun ρ4 H4 e4 R4 => q ρ4 H4 σ (((e1.trans e2).trans e3).trans e4) R4 (re3.mono e4)⟩
/-- the targets of sixs, one behind another -/
def tgX (K : PySem.W.Frag) (T : Nat → Fn) : IE → IE → TGs
  | .cons o os, .cons i is => gCons (gSub (tE K (evalE T o)) (tE K (evalE T i)) (tGSet K)) (tgX K T os is)
  | _, _ => gNil
theorem six_go {v v' : Env} {fl : Fl} : ∀ (os is : IE) (l : List D) (S S' : Store) (ρ : List Addr) (H : Hp) (xs : List V), RepS K ρ H S → RepE K ρ H v σ → RepL K ρ H l xs → sixL T v os is l S = some S' →
    (∀ ρ' H', Ext ρ H ρ' H' → RepS K ρ' H' S' → RepE K ρ' H' v σ → Dn.nx σ H') → tgX K T os is xs σ H Dn.nx := by
  intro os
  induction os with
  | cons o os _ ih =>
    intro is l S S' ρ H xs R re rl h q
    cases is <;> first | (cases l <;> simp [sixL] at h; done) | skip
    rename_i i is
    cases l with
    | nil => simp [sixL] at h
    | cons x l =>
      simp only [sixL, Option.bind_eq_some_iff] at h
      obtain ⟨⟨a, S1⟩, h1, ⟨k, S2⟩, h2, S3, h3, h4⟩ := h
      simp only [RepL] at rl
      obtain ⟨y, ys, rfl, rx, rl⟩ := rl
      refine ⟨y, ys, rfl, ?_⟩
      refine one1 R re h1 fun ρ1 H1 va e1 R1 re1 ra => one1 R1 re1 h2 fun ρ2 H2 vk e2 R2 re2 rk => ?_
      refine ⟨ρ2, S2, a, k, x, S3, R2, RepV.mono e2 _ _ ra, rk, RepV.mono (e1.trans e2) _ _ rx, h3, fun ρ3 H3 e3 R3 => ?_⟩
      exact ih is l S3 S' ρ3 H3 ys R3 (re2.mono e3) (RepL.mono ((e1.trans e2).trans e3) _ _ rl) h4 fun ρ4 H4 e4 => q ρ4 H4 (((e1.trans e2).trans e3).trans e4)
  | nil =>
    intro is l S S' ρ H xs R re rl h q
    cases is <;> first | (cases l <;> simp [sixL] at h; done) | skip
    cases l with
    | nil =>
      simp only [sixL, Option.some.injEq] at h
      subst h
      simp only [RepL] at rl
      exact ⟨rl, q ρ H (Ext.refl _ _) R re⟩
    | cons _ _ => simp [sixL] at h
  | _ => intro is l S S' ρ H xs R re rl h q; simp [sixL] at h
/-- a loop, from within -/
theorem zs_whl {k : Nat} {w : List Nat} {c : IE} {b : IS} (h : tS K (evalS T (.whl k w c b)) Dn σ H) : tWhile (tT K (evalE T c)) (tS K (evalS T b)) Dn σ H := by
  obtain ⟨ρ, v, S, fl, v', S', rs, re, h, q⟩ := h
  simp only [evalS] at h
  refine ⟨fun m σ H => ∃ ρ v S fl v' S', RepS K ρ H S ∧ RepE K ρ H v σ ∧ whlL (evalE T c) (evalS T b) w m v S = some (fl, v', S') ∧ EndOk K ρ H fl v' S' Dn, ⟨k, ρ, _, S, fl, v', S', rs, repE_wipe re w, h, q⟩, ?_⟩
  rintro m σ H ⟨ρ, v, S, fl, v', S', rs, re, h, q⟩
  cases m with
  | zero => simp [whlL] at h
  | succ m =>
    simp only [whlL, Option.bind_eq_some_iff] at h
    obtain ⟨⟨x, S1⟩, h1, h2⟩ := h
    cases x with
    | bl b' =>
      refine ⟨ρ, v, S, b', S1, rs, re, h1, fun ρ1 H1 e1 R1 => ?_⟩
      cases b' with
      | false =>
        rw [if_neg (by decide)]
        simp only [Option.some.injEq, Prod.mk.injEq] at h2
        obtain ⟨rfl, rfl, rfl⟩ := h2
        exact q ρ1 H1 σ e1 R1 (re.mono e1)
      | true =>
        rw [if_pos rfl]
        simp only [Option.bind_eq_some_iff] at h2
        obtain ⟨⟨f, v2, S2⟩, h2, h3⟩ := h2
        refine ⟨fun σ' H' => ∃ ρ v S fl v' S', RepS K ρ H' S ∧ RepE K ρ H' v σ' ∧ whlL (evalE T c) (evalS T b) w m v S = some (fl, v', S') ∧ EndOk K ρ H' fl v' S' Dn, fun σ' H' z => ⟨m, Nat.lt_succ_self m, z⟩, ?_⟩
        refine ⟨ρ1, v, S1, f, v2, S2, R1, re.mono e1, h2, ?_⟩
        cases f with
        | nx => exact fun ρ2 H2 σ2 e2 R2 re2 => ⟨ρ2, _, S2, fl, v', S', R2, repE_wipe re2 w, h3, q.ext (e1.trans e2)⟩
        | ct => exact fun ρ2 H2 σ2 e2 R2 re2 => ⟨ρ2, _, S2, fl, v', S', R2, repE_wipe re2 w, h3, q.ext (e1.trans e2)⟩
        | bk =>
          simp only [Option.some.injEq, Prod.mk.injEq] at h3
          obtain ⟨rfl, rfl, rfl⟩ := h3
          exact fun ρ2 H2 σ2 e2 R2 re2 => q ρ2 H2 σ2 (e1.trans e2) R2 (repE_wipe re2 w)
        | rt d =>
          simp only [Option.some.injEq, Prod.mk.injEq] at h3
          obtain ⟨rfl, rfl, rfl⟩ := h3
          exact fun ρ2 H2 y e2 R2 ry => q ρ2 H2 y (e1.trans e2) R2 ry
    | _ => cases h2
theorem zs_for {w : List Nat} {t : Tg} {it : IE} {b : IS} (h : tS K (evalS T (.for_ w t it b)) Dn σ H) : tFor (tI K (evalE T it)) (tgG K t) (tS K (evalS T b)) Dn σ H := by
  obtain ⟨ρ, v, S, fl, v', S', rs, re, h, q⟩ := h
  simp only [evalS, Option.bind_eq_some_iff] at h
  obtain ⟨⟨src, S1⟩, h1, l, h2, h3⟩ := h
  refine ⟨ρ, v, S, src, S1, l, rs, re, h1, h2, fun ρ1 H1 J e1 R1 J1 => ?_⟩
  refine ⟨fun i m σ H => m = l.length - i ∧ i ≤ l.length ∧ ∃ ρ v S fl v' S', Ext ρ1 H1 ρ H ∧ RepS K ρ H S ∧ RepE K ρ H v σ ∧ forL (evalS T b) src l t w (l.drop i) v S = some (fl, v', S') ∧ EndOk K ρ H fl v' S' Dn,
    ⟨l.length, by simp, Nat.zero_le _, ρ1, _, S1, fl, v', S', Ext.refl _ _, R1, repE_wipe (re.mono e1) w, by simpa using h3, q.ext e1⟩, ?_⟩
  rintro i m σ H ⟨rfl, hil, ρ, v, S, fl, v', S', ex, rs, re, h, q⟩
  by_cases hlt : i < l.length
  · rw [List.drop_eq_getElem_cons hlt] at h
    simp only [forL, Option.ite_none_right_eq_some] at h
    obtain ⟨st, h⟩ := h
    simp only [Option.bind_eq_some_iff] at h
    obtain ⟨v1, hv, ⟨f, v2, S2⟩, hb, h⟩ := h
    refine .inr ⟨J1.go i ρ H S ex rs st hlt, fun σ' H' => (∃ ρ v S fl v' S', Ext ρ1 H1 ρ H' ∧ RepS K ρ H' S ∧ RepE K ρ H' v σ' ∧ forL (evalS T b) src l t w (l.drop (i + 1)) v S = some (fl, v', S') ∧ EndOk K ρ H' fl v' S' Dn),
      fun σ' H' z => ⟨l.length - (i + 1), by omega, rfl, hlt, z⟩, fun x H2 hy => ?_⟩
    obtain ⟨dx, hd, ex2, R3, rx⟩ := J1.yld i ρ H S x H2 ex rs st hlt hy
    have hdx : dx = l[i] := by
      rw [List.getElem?_eq_getElem hlt] at hd
      exact (Option.some.inj hd).symm
    subst hdx
    refine bind_ok t _ _ v1 _ x _ (re.mono ex2) rx hv fun σ2 re2 _ => ?_
    refine ⟨ρ, v1, S, f, v2, S2, R3, re2, hb, ?_⟩
    cases f with
    | nx => exact fun ρ3 H3 σ3 e3 R4 re3 => ⟨ρ3, _, S2, fl, v', S', (ex.trans ex2).trans e3, R4, repE_wipe re3 w, h, q.ext (ex2.trans e3)⟩
    | ct => exact fun ρ3 H3 σ3 e3 R4 re3 => ⟨ρ3, _, S2, fl, v', S', (ex.trans ex2).trans e3, R4, repE_wipe re3 w, h, q.ext (ex2.trans e3)⟩
    | bk =>
      simp only [Option.some.injEq, Prod.mk.injEq] at h
      obtain ⟨rfl, rfl, rfl⟩ := h
      exact fun ρ3 H3 σ3 e3 R4 re3 => q ρ3 H3 σ3 (ex2.trans e3) R4 (repE_wipe re3 w)
    | rt d =>
      simp only [Option.some.injEq, Prod.mk.injEq] at h
      obtain ⟨rfl, rfl, rfl⟩ := h
      exact fun ρ3 H3 y e3 R4 ry => q ρ3 H3 y (ex2.trans e3) R4 ry
  · have ei : i = l.length := by omega
    subst ei
    rw [List.drop_length] at h
    simp only [forL, Option.ite_none_right_eq_some, Option.some.injEq, Prod.mk.injEq] at h
    obtain ⟨st, rfl, rfl, rfl⟩ := h
    exact .inl ⟨J1.stop ρ H S ex rs st, q ρ H σ (Ext.refl _ _) rs re⟩
theorem zs_par2 {i j : Nat} {as : IE} (hij : i ≠ j) (h : tS K (evalS T (.par [i, j] as)) Dn σ H) : tPar i j (tA K (evalE T as)) Dn σ H := by
  obtain ⟨ρ, v, S, fl, v', S', rs, re, h, q⟩ := h
  simp only [evalS, Option.bind_eq_some_iff] at h
  obtain ⟨⟨x, S1⟩, h1, h2⟩ := h
  cases x <;> first | (cases h2; done) | skip
  rename_i l
  simp only [Option.map_eq_some_iff] at h2
  obtain ⟨v1, h2, h3⟩ := h2
  simp only [Prod.mk.injEq] at h3
  obtain ⟨rfl, rfl, rfl⟩ := h3
  refine ⟨ρ, v, S, l, S1, rs, re, h1, fun ρ1 H1 ys e1 R1 rl => ?_⟩
  match l, h2, rl with
  | [a, b], h2, rl =>
    simp only [bindN, Option.map_some, Option.some.injEq] at h2
    subst h2
    simp only [RepL] at rl
    obtain ⟨ya, _, rfl, ra, yb, _, rfl, rb, rfl⟩ := rl
    refine ⟨ya, yb, rfl, q ρ1 H1 _ e1 R1 ?_⟩
    rw [List.set_comm _ _ hij]
    exact repE_set i (repE_set j (re.mono e1) rb) ra
  | [], h2, _ => simp [bindN] at h2
  | [_], h2, _ => simp [bindN] at h2
  | _ :: _ :: _ :: _, h2, _ => simp [bindN] at h2
theorem zs_par3 {i j k : Nat} {as : IE} (hij : i ≠ j) (hik : i ≠ k) (hjk : j ≠ k) (h : tS K (evalS T (.par [i, j, k] as)) Dn σ H) : tPar3 i j k (tA K (evalE T as)) Dn σ H := by
  obtain ⟨ρ, v, S, fl, v', S', rs, re, h, q⟩ := h
  simp only [evalS, Option.bind_eq_some_iff] at h
  obtain ⟨⟨x, S1⟩, h1, h2⟩ := h
  cases x <;> first | (cases h2; done) | skip
  rename_i l
  simp only [Option.map_eq_some_iff] at h2
  obtain ⟨v1, h2, h3⟩ := h2
  simp only [Prod.mk.injEq] at h3
  obtain ⟨rfl, rfl, rfl⟩ := h3
  refine ⟨ρ, v, S, l, S1, rs, re, h1, fun ρ1 H1 ys e1 R1 rl => ?_⟩
  match l, h2, rl with
  | [a, b, c], h2, rl =>
    simp only [bindN, Option.map_some, Option.some.injEq] at h2
    subst h2
    simp only [RepL] at rl
    obtain ⟨ya, _, rfl, ra, yb, _, rfl, rb, yc, _, rfl, rc, rfl⟩ := rl
    refine ⟨ya, yb, yc, rfl, q ρ1 H1 _ e1 R1 ?_⟩
    rw [List.set_comm (some ya) (some yb) hij, List.set_comm (some ya) (some yc) hik, List.set_comm (some yb) (some yc) hjk]
    exact repE_set i (repE_set j (repE_set k (re.mono e1) rc) rb) ra
  | [], h2, _ => simp [bindN] at h2
  | [_], h2, _ => simp [bindN] at h2
  | [_, _], h2, _ => simp [bindN] at h2
  | _ :: _ :: _ :: _ :: _, h2, _ => simp [bindN] at h2
end
end Eng
/-! EngB15: the text beside the statements (ms), and that what is beside it comes to the same. -/
namespace Eng
open PySem L2 PyProof.Rows
def swB (sc : Scope) (x : Str) (p : Pos) : Expr → Bool
  | .ListComp _ _ s pos => (lk sc x == some .local) && (p.line == pos.line) && !(s.names.any fun (n, k) => n == x && (k == .local || k == .cell))
  | _ => false
def notLc : Expr → Bool
  | .ListComp .. => false
  | _ => true
/-- the names that the layer stores from the right -/
def parNames (sc : Scope) (ts : List Expr) : List Str := ts.filterMap fun
  | .Name id pos => if lk sc id == some .local && pos.line == (ts.head?.map (·.pos.line)).getD 0 then some id else none
  | _ => none
def noSwap (sc : Scope) : Expr → Expr → Bool
  | .Tuple ts _ _, .Tuple vs _ _ => !(ts.length == 2 || ts.length == 3) || vs.length != ts.length || (parNames sc ts).length != ts.length || (parNames sc ts).eraseDups.length != (parNames sc ts).length || vs.all (foldedForSure 8)
  | .Tuple .., _ => true
  | _, _ => false
def subO : List Expr → List Expr
  | [] => []
  | .Subscript o _ _ :: r => o :: subO r
  | _ :: r => subO r
def subI : List Expr → List Expr
  | [] => []
  | .Subscript _ i _ :: r => i :: subI r
  | _ :: r => subI r
def allSub (l : List Expr) : Bool := l.all fun | .Subscript .. => true | _ => false
def ms (C : Tab) (N : List Str) : IS → Bool → Scope → List Stmt → Bool
  | .stk, one, sc, es => match one, es with
    | true, [_] => true
    | false, _ => true
    | _, _ => false
  | .skip, one, sc, es => match one, es with
    | true, [.Expr (.Constant (.str _) _ _) _] => true
    | true, [.Pass _] => true
    | false, [] => true
    | _, _ => false
  | .seq a b, one, sc, es => match one, es with
    | false, st :: rest => ms C N a true sc [st] && ms C N b false sc rest
    | _, _ => false
  | .set i e, one, sc, es => match es with
    | [.Assign [.Name x p] v _] => decide (N[i]? = some x) && stoB sc x && !swB sc x p v && mt C N e .e sc [v]
    | _ => false
  | .setc i e, one, sc, es => match es, e with
    | [.Assign [.Name x p] (.ListComp elt [⟨te, iter, ifs, 0⟩] s q) _], .comp m own it tg c e' => decide (N[i]? = some x) && decide (lk sc x = some .local) && swB sc x p (.ListComp elt [⟨te, iter, ifs, 0⟩] s q) && mt C N (.comp m own it tg c e') .e sc [.ListComp elt [⟨te, iter, ifs, 0⟩] s q]
    | _, _ => false
  | .par is as, one, sc, es => match es, is with
    | [.Assign [.Tuple [.Name x px, .Name y py] _ _] (.Tuple [a, b] _ _) _], [i, j] => decide (N[i]? = some x) && decide (N[j]? = some y) && decide (lk sc x = some .local) && decide (lk sc y = some .local) && decide (x ≠ y) && (py.line == px.line) &&
        !([a, b].all (foldedForSure 8)) && !([a, b].all (constantsAlone 8)) && mt C N as .a sc [a, b]
    | [.Assign [.Tuple [.Name x px, .Name y py, .Name z pz] _ _] (.Tuple [a, b, c] _ _) _], [i, j, k] => decide (N[i]? = some x) && decide (N[j]? = some y) && decide (N[k]? = some z) && decide (lk sc x = some .local) && decide (lk sc y = some .local) && decide (lk sc z = some .local) &&
        decide (x ≠ y) && decide (x ≠ z) && decide (y ≠ z) && (py.line == px.line) && (pz.line == px.line) && !([a, b, c].all (foldedForSure 8)) && !([a, b, c].all (constantsAlone 8)) && mt C N as .a sc [a, b, c]
    | _, _ => false
  | .tgs t e, one, sc, es => match es with
    | [.Assign [te] v _] => notLc v && noSwap sc te v && mg N (stoB sc) t false [te] && mt C N e .e sc [v]
    | _ => false
  | .six o i e, one, sc, es => match es with
    | [.Assign [.Subscript x y _] v _] => notLc v && mt C N o .e sc [x] && mt C N i .e sc [y] && mt C N e .e sc [v]
    | _ => false
  | .sixs os is as, one, sc, es => match es with
    | [.Assign [.Tuple ts _ _] (.Tuple vs _ _) _] => noSwap sc (.Tuple ts 0 default) (.Tuple vs 0 default) && allSub ts && decide (vs.length = ts.length) && mt C N os .a sc (subO ts) && mt C N is .a sc (subI ts) && mt C N as .a sc vs
    | _ => false
  | .ex e, one, sc, es => match es with
    | [.Expr v _] => notLc v && mt C N e .e sc [v]
    | _ => false
  | .ret e, one, sc, es => match es with
    | [.Return (some v) _] => mt C N e .e sc [v]
    | [.Return none _] => isNon e
    | _ => false
  | .ite c a b, one, sc, es => match es with
    | [.If c' a' b' _] => mt C N c .t sc [c'] && ms C N a false sc a' && ms C N b false sc b'
    | _ => false
  | .whl k w c b, one, sc, es => match es with
    | [.While c' b' [] _] => mt C N c .t sc [c'] && ms C N b false sc b'
    | _ => false
  | .for_ w t it b, one, sc, es => match es with
    | [.For te iter b' [] _] => mt C N it .i sc [iter] && (!needTup it || isTup te) && mg N (stoB sc) t false [te] && ms C N b false sc b'
    | _ => false
  | .brk, one, sc, es => match es with
    | [.Break _] => true
    | _ => false
  | .cont, one, sc, es => match es with
    | [.Continue _] => true
    | _ => false
/-- what the statements of a def's body want of the place they stand at -/
structure Body (X : Cx) (C : Tab) (N : List Str) : Prop where
  T : TabOk X C N
  own : PassesOwn (model X.prog X.w) X.A X.env X.xe
  blk : X.env.blockKind = .function
  fn : ∀ x, X.fn x = true
section
variable {X : Cx} {C : Tab} {N : List Str}
theorem sw_eq (hb : X.env.blockKind = .function) {x : Str} {p : Pos} {v : Expr} {l : Nat} (hk : okX v = true) : swapsWith v (some (.Name x p)) l X.env = pure (swB X.env.scope x p v) := by
  cases v <;> first | (cases hk; done) | rfl | skip
  rename_i elt gs s q
  show (pure _ : Sem Bool) = pure _
  rw [hb]
  rfl
theorem sw_non {v : Expr} (h : notLc v = true) (hk : okX v = true) {t : Option Expr} {l : Nat} : swapsWith v t l X.env = pure false := by
  cases v <;> first | (cases hk; done) | (cases h; done) | rfl
theorem no_star {l : List Expr} (h : ∀ e ∈ l, okX e = true) : (l.any fun | .Starred .. => true | _ => false) = false := by
  rw [List.any_eq_false]
  intro e he
  have := h e he
  cases e <;> first | (cases this; done) | (simp; done)
theorem swapped_eq (env : PySem.Env) (ts vs : List Expr) (k k2 : Nat) (p p2 : Pos) : swappedStores [.Tuple ts k p] (.Tuple vs k2 p2) env =
    if (!(ts.length == 2 || ts.length == 3) || vs.length != ts.length || env.blockKind != .function) = true then pure none
    else if (vs.any fun | .Starred .. => true | _ => false) = true then pure none
    else if ((parNames env.scope ts).length != ts.length || (parNames env.scope ts).eraseDups.length != (parNames env.scope ts).length) = true then pure none
    else if vs.all (foldedForSure 8) = true then pure none
    else if vs.all (constantsAlone 8) = true then unsupported "assign.tuple-of-constant-expressions:order-of-the-stores"
    else pure (some (parNames env.scope ts)) := rfl
theorem noSwap_ok (hb : X.env.blockKind = .function) {te v : Expr} (h : noSwap X.env.scope te v = true) : swappedStores [te] v X.env = pure none := by
  cases te <;> first | (simp [noSwap] at h; done) | skip
  rename_i ts k p
  cases v <;> first | rfl | skip
  rename_i vs k2 p2
  simp only [noSwap, Bool.or_eq_true] at h
  rw [swapped_eq, hb]
  simp only [Bool.or_eq_true]
  by_cases h1 : ((!(ts.length == 2 || ts.length == 3)) = true ∨ (vs.length != ts.length) = true) ∨ (ScopeKind.function != ScopeKind.function) = true
  · rw [if_pos h1]
  · rw [if_neg h1]
    split
    · rfl
    · split
      · rfl
      · rename_i h3
        split
        · rfl
        · rename_i h4
          exact absurd h (by
            intro z
            rcases z with (((z | z) | z) | z) | z
            · exact h1 (.inl (.inl z))
            · exact h1 (.inl (.inr z))
            · exact h3 (.inl z)
            · exact h3 (.inr z)
            · exact h4 z)
theorem par2_names {sc : Scope} {x y : Str} {px py : Pos} (hx : lk sc x = some .local) (hy : lk sc y = some .local) (hl : (py.line == px.line) = true) : parNames sc [.Name x px, .Name y py] = [x, y] := by
  have e1 := eq_of_beq hl
  unfold parNames
  simp [hx, hy, e1, Expr.pos]
theorem par3_names {sc : Scope} {x y z : Str} {px py pz : Pos} (hx : lk sc x = some .local) (hy : lk sc y = some .local) (hz : lk sc z = some .local) (hl : (py.line == px.line) = true) (hl2 : (pz.line == px.line) = true) : parNames sc [.Name x px, .Name y py, .Name z pz] = [x, y, z] := by
  have e1 := eq_of_beq hl
  have e2 := eq_of_beq hl2
  unfold parNames
  simp [hx, hy, hz, e1, e2, Expr.pos]
theorem par2_ok (hb : X.env.blockKind = .function) {x y : Str} {a b : Expr} {px py pt : Pos} {kt k2 : Nat} {pt2 : Pos} (hx : lk X.env.scope x = some .local) (hy : lk X.env.scope y = some .local) (hxy : x ≠ y) (hl : (py.line == px.line) = true) (hs : ∀ e ∈ [a, b], okX e = true)
    (h1 : [a, b].all (foldedForSure 8) = false) (h2 : [a, b].all (constantsAlone 8) = false) : swappedStores [.Tuple [.Name x px, .Name y py] kt pt] (.Tuple [a, b] k2 pt2) X.env = pure (some [x, y]) := by
  rw [swapped_eq, hb, par2_names hx hy hl, no_star hs, h1, h2]
  have : ([x, y] : List Str).eraseDups = [x, y] := by
    simp [List.eraseDups_cons, Ne.symm hxy]
  rw [this]
  rfl
theorem par3_ok (hb : X.env.blockKind = .function) {x y z : Str} {a b c : Expr} {px py pz pt : Pos} {kt k2 : Nat} {pt2 : Pos} (hx : lk X.env.scope x = some .local) (hy : lk X.env.scope y = some .local) (hz : lk X.env.scope z = some .local) (hxy : x ≠ y) (hxz : x ≠ z) (hyz : y ≠ z)
    (hl : (py.line == px.line) = true) (hl2 : (pz.line == px.line) = true) (hs : ∀ e ∈ [a, b, c], okX e = true)
    (h1 : [a, b, c].all (foldedForSure 8) = false) (h2 : [a, b, c].all (constantsAlone 8) = false) : swappedStores [.Tuple [.Name x px, .Name y py, .Name z pz] kt pt] (.Tuple [a, b, c] k2 pt2) X.env = pure (some [x, y, z]) := by
  rw [swapped_eq, hb, par3_names hx hy hz hl hl2, no_star hs, h1, h2]
  have : ([x, y, z] : List Str).eraseDups = [x, y, z] := by
    simp [List.eraseDups_cons, Ne.symm hxy, Ne.symm hxz, Ne.symm hyz]
  rw [this]
  rfl
theorem sto_def (B : Body X C N) : ∀ i x pos, N[i]? = some x → stoB X.env.scope x = true → PG X (.Name x pos) (gName i) := by
  intro i x pos hi hx
  unfold stoB at hx
  simp only [Bool.or_eq_true, decide_eq_true_eq] at hx
  exact pg_name (by rw [B.T.hN]; exact B.T.nd) (by rw [B.T.hN]; exact hi) hx (.inl (B.fn x))
theorem sub_len (env : PySem.Env) : ∀ (ts : List Expr), allSub ts = true → (assignEach ts env).length = ts.length ∧ (assignEach ts env).findIdx? (·.1) = none
  | [], _ => ⟨rfl, rfl⟩
  | e :: es, h => by
    cases e <;> first | (simp [allSub] at h; done) | skip
    rename_i o i p
    have h' : allSub es = true := by simpa [allSub] using h
    obtain ⟨h1, h2⟩ := sub_len env es h'
    show ((false, _) :: assignEach es env).length = _ ∧ _
    refine ⟨by simp [h1], ?_⟩
    show List.findIdx? (·.1) ((false, _) :: assignEach es env) = none
    rw [List.findIdx?_cons]
    simp [h2]
theorem sub_asg {o i : Expr} {pos : Pos} (h : okX i = true) : ∀ v, assign (.Subscript o i pos) X.env v = (do
      let ov ← holding [v] (eval o X.env)
      let iv ← holding [v, ov] (eval i X.env)
      standAt pos
      holding [v, ov, iv] (setItem ov iv v)
      release [v, ov, iv] []) := by
  intro v
  cases i <;> first | (cases h; done) | rfl
theorem sub_pgs (T : TabOk X C N) : ∀ (os is : IE) (ts : List Expr), allSub ts = true → mt C N os .a X.env.scope (subO ts) = true → mt C N is .a X.env.scope (subI ts) = true → PGs X ts (tgX X.K C.T os is) := by
  intro os
  induction os with
  | cons o os _ ih =>
    intro is ts h h1 h2
    cases ts with
    | nil => simp [subO, mt] at h1
    | cons e ts =>
      cases e <;> first | (simp [allSub] at h; done) | skip
      rename_i x y p
      have h' : allSub ts = true := by simpa [allSub] using h
      cases is <;> first | (simp [subI, mt] at h2; done) | skip
      rename_i i is
      simp only [subO, subI, mt, Bool.and_eq_true] at h1 h2
      obtain ⟨ox, px⟩ := goal_e (snd o X T _ _ h1.1)
      obtain ⟨oy, py⟩ := goal_e (snd i X T _ _ h2.1)
      refine pgs_cons (pg_sub px py set_all (sub_asg oy)) (ih is ts h' h1.2 h2.2) rfl
  | nil =>
    intro is ts h h1 h2
    cases ts with
    | nil =>
      cases is <;> first | (simp [subI, mt] at h2; done) | skip
      exact pgs_nil
    | cons e ts =>
      cases e <;> first | (simp [allSub] at h; done) | (simp [subO, mt] at h1; done)
  | _ =>
    intro is ts h h1 h2
    exfalso
    revert h1
    cases subO ts <;> simp [mt]
end
end Eng
/-! EngB16: the whole of the statements. -/
namespace Eng
open PySem L2 PyProof.Rows
section
variable {X : Cx} {C : Tab} {N : List Str}
structure GS (X : Cx) (f : Run) (one : Bool) (es : List Stmt) : Prop where
  pss : PSs X es (tS X.K f)
  ps : one = true → ∃ st, es = [st] ∧ PS X st (tS X.K f)
theorem gs_one {f : Run} {one : Bool} {st : Stmt} (h : PS X st (tS X.K f)) : GS X f one [st] := ⟨pss_one h, fun _ => ⟨st, rfl, h⟩⟩
theorem gs_by {f : Run} {one : Bool} {st : Stmt} {t : TS} (h : PS X st t) (w : ∀ D σ H, tS X.K f D σ H → t D σ H) : GS X f one [st] := gs_one (ps_weak h w)
theorem sto_loc {sc : Scope} {x : Str} (h : stoB sc x = true) : Loc sc x := by
  unfold stoB at h
  simp only [Bool.or_eq_true, decide_eq_true_eq] at h
  exact h
theorem setc_ok (B : Body X C N) {m : Bool} {own : List Nat} {it c e : IE} {tg : Tg} {i : Nat} {x : Str} {p q spos : Pos} {elt te iter : Expr} {ifs : List Expr} {scope : Scope}
    (h1 : N[i]? = some x) (h2 : lk X.env.scope x = some .local) (h3 : swB X.env.scope x p (.ListComp elt [⟨te, iter, ifs, 0⟩] scope q) = true) (h : mt C N (.comp m own it tg c e) .e X.env.scope [.ListComp elt [⟨te, iter, ifs, 0⟩] scope q] = true) :
    PS X (.Assign [.Name x p] (.ListComp elt [⟨te, iter, ifs, 0⟩] scope q) spos) (tS X.K (evalS C.T (.setc i (.comp m own it tg c e)))) := by
  have T := B.T
  unfold mt at h
  simp only [Bool.and_eq_true] at h
  obtain ⟨⟨⟨⟨⟨⟨g1, g2⟩, g3⟩, g4⟩, g5⟩, g6⟩, g7⟩ := h
  obtain ⟨iter', ei, oi, pit⟩ := snd it X T _ _ g1
  cases ei
  have hnt : needTup it = true → isTup te = true := fun z => by
    rw [z] at g2
    simpa using g2
  have blk : ∀ (s : Shared) (H : Hp) (Ca : Addr) (cl : List (Str × Addr)) (fp : List Addr), TabOk (X.blk s H scope (compEnvC scope cl Ca X.env) fp) C N := fun s H Ca cl fp => T.blk s H scope _ fp
  have hg : ∀ (s : Shared) (H : Hp) (Ca : Addr) (cl : List (Str × Addr)) (fp : List Addr), PG (X.blk s H scope (compEnvC scope cl Ca X.env) fp) te (tgG X.K tg) := fun s H Ca cl fp => mg_pg (X := X.blk s H scope (compEnvC scope cl Ca X.env) fp) T.calm (sto_blk T s H scope Ca cl fp) tg te g3
  have he : ∀ (s : Shared) (H : Hp) (Ca : Addr) (cl : List (Str × Addr)) (fp : List Addr), PE (X.blk s H scope (compEnvC scope cl Ca X.env) fp) elt (tE X.K (evalE C.T e)) := fun s H Ca cl fp => (goal_e (snd e _ (blk s H Ca cl fp) _ _ g7)).2
  have tests : ∃ tt : TT, (∀ (s : Shared) (H : Hp) (Ca : Addr) (cl : List (Str × Addr)) (fp : List Addr), PTs (X.blk s H scope (compEnvC scope cl Ca X.env) fp) ifs tt) ∧ ∀ σ H (Q : Bool → Hp → Prop), tT X.K (evalE C.T c) σ H Q → tt σ H Q := by
    cases ifs with
    | nil =>
      have hc : c = .no := by
        cases c <;> first | rfl | (simp [isNo] at g6; done)
      subst hc
      refine ⟨tYes, fun _ _ _ _ _ => pts_nil, fun σ H Q ⟨ρ, v, S, b, S', rs, re, h, q⟩ => ?_⟩
      simp only [evalE, Option.some.injEq, Prod.mk.injEq, D.bl.injEq] at h
      obtain ⟨rfl, rfl⟩ := h
      exact q ρ H (Ext.refl _ _) rs
    | cons q1 r =>
      cases r with
      | nil => exact ⟨tT X.K (evalE C.T c), fun s H Ca cl fp => pts_one (goal_t (snd c _ (blk s H Ca cl fp) _ _ g6)), fun _ _ _ z => z⟩
      | cons _ _ => cases g6
  obtain ⟨tt, ht, htt⟩ := tests
  refine ps_weak (ps_setLc T.calm (by rw [T.hN]; exact T.nd) (by rw [T.hN]; exact h1) h2 (by rw [sw_eq B.blk rfl, h3]) (pit te hnt) (by rw [T.hN]; exact blkOk_by g5) hg ht he (ok_fold oi _)) fun D σ H z => ?_
  exact comp_ok (pos := q) T (fun tg z => pit tg z) oi hnt g3 g4 g5 ht htt he σ H _ (zs_set z)
/-- THE WHOLE of the statements -/
theorem sndS : ∀ (is : IS) (X : Cx), Body X C N → ∀ one es, ms C N is one X.env.scope es = true → GS X (evalS C.T is) one es := by
  intro is
  induction is with
  | stk =>
    intro X B one es h
    have no : ∀ {D : Ends} {σ : L2.St} {H : Hp}, tS X.K (evalS C.T .stk) D σ H → False := fun ⟨_, _, _, _, _, _, _, _, h, _⟩ => by simp [evalS] at h
    unfold ms at h
    split at h
    · exact gs_by ps_never fun _ _ _ => no
    · exact ⟨pss_weak pss_never fun _ _ _ => no, fun z => by cases z⟩
    · cases h
  | skip =>
    intro X B one es h
    unfold ms at h
    split at h
    · exact gs_by ps_doc fun _ _ _ => zs_skip
    · exact gs_by ps_pass fun _ _ _ => zs_skip
    · exact ⟨pss_weak pss_nil fun _ _ _ => zs_skip, fun z => by cases z⟩
    · cases h
  | seq a b iha ihb =>
    intro X B one es h
    unfold ms at h
    split at h
    · rw [Bool.and_eq_true] at h
      obtain ⟨st, e, p1⟩ := (iha X B true _ h.1).ps rfl
      cases e
      exact ⟨pss_weak (pss_cons p1 (ihb X B false _ h.2).pss) fun _ _ _ => zs_seq, fun z => by cases z⟩
    · cases h
  | set i e =>
    intro X B one es h
    unfold ms at h
    split at h
    · simp only [Bool.and_eq_true, decide_eq_true_eq, Bool.not_eq_true'] at h
      obtain ⟨⟨⟨h1, h2⟩, h3⟩, h4⟩ := h
      obtain ⟨oe, pe⟩ := goal_e (snd e X B.T _ _ h4)
      exact gs_by (ps_set (by rw [B.T.hN]; exact B.T.nd) (by rw [B.T.hN]; exact h1) (sto_loc h2) pe (by rw [sw_eq B.blk oe, h3]) (.inl (B.fn _))) fun _ _ _ => zs_set
    · cases h
  | setc i e =>
    intro X B one es h
    unfold ms at h
    split at h
    · simp only [Bool.and_eq_true, decide_eq_true_eq] at h
      obtain ⟨⟨⟨h1, h2⟩, h3⟩, h4⟩ := h
      exact gs_one (setc_ok B h1 h2 h3 h4)
    · cases h
  | par is as =>
    intro X B one es h
    unfold ms at h
    split at h
    · simp only [Bool.and_eq_true, decide_eq_true_eq, Bool.not_eq_true'] at h
      obtain ⟨⟨⟨⟨⟨⟨⟨⟨h1, h2⟩, h3⟩, h4⟩, h5⟩, h6⟩, h7⟩, h8⟩, h9⟩ := h
      obtain ⟨oa, pa, _⟩ := snd as X B.T _ _ h9
      have hij : ∀ {i j : Nat} {x y : Str}, N[i]? = some x → N[j]? = some y → x ≠ y → i ≠ j := fun a b n z => by
        subst z
        rw [a] at b
        exact n (Option.some.inj b)
      refine gs_by (ps_par B.T.calm (by rw [B.T.hN]; exact B.T.nd) (by rw [B.T.hN]; exact h1) (by rw [B.T.hN]; exact h2) (hij h1 h2 h5) h3 h4 pa (par2_ok B.blk h3 h4 h5 h6 oa h7 h8)) fun _ _ _ => zs_par2 (hij h1 h2 h5)
    · simp only [Bool.and_eq_true, decide_eq_true_eq, Bool.not_eq_true'] at h
      obtain ⟨⟨⟨⟨⟨⟨⟨⟨⟨⟨⟨⟨⟨h1, h2⟩, h3⟩, h4⟩, h5⟩, h6⟩, h7⟩, h8⟩, h9⟩, h10⟩, h11⟩, h12⟩, h13⟩, h14⟩ := h
      obtain ⟨oa, pa, _⟩ := snd as X B.T _ _ h14
      have hij : ∀ {i j : Nat} {x y : Str}, N[i]? = some x → N[j]? = some y → x ≠ y → i ≠ j := fun a b n z => by
        subst z
        rw [a] at b
        exact n (Option.some.inj b)
      refine gs_by (ps_par3 B.T.calm (by rw [B.T.hN]; exact B.T.nd) (by rw [B.T.hN]; exact h1) (by rw [B.T.hN]; exact h2) (by rw [B.T.hN]; exact h3) (hij h1 h2 h7) (hij h1 h3 h8) (hij h2 h3 h9) h4 h5 h6 pa (par3_ok B.blk h4 h5 h6 h7 h8 h9 h10 h11 oa h12 h13)) fun _ _ _ => zs_par3 (hij h1 h2 h7) (hij h1 h3 h8) (hij h2 h3 h9)
    · cases h
  | tgs t e =>
    intro X B one es h
    unfold ms at h
    split at h
    · simp only [Bool.and_eq_true] at h
      obtain ⟨⟨⟨h1, h2⟩, h3⟩, h4⟩ := h
      obtain ⟨oe, pe⟩ := goal_e (snd e X B.T _ _ h4)
      refine gs_by (ps_asg pe (mg_pg B.T.calm (sto_def B) t _ h3) (sw_non h1 oe) (noSwap_ok B.blk h2) ?_) fun _ _ _ => zs_tgs
      rw [okT_each (mg_okT h3)]
      rfl
    · cases h
  | six o i e =>
    intro X B one es h
    unfold ms at h
    split at h
    · simp only [Bool.and_eq_true] at h
      obtain ⟨⟨⟨h1, h2⟩, h3⟩, h4⟩ := h
      obtain ⟨oe, pe⟩ := goal_e (snd e X B.T _ _ h4)
      obtain ⟨oi, pi⟩ := goal_e (snd i X B.T _ _ h3)
      obtain ⟨oo, po⟩ := goal_e (snd o X B.T _ _ h2)
      exact gs_by (ps_asg pe (pg_sub po pi set_all (sub_asg oi)) (hs := by unfold swapsWithSole; exact sw_non (X := X) h1 oe)) fun _ _ _ => zs_six
    · cases h
  | sixs os is as =>
    intro X B one es h
    unfold ms at h
    split at h
    · rename_i ts kt pt vs kv pv pos
      simp only [Bool.and_eq_true, decide_eq_true_eq] at h
      obtain ⟨⟨⟨⟨⟨h1, h2⟩, h3⟩, h4⟩, h5⟩, h6⟩ := h
      obtain ⟨oa, pa, _⟩ := snd as X B.T _ _ h6
      obtain ⟨l1, l2⟩ := sub_len X.env _ h2
      have pe := snd (.tup as) X B.T .e _ (show mt C N (.tup as) .e X.env.scope [.Tuple vs kv pv] = true by unfold mt; exact h6)
      obtain ⟨oe, pe⟩ := goal_e pe
      refine gs_by (ps_asg pe (pg_tup B.T.calm (sub_pgs B.T os is _ h2 h4 h5) l1 l2) (hs := by unfold swapsWithSole; exact sw_non (X := X) (v := .Tuple vs kv pv) rfl rfl) (noSwap_ok (te := .Tuple ts kt pt) (v := .Tuple vs kv pv) B.blk h1)) fun D σ H z => ?_
      obtain ⟨ρ, v, S, fl, v', S', rs, re, h, q⟩ := z
      simp only [evalS, Option.bind_eq_some_iff] at h
      obtain ⟨⟨x, S1⟩, g1, g2⟩ := h
      cases x <;> first | (cases g2; done) | skip
      rename_i l
      simp only [Option.map_eq_some_iff, Prod.mk.injEq] at g2
      obtain ⟨S2, g2, rfl, rfl, rfl⟩ := g2
      have g1' : evalE C.T (.tup as) v S = some (.tup l, S1) := by simpa only [evalE] using g1
      refine one1 rs re g1' fun ρ1 H1 vx e1 R1 re1 rx => ?_
      obtain ⟨a, xs, rfl, t1, t2⟩ := tup_rep rx
      refine ⟨a, xs, rfl, SqT.of t1, ?_, six_go (v' := v) (fl := .nx) os is l S1 S2 ρ1 H1 xs R1 re1 t2 g2 fun ρ2 H2 e2 R2 re2 => q ρ2 H2 σ (e1.trans e2) R2 re2⟩
      rw [← t2.length, ← h3]
      exact mt_len _ _ h6 _ _ _ _ _ g1
    · cases h
  | ex e =>
    intro X B one es h
    unfold ms at h
    split at h
    · rw [Bool.and_eq_true] at h
      obtain ⟨oe, pe⟩ := goal_e (snd e X B.T _ _ h.2)
      exact gs_by (ps_expr pe (sw_non h.1 oe)) fun _ _ _ => zs_ex
    · cases h
  | ret e =>
    intro X B one es h
    unfold ms at h
    split at h
    · exact gs_by (ps_ret (goal_e (snd e X B.T _ _ h)).2) fun _ _ _ => zs_ret
    · cases e <;> first | (simp [isNon] at h; done) | skip
      exact gs_by ps_retN fun _ _ _ => zs_retN
    · cases h
  | ite c a b iha ihb =>
    intro X B one es h
    unfold ms at h
    split at h
    · simp only [Bool.and_eq_true] at h
      exact gs_by (ps_if (goal_t (snd c X B.T _ _ h.1.1)) (iha X B _ _ h.1.2).pss (ihb X B _ _ h.2).pss) fun _ _ _ => zs_ite
    · cases h
  | whl k w c b ih =>
    intro X B one es h
    unfold ms at h
    split at h
    · simp only [Bool.and_eq_true] at h
      exact gs_by (ps_while B.own (goal_t (snd c X B.T _ _ h.1)) (ih X B _ _ h.2).pss) fun _ _ _ => zs_whl
    · cases h
  | for_ w t it b ih =>
    intro X B one es h
    unfold ms at h
    split at h
    · simp only [Bool.and_eq_true] at h
      obtain ⟨⟨⟨h1, h2⟩, h3⟩, h4⟩ := h
      obtain ⟨iter', ei, oi, pit⟩ := snd it X B.T _ _ h1
      cases ei
      refine gs_by (ps_for B.own B.T.calm (pit _ fun z => ?_) (mg_pg B.T.calm (sto_def B) t _ h3) (ih X B _ _ h4).pss (ok_fold oi _)) fun _ _ _ => zs_for
      rw [z] at h2
      simpa using h2
    · cases h
  | brk =>
    intro X B one es h
    unfold ms at h
    split at h
    · exact gs_by ps_break fun _ _ _ => zs_brk
    · cases h
  | cont =>
    intro X B one es h
    unfold ms at h
    split at h
    · exact gs_by ps_continue fun _ _ _ => zs_cont
    · cases h
end
end Eng
/-! EngB17: a def, the defs of a module one behind another, the law. -/
namespace Eng
open PySem L2 PyProof.Rows
/-- what is fixed of a module: names and parameters of the defs, keyword calls, built-ins -/
structure Txts where
  nm : List (Str × List Str)
  kw : List (Nat × Nat × List Nat × List Str)
  bs : List Str
noncomputable def Txts.C (t : Txts) (k : Nat) (T : Nat → Fn) : Tab := ⟨T, t.nm.take k, t.kw, t.bs⟩
def scB (N P : List Str) (sc : Scope) : Bool :=
  decide (sc.kind = .function) && !sc.isCoroutine && !sc.isGenerator && decide N.Nodup && decide (N.take P.length = P) && P.all (fun x => stoB sc x) && sc.names.all fun y => !decide (y.2 = .free)
theorem scB_ok {N P : List Str} {sc : Scope} (h : scB N P sc = true) : FnScope N P sc := by
  unfold scB at h
  simp only [Bool.and_eq_true, Bool.not_eq_true', decide_eq_true_eq, List.all_eq_true, decide_eq_false_iff_not] at h
  obtain ⟨⟨⟨⟨⟨⟨h1, h2⟩, h3⟩, h4⟩, h5⟩, h6⟩, h7⟩ := h
  exact ⟨h1, h2, h3, h4, h5, fun x hx => sto_loc (h6 x hx), h7⟩
section
variable {P : Program} {w : World} {K : PySem.W.Frag} {mg : Str → Option Value} {base : Heap}
structure TabG (P : Program) (w : World) (K : PySem.W.Frag) (mg : Str → Option Value) (base : Heap) (L : Nat) (C : Tab) : Prop where
  bs : ∀ x ∈ C.bs, mg x = none
  fns : ∀ (k : Nat) (x : Str) (ps : List Str), C.fn[k]? = some (x, ps) → ∃ (f : Addr) (fd : FuncData), mg x = some (.ref f) ∧ PySem.W.keepIn K (.ref f) = true ∧
    FnOk P w K mg base CX0 L f fd ps (spF K (C.T k) ps.length) ∧ Binds K fd ps [] ∧ (∀ l S r, C.T k l S = some r → l.length = ps.length) ∧
    ∀ n perm ks, (k, n, perm, ks) ∈ C.kw → ∀ us ws zs : List Value, us.length = n → ws.length = ks.length → (perm.mapM fun i => (us ++ ws)[i]?) = some zs → ∀ s, BindsTo s fd ⟨us, ks.zip ws⟩ (ps.zip zs)
theorem runD_len {T : Nat → Fn} {np ns : Nat} {keep : Bool} {b : IS} {l : List D} {S : Store} {r : D × Store} (h : runD T np ns keep b l S = some r) : l.length = np := by
  unfold runD at h
  by_cases e : l.length = np
  · exact e
  · rw [if_neg e] at h
    cases h
theorem repE_start {ρ : List Addr} {H : Hp} {N : List Str} {l : List D} {vs : List V} (r : RepL K ρ H l vs) (np : Nat) (h : l.length = np) : RepE K ρ H (l.map some ++ List.replicate (N.length - np) none) (L2.start N vs) := by
  have hl := r.length
  refine ⟨by simp [L2.start, hl, ← h], fun i d e => ?_⟩
  by_cases hi : i < l.length
  · rw [List.getElem?_append_left (by simpa using hi), List.getElem?_map, List.getElem?_eq_getElem hi] at e
    simp only [Option.map_some, Option.some.injEq] at e
    obtain ⟨y, hy, ry⟩ := r.get (List.getElem?_eq_getElem hi)
    refine ⟨y, ?_, e ▸ ry⟩
    unfold L2.start
    rw [List.getElem?_append_left (by simpa [← hl] using hi), List.getElem?_map, hy]
    rfl
  · rw [List.getElem?_append_right (by simpa using Nat.le_of_not_lt hi)] at e
    rw [List.getElem?_replicate] at e
    split at e <;> cases e
theorem def_ok {C : Tab} {x : Str} {st : Stmt} {f : Addr} {fd : FuncData} {N ps : List Str} {L : Nat} {body : IS} {keep : Bool} (G : TabG P w K mg base L C) (F : Fun K x x st f fd) (hs : scB N ps (defScope st) = true)
    (hm : ms C N body false (defScope st) (defBody st) = true) : FnOk P w K mg base CX0 (L + 1) f fd ps (spF K (runD C.T ps.length N.length keep body) ps.length) := by
  have S := scB_ok hs
  refine F.ok S (fun vs H Q E h => h.1) fun cdv A outer s H vs Q E hr hsp => ?_
  obtain ⟨hl, ρ, S0, l, d, S', rs, rl, hf, q⟩ := hsp
  let X : Cx := (cxOf CX0 P w K mg base N x (defScope st) f cdv A outer s H E).nox
  have T : TabOk X C N := ⟨rfl, rfl, S.nd, Nat.lt_of_le_of_lt (by show _ ≤ (A.deeper _).units + 16 * L + 200; exact Nat.le_trans (Nat.add_le_add_left (by decide) _) (Nat.add_le_add_right (Nat.le_add_right _ _) _)) hr.un, G.bs, fun k y qs e => by
    obtain ⟨f', fd', h1, h2, h3, h4, h5, h6⟩ := G.fns k y qs e
    exact ⟨f', fd', L, h1, h2, hr, h3, h4, h5, h6⟩⟩
  have hb : X.env.blockKind = .function := by
    show (if (defScope st).kind.isAnnotationScope then ScopeKind.function else (defScope st).kind) = _
    rw [S.kind]
    rfl
  have B : Body X C N := ⟨T, PassesOwn.never, hb, fun _ => rfl⟩
  refine ⟨_, (sndS body X B false (defBody st) hm).pss, ?_⟩
  unfold runD at hf
  have hll : l.length = ps.length := by rw [rl.length, hl]
  rw [if_pos hll] at hf
  simp only [Option.bind_eq_some_iff] at hf
  obtain ⟨⟨fl, v', S1⟩, h1, h2⟩ := hf
  refine ⟨ρ, _, S0, fl, v', S1, rs, repE_start rl ps.length hll, h1, ?_⟩
  cases fl with
  | nx =>
    intro ρ' H' σ' e R re
    cases keep with
    | true =>
      simp only [if_true, Option.some.injEq, Prod.mk.injEq] at h2
      obtain ⟨rfl, rfl⟩ := h2
      exact q ρ' H' _ e R (by simp [RepV])
    | false =>
      simp only [Bool.false_eq_true, if_false] at h2
      obtain ⟨g1, g2, g3⟩ := gc_ok rs e R (v := .non) (by simp [RepV]) h2
      exact q ρ H' _ g1 g2 g3
  | rt d' =>
    intro ρ' H' y e R ry
    cases keep with
    | true =>
      simp only [if_true, Option.some.injEq, Prod.mk.injEq] at h2
      obtain ⟨rfl, rfl⟩ := h2
      exact q ρ' H' _ e R ry
    | false =>
      simp only [Bool.false_eq_true, if_false] at h2
      obtain ⟨g1, g2, g3⟩ := gc_ok rs e R ry h2
      exact q ρ H' _ g1 g2 g3
  | bk => cases h2
  | ct => cases h2
theorem tab_nil {t : Txts} (h : ∀ x ∈ t.bs, mg x = none) : TabG P w K mg base 0 (t.C 0 (tb [])) := ⟨h, fun k x ps e => by
  have e' : (t.nm.take 0)[k]? = some (x, ps) := e
  simp at e'⟩
/-- one more def -/
theorem TabG.step {t : Txts} {L : Nat} {Fl : List Fn} (G : TabG P w K mg base L (t.C Fl.length (tb Fl))) {x : Str} {st : Stmt} {f : Addr} {fd : FuncData} {N ps : List Str} {body : IS} {keep : Bool}
    (F : Fun K x x st f fd) (hmg : mg x = some (.ref f)) (hx : t.nm[Fl.length]? = some (x, ps)) (hs : scB N ps (defScope st) = true) (hm : ms (t.C Fl.length (tb Fl)) N body false (defScope st) (defBody st) = true) (b : Binds K fd ps [])
    (hk : ∀ n perm ks, (Fl.length, n, perm, ks) ∈ t.kw → ∀ us ws zs : List Value, us.length = n → ws.length = ks.length → (perm.mapM fun i => (us ++ ws)[i]?) = some zs → ∀ s, BindsTo s fd ⟨us, ks.zip ws⟩ (ps.zip zs)) :
    TabG P w K mg base (L + 1) (t.C (Fl.length + 1) (tb (Fl ++ [runD (tb Fl) ps.length N.length keep body]))) := by
  have ok := def_ok (keep := keep) G F hs hm
  refine ⟨G.bs, fun k y qs e => ?_⟩
  have e' : (t.nm.take (Fl.length + 1))[k]? = some (y, qs) := e
  rw [List.getElem?_take] at e'
  split at e'
  · rename_i hlt
    show ∃ f fd, _ ∧ _ ∧ FnOk _ _ _ _ _ _ _ _ _ _ (spF K (tb _ k) _) ∧ _ ∧ (∀ l S r, tb _ k l S = _ → _) ∧ _
    by_cases hk' : k < Fl.length
    · have et : tb (Fl ++ [runD (tb Fl) ps.length N.length keep body]) k = tb Fl k := by
        unfold tb
        rw [List.getElem?_append_left hk']
      rw [et]
      obtain ⟨f', fd', h1, h2, h3, h4, h5, h6⟩ := G.fns k y qs (by
        show (t.nm.take Fl.length)[k]? = _
        rw [List.getElem?_take, if_pos hk']
        exact e')
      exact ⟨f', fd', h1, h2, h3.mono (Nat.le_succ _), h4, h5, h6⟩
    · have ek : k = Fl.length := by omega
      subst ek
      rw [hx] at e'
      cases e'
      have et : tb (Fl ++ [runD (tb Fl) ps.length N.length keep body]) Fl.length = runD (tb Fl) ps.length N.length keep body := by
        unfold tb
        rw [List.getElem?_append_right (Nat.le_refl _)]
        simp
      rw [et]
      exact ⟨f, fd, hmg, F.kp, ok, b, fun l S r e => runD_len e, hk⟩
  · cases e'
def spLaw (K : PySem.W.Frag) : Sp := fun vs H Q _ => ∃ (a : Addr) (ns : List Int), vs = [.ref a] ∧ Only H ∧ SqL K H a (ns.map V.int) ∧ ns.length ≤ 63 ∧ ∀ H', Q (.bl true) H'
theorem law_ok {L : Nat} {f : Addr} {fd : FuncData} {x : Str} {F : Fn} (ok : FnOk P w K mg base CX0 L f fd [x] (spF K F 1)) (hF : ∀ ns : List Int, ns.length ≤ 63 → ∃ S, F [.scr ns] [] = some (.bl true, S)) : FnOk P w K mg base CX0 L f fd [x] (spLaw K) := by
  refine ok.imp fun vs H Q E ⟨a, ns, e, ho, hs, hl, q⟩ => ?_
  subst e
  obtain ⟨S, hS⟩ := hF ns hl
  refine ⟨rfl, [], [], [.scr ns], .bl true, S, ⟨rfl, List.nodup_nil, fun n o a h => by simp at h⟩, ?_, hS, fun ρ' H' z _ _ r => ?_⟩
  · simp only [RepL]
    refine ⟨_, [], rfl, ?_, rfl⟩
    simp only [RepV]
    refine ⟨a, rfl, ?_⟩
    rcases hs with (h | ⟨o, h⟩) | h
    · rcases ho a with z | ⟨o, xs, z⟩
      · rw [z] at h
        cases h
      · rw [z] at h
        cases h
    · exact .inl ⟨o, h⟩
    · exact .inr (.inr h)
  · rw [bool_of r]
    exact q H'
end
theorem walk {l : PySem.W.OpenLaw} {q : Program} {loose : List Str} {XP : (Str → Option Value) → Heap → Prop} {YP : World → Heap → Prop} {d : DefRec} {K : Params → PySem.W.Frag} {L : Nat} (hr : Room L callerA) (hn : l.most = some 63) (hdf : d.params.defaults = [])
    (hY : ∀ (w : World) (h : Heap), YP w h → (K w.params).In h)
    (F : ∀ (w : World) (mg : Str → Option Value) (fa : Addr) (h : Heap), (K w.params).In h → h.Ns mainGlobals mg → mg d.name = some (.ref fa) →
      ∃ fd : FuncData, (∀ (s : Shared) (u : Value), BindsTo s fd ⟨[u], []⟩ [("script", u)]) ∧ ∀ base : Heap, (K w.params).In base → base.Ns mainGlobals mg → FnOk l.prog w (K w.params) mg base CX0 L fa fd ["script"] (spLaw (K w.params))) :
    PySem.W.WalkO q loose XP YP l.row.toRowW d [] (fun f vs => PySem.call f vs) :=
  L2.walk_of (n := 63) (k := L) (x := "script") (CX := fun _ => CX0) (sp := fun w => spLaw (K w.params)) hn (by decide) hdf hr hY F (fun _ _ a ns hl ho hS => ⟨a, ns, rfl, ho, hS, hl, fun _ => rfl⟩) fun _ _ _ _ _ z => z
end Eng
/-! EngM: tools for what the small language comes to. -/
namespace Eng
/-! ### loops -/
/-- a source that no store number stands for -/
def still : D → Bool
  | .ref _ => false
  | _ => true
theorem stays_still {d : D} (h : still d = true) (l : List D) (S : Store) : stays d l S := by
  cases d <;> first | trivial | cases h
/-- the state behind i turns in closed form -/
theorem forL_run {body : Run} {src : D} {all : List D} {tg : Tg} {w : List Nat} (env : Nat → Env) (sto : Nat → Store) (hs : ∀ i, stays src all (sto i)) : ∀ (items : List D) (k : Nat),
    (∀ i d, items[i]? = some d → ∃ v1 v2, bindT tg d (env (k + i)) = some v1 ∧ body v1 (sto (k + i)) = some (.nx, v2, sto (k + i + 1)) ∧ wipeE v2 w = env (k + i + 1)) →
    forL body src all tg w items (env k) (sto k) = some (.nx, env (k + items.length), sto (k + items.length))
  | [], k, _ => by
    simp only [forL, List.length_nil, Nat.add_zero]
    rw [if_pos (hs k)]
  | d :: r, k, step => by
    obtain ⟨v1, v2, h1, h2, h3⟩ := step 0 d rfl
    simp only [Nat.add_zero] at h1 h2 h3
    simp only [forL]
    rw [if_pos (hs k), h1]
    simp only [Option.bind_some]
    rw [h2]
    simp only [Option.bind_some]
    rw [h3]
    have := forL_run (body := body) (tg := tg) (w := w) env sto hs r (k + 1) fun i d hi => by
      have := step (i + 1) d (by simpa using hi)
      simpa only [Nat.add_assoc, Nat.add_comm 1 i] using this
    rw [this]
    simp only [List.length_cons, Nat.add_assoc, Nat.add_comm 1]
/-- an invariant; a turn may also return -/
theorem forL_inv {body : Run} {src : D} {all : List D} {tg : Tg} {w : List Nat} (I : Nat → Env → Store → Prop) (R : D → Store → Prop) (hs : ∀ i v S, I i v S → stays src all S) : ∀ (items : List D) (k : Nat) (v : Env) (S : Store), I k v S →
    (∀ i d v S, items[i]? = some d → I (k + i) v S → ∃ v1 f v2 S2, bindT tg d v = some v1 ∧ body v1 S = some (f, v2, S2) ∧ (((f = .nx ∨ f = .ct) ∧ I (k + i + 1) (wipeE v2 w) S2) ∨ ∃ x, f = .rt x ∧ R x S2)) →
    ∃ f v' S', forL body src all tg w items v S = some (f, v', S') ∧ ((f = .nx ∧ I (k + items.length) v' S') ∨ ∃ x, f = .rt x ∧ R x S')
  | [], k, v, S, h, _ => by
    refine ⟨.nx, v, S, ?_, .inl ⟨rfl, h⟩⟩
    simp only [forL]
    rw [if_pos (hs k v S h)]
  | d :: r, k, v, S, h, step => by
    obtain ⟨v1, f, v2, S2, h1, h2, h3⟩ := step 0 d v S rfl h
    simp only [forL]
    rw [if_pos (hs k v S h), h1]
    simp only [Option.bind_some]
    rw [h2]
    simp only [Option.bind_some]
    have ih := fun hI => forL_inv (body := body) (tg := tg) (w := w) (all := all) (src := src) I R hs r (k + 1) (wipeE v2 w) S2 hI fun i d v S hi hI => by
      have := step (i + 1) d v S (by simpa using hi) (by simpa only [Nat.add_assoc, Nat.add_comm 1 i] using hI)
      simpa only [Nat.add_assoc, Nat.add_comm 1 i] using this
    rcases h3 with ⟨rfl | rfl, hI⟩ | ⟨x, rfl, hR⟩
    · simpa only [List.length_cons, Nat.add_assoc, Nat.add_comm 1] using ih hI
    · simpa only [List.length_cons, Nat.add_assoc, Nat.add_comm 1] using ih hI
    · exact ⟨_, _, _, rfl, .inr ⟨x, rfl, hR⟩⟩
/-- with a measure -/
theorem whlL_inv {c : Env → Store → Option (D × Store)} {body : Run} {w : List Nat} (I : Nat → Env → Store → Prop) (J : Env → Store → Prop) (R : D → Store → Prop)
    (step : ∀ m v S, I m v S → ∃ b S1, c v S = some (.bl b, S1) ∧ (b = false → J v S1) ∧ (b = true → ∃ f v2 S2, body v S1 = some (f, v2, S2) ∧ (((f = .nx ∨ f = .ct) ∧ ∃ m', m' < m ∧ I m' (wipeE v2 w) S2) ∨ (f = .bk ∧ J (wipeE v2 w) S2) ∨ ∃ x, f = .rt x ∧ R x S2))) :
    ∀ (k m : Nat) (v : Env) (S : Store), m < k → I m v S → ∃ f v' S', whlL c body w k v S = some (f, v', S') ∧ ((f = .nx ∧ J v' S') ∨ ∃ x, f = .rt x ∧ R x S')
  | 0, m, v, S, h, _ => absurd h (Nat.not_lt_zero _)
  | k + 1, m, v, S, h, hI => by
    obtain ⟨b, S1, h1, h2, h3⟩ := step m v S hI
    simp only [whlL]
    rw [h1]
    simp only [Option.bind_some]
    cases b with
    | false => exact ⟨_, _, _, rfl, .inl ⟨rfl, h2 rfl⟩⟩
    | true =>
      obtain ⟨f, v2, S2, h4, h5⟩ := h3 rfl
      simp only
      rw [h4]
      simp only [Option.bind_some]
      rcases h5 with ⟨rfl | rfl, m', hm, hI'⟩ | ⟨rfl, hJ⟩ | ⟨x, rfl, hR⟩
      · exact whlL_inv I J R step k m' _ _ (by omega) hI'
      · exact whlL_inv I J R step k m' _ _ (by omega) hI'
      · exact ⟨_, _, _, rfl, .inl ⟨rfl, hJ⟩⟩
      · exact ⟨_, _, _, rfl, .inr ⟨x, rfl, hR⟩⟩
/-! ### evaluation, step by step: simp goes from the left, never into what comes behind -/
/-- a proof that simp takes as a step, not as a reckoning -/
theorem nr {α : Sort _} {a b : α} (h : a = b) : a = b := h
/-- bind, so written that simp does not go into what comes behind: the mark hangs on it -/
structure Tag {α : Sort _} (f : α) : Type where
def _root_.Option.bd {α β : Type} (a : Option α) (f : α → Option β) (_t : Tag f := ⟨⟩) : Option β := a.bind f
@[simp] theorem bd_some {α β : Type} (x : α) (f : α → Option β) (t : Tag f) : Option.bd (some x) f t = f x := rfl
@[simp] theorem bd_none {α β : Type} (f : α → Option β) (t : Tag f) : Option.bd none f t = none := rfl
section
variable {T : Nat → Fn} {v : Env} {S : Store}
@[simp] theorem e_var (i : Nat) : evalE T (.var i) v S = match v[i]? with
    | some (some d) => some (d, S)
    | _ => none := nr rfl
@[simp] theorem e_int (z : Int) : evalE T (.int z) v S = some (.int z, S) := nr rfl
@[simp] theorem e_bl (z : Bool) : evalE T (.bl z) v S = some (.bl z, S) := nr rfl
@[simp] theorem e_non : evalE T .non v S = some (.non, S) := nr rfl
@[simp] theorem e_str (z : Str) : evalE T (.str z) v S = some (.str z, S) := nr rfl
@[simp] theorem e_bin (m : Bool) (o : BOp) (a b : IE) : evalE T (.bin m o a b) v S = (evalE T a v S).bd fun (x, S1) => (evalE T b v S1).bd fun (y, S2) => (binD S2 o x y).map fun d => alloc m d S2 := nr rfl
@[simp] theorem e_neg (a : IE) : evalE T (.neg a) v S = (evalE T a v S).bd fun (x, S1) => match x with
    | .int i => some (.int (-i), S1)
    | _ => none := nr rfl
@[simp] theorem e_cmp (o : COp) (a b : IE) : evalE T (.cmp o a b) v S = (evalE T a v S).bd fun (x, S1) => (evalE T b v S1).bd fun (y, S2) => (cmpD S2 o x y).map fun k => (.bl k, S2) := nr rfl
@[simp] theorem e_chain (o o' : COp) (a b c : IE) : evalE T (.chain o o' a b c) v S = (evalE T a v S).bd fun (x, S1) => (evalE T b v S1).bd fun (y, S2) => (cmpD S2 o x y).bd fun k =>
    if k then (evalE T c v S2).bd fun (z, S3) => (cmpD S3 o' y z).map fun k' => (.bl k', S3) else some (.bl false, S2) := nr rfl
@[simp] theorem e_and (a b : IE) : evalE T (.and a b) v S = (evalE T a v S).bd fun (x, S1) => match x with
    | .bl true => evalE T b v S1
    | .bl false => some (.bl false, S1)
    | _ => none := nr rfl
@[simp] theorem e_or (a b : IE) : evalE T (.or a b) v S = (evalE T a v S).bd fun (x, S1) => match x with
    | .bl false => evalE T b v S1
    | .bl true => some (.bl true, S1)
    | _ => none := nr rfl
@[simp] theorem e_not (a : IE) : evalE T (.not a) v S = (evalE T a v S).bd fun (x, S1) => match x with
    | .bl k => some (.bl (!k), S1)
    | _ => none := nr rfl
@[simp] theorem e_ite (c a b : IE) : evalE T (.ite c a b) v S = (evalE T c v S).bd fun (x, S1) => match x with
    | .bl true => evalE T a v S1
    | .bl false => evalE T b v S1
    | _ => none := nr rfl
@[simp] theorem e_tup (as : IE) : evalE T (.tup as) v S = evalE T as v S := nr rfl
@[simp] theorem e_lst (m : Bool) (as : IE) : evalE T (.lst m as) v S = (evalE T as v S).bd fun (x, S1) => match x with
    | .tup l => some (alloc m (.lv l) S1)
    | _ => none := nr rfl
@[simp] theorem e_idx (a i : IE) : evalE T (.idx a i) v S = (evalE T a v S).bd fun (x, S1) => (evalE T i v S1).bd fun (y, S2) => (idxD S2 x y).map fun d => (d, S2) := nr rfl
@[simp] theorem e_sl (m : Bool) (a lo hi : IE) : evalE T (.sl m a lo hi) v S = (evalE T a v S).bd fun (x, S1) => (evalE T lo v S1).bd fun (y, S2) => (partD (isNon lo) y).bd fun l => (evalE T hi v S2).bd fun (z, S3) => (partD (isNon hi) z).bd fun h =>
    (slI S3 x l h).map fun d => alloc m d S3 := nr rfl
@[simp] theorem e_call (f : Nat) (as : IE) : evalE T (.call f as) v S = (evalE T as v S).bd fun (x, S1) => match x with
    | .tup l => T f l S1
    | _ => none := nr rfl
@[simp] theorem e_callk (f : Nat) (perm : List Nat) (as ks : IE) : evalE T (.callk f perm as ks) v S = (evalE T as v S).bd fun (x, S1) => (evalE T ks v S1).bd fun (y, S2) => match x, y with
    | .tup l, .tup q => (permD perm (l ++ q)).bd fun l' => T f l' S2
    | _, _ => none := nr rfl
@[simp] theorem e_blt (m : Bool) (b : Blt) (as : IE) : evalE T (.blt m b as) v S = (evalE T as v S).bd fun (x, S1) => match x with
    | .tup l => (bltD S1 b l).map fun d => alloc m d S1
    | _ => none := nr rfl
@[simp] theorem e_isi (t : Ty) (a : IE) : evalE T (.isi t a) v S = (evalE T a v S).map fun (x, S1) => (.bl (kindIs t x), S1) := nr rfl
@[simp] theorem e_lrev (m : Bool) (a : IE) : evalE T (.lrev m a) v S = (evalE T a v S).bd fun (x, S1) => (lstOf S1 x).map fun l => alloc m (.lv l.reverse) S1 := nr rfl
@[simp] theorem e_app (a x : IE) : evalE T (.app a x) v S = (evalE T a v S).bd fun (y, S1) => if isL S1 y then (evalE T x v S1).bd fun (d, S2) => appS y d S2 else none := nr rfl
@[simp] theorem e_ext (a x : IE) : evalE T (.ext a x) v S = (evalE T a v S).bd fun (y, S1) => if isL S1 y then (evalE T x v S1).bd fun (d, S2) => extS y d S2 else none := nr rfl
@[simp] theorem e_pop (a : IE) : evalE T (.pop a) v S = (evalE T a v S).bd fun (y, S1) => popS y S1 := nr rfl
@[simp] theorem e_popAt (a i : IE) : evalE T (.popAt a i) v S = (evalE T a v S).bd fun (y, S1) => if isL S1 y then (evalE T i v S1).bd fun (k, S2) => popAtS y k S2 else none := nr rfl
theorem e_comp (m : Bool) (own : List Nat) (it : IE) (tg : Tg) (c e : IE) : evalE T (.comp m own it tg c e) v S = (evalE T it v S).bd fun (src, S1) => (itemsOf S1 src).bd fun l => if l.length ≤ lenLine then
      (compL src l tg (wipeE v own) S1.length (evalE T c) (evalE T e) l (S1 ++ [.lst []])).bd fun S2 => if m then some (.ref S1.length, S2) else gc S1 (.ref S1.length) S2
    else none := nr rfl
@[simp] theorem e_no : evalE T .no v S = some (.bl true, S) := nr rfl
@[simp] theorem e_nil : evalE T .nil v S = some (.tup [], S) := nr rfl
@[simp] theorem e_cons (a r : IE) : evalE T (.cons a r) v S = (evalE T a v S).bd fun (x, S1) => (evalE T r v S1).bd fun (y, S2) => match y with
    | .tup l => if l.length < lenLine then some (.tup (x :: l), S2) else none
    | _ => none := nr rfl
@[simp] theorem e_itv (a : IE) : evalE T (.itv a) v S = evalE T a v S := nr rfl
@[simp] theorem e_rng (as : IE) : evalE T (.rng as) v S = (evalE T as v S).bd fun (x, S1) => match x with
    | .tup l => (rngL l).map fun r => (.tup r, S1)
    | _ => none := nr rfl
@[simp] theorem e_enu (a : IE) : evalE T (.enu a) v S = (evalE T a v S).bd fun (x, S1) => if stayL x then (seqOf S1 x).map fun l => (.tup (enuL l), S1) else none := nr rfl
@[simp] theorem e_zip (a b : IE) : evalE T (.zip a b) v S = (evalE T a v S).bd fun (x, S1) => (evalE T b v S1).bd fun (y, S2) => if stay1 x && stay1 y && (isTupD x == isTupD y) then
      (seqOf S2 x).bd fun l => (seqOf S2 y).map fun q => (.tup (pairs l q), S2) else none := nr rfl
@[simp] theorem e_rev (a : IE) : evalE T (.rev a) v S = (evalE T a v S).bd fun (x, S1) => if stay1 x then (seqOf S1 x).map fun l => (.tup l.reverse, S1) else none := nr rfl
@[simp] theorem s_skip : evalS T .skip v S = some (.nx, v, S) := nr rfl
@[simp] theorem s_seq (a b : IS) : evalS T (.seq a b) v S = (evalS T a v S).bd fun (f, v1, S1) => match f with
    | .nx => evalS T b v1 S1
    | f => some (f, v1, S1) := nr rfl
@[simp] theorem s_set (i : Nat) (e : IE) : evalS T (.set i e) v S = (evalE T e v S).map fun (x, S1) => (.nx, v.set i (some x), S1) := nr rfl
@[simp] theorem s_setc (i : Nat) (e : IE) : evalS T (.setc i e) v S = (evalE T e v S).map fun (x, S1) => (.nx, v.set i (some x), S1) := nr rfl
@[simp] theorem s_par (is : List Nat) (as : IE) : evalS T (.par is as) v S = (evalE T as v S).bd fun (x, S1) => match x with
    | .tup l => (bindN is l v).map fun v' => (.nx, v', S1)
    | _ => none := nr rfl
@[simp] theorem s_tgs (t : Tg) (e : IE) : evalS T (.tgs t e) v S = (evalE T e v S).bd fun (x, S1) => (bindT t x v).map fun v' => (.nx, v', S1) := nr rfl
@[simp] theorem s_six (o i e : IE) : evalS T (.six o i e) v S = (evalE T e v S).bd fun (x, S1) => (evalE T o v S1).bd fun (a, S2) => (evalE T i v S2).bd fun (k, S3) => (setS a k x S3).map fun S4 => (.nx, v, S4) := nr rfl
@[simp] theorem s_sixs (os is as : IE) : evalS T (.sixs os is as) v S = (evalE T as v S).bd fun (x, S1) => match x with
    | .tup l => (sixL T v os is l S1).map fun S2 => (.nx, v, S2)
    | _ => none := nr rfl
@[simp] theorem s_ex (e : IE) : evalS T (.ex e) v S = (evalE T e v S).map fun (_, S1) => (.nx, v, S1) := nr rfl
@[simp] theorem s_ret (e : IE) : evalS T (.ret e) v S = (evalE T e v S).map fun (x, S1) => (.rt x, v, S1) := nr rfl
@[simp] theorem s_ite (c : IE) (a b : IS) : evalS T (.ite c a b) v S = (evalE T c v S).bd fun (x, S1) => match x with
    | .bl true => evalS T a v S1
    | .bl false => evalS T b v S1
    | _ => none := nr rfl
theorem s_whl (k : Nat) (w : List Nat) (c : IE) (b : IS) : evalS T (.whl k w c b) v S = whlL (evalE T c) (evalS T b) w k (wipeE v w) S := nr rfl
theorem s_for (w : List Nat) (t : Tg) (it : IE) (b : IS) : evalS T (.for_ w t it b) v S = (evalE T it v S).bd fun (src, S1) => (itemsOf S1 src).bd fun l => forL (evalS T b) src l t w l (wipeE v w) S1 := nr rfl
@[simp] theorem s_brk : evalS T .brk v S = some (.bk, v, S) := nr rfl
@[simp] theorem s_cont : evalS T .cont v S = some (.ct, v, S) := nr rfl
end
section
variable {S : Store} {i j : Int} {x y d : D} {l q : List D}
@[simp] theorem len_line : lenLine = 1000000 := nr rfl
@[simp] theorem alloc_no (d : D) (S : Store) : alloc false d S = (d, S) := nr rfl
@[simp] theorem alloc_yes (l : List D) (S : Store) : alloc true (.lv l) S = (.ref S.length, S ++ [.lst l]) := nr rfl
@[simp] theorem bin_int (o : BOp) : binD S o (.int i) (.int j) = (intOp o i j).map .int := nr rfl
@[simp] theorem int_add : intOp .add i j = some (i + j) := nr rfl
@[simp] theorem int_sub : intOp .sub i j = some (i - j) := nr rfl
@[simp] theorem int_mul : intOp .mul i j = if mulOk i j then some (i * j) else none := nr rfl
@[simp] theorem int_fdiv : intOp .fdiv i j = if divOk i j then some (i / j) else none := nr rfl
@[simp] theorem int_mod : intOp .mod i j = if 0 < j then some (i % j) else none := nr rfl
theorem int_pow : intOp .pow i j = if 0 ≤ j ∧ j ≤ 1000000 ∧ i.natAbs < 2 ^ 64 then some (i ^ j.toNat) else none := nr rfl
theorem int_xor : intOp .bxor i j = if 0 ≤ i ∧ 0 ≤ j then some (natXor i j) else none := nr rfl
@[simp] theorem c_lt : cmpD S .lt (.int i) (.int j) = some (decide (i < j)) := nr rfl
@[simp] theorem c_le : cmpD S .le (.int i) (.int j) = some (decide (i ≤ j)) := nr rfl
@[simp] theorem c_gt : cmpD S .gt (.int i) (.int j) = some (decide (j < i)) := nr rfl
@[simp] theorem c_ge : cmpD S .ge (.int i) (.int j) = some (decide (j ≤ i)) := nr rfl
theorem eqS_int : eqS S (.int i) (.int j) = some (decide (i = j)) := by
  simp [eqS, fz, dat, fuelD, eqD]
  rfl
@[simp] theorem c_eq : cmpD S .eq (.int i) (.int j) = some (decide (i = j)) := by
  show eqS S (.int i) (.int j) = _
  exact eqS_int
/-- the same, closed to simp's own reckoning -/
def beqI (i j : Int) : Bool := decide (i = j)
theorem c_eq' : cmpD S .eq (.int i) (.int j) = some (beqI i j) := c_eq
@[simp] theorem c_ne : cmpD S .ne (.int i) (.int j) = some (decide (i ≠ j)) := by
  show (eqS S (.int i) (.int j)).map (!·) = _
  rw [eqS_int]
  simp
@[simp] theorem bt_nm (k : Nat) (d : D) (v : Env) : bindT (.nm k) d v = some (v.set k (some d)) := nr rfl
@[simp] theorem bt_tup (r : Tg) (l : List D) (v : Env) : bindT (.tup r) (.tup l) v = bindL r l v := nr rfl
@[simp] theorem bl_nil (v : Env) : bindL .nil [] v = some v := nr rfl
@[simp] theorem bl_cons (t r : Tg) (d : D) (l : List D) (v : Env) : bindL (.cons t r) (d :: l) v = (bindT t d v).bd fun v' => bindL r l v' := nr rfl
@[simp] theorem bn_nil (v : Env) : bindN [] [] v = some v := nr rfl
@[simp] theorem bn_cons (k : Nat) (r : List Nat) (d : D) (l : List D) (v : Env) : bindN (k :: r) (d :: l) v = (bindN r l v).map fun v' => v'.set k (some d) := nr rfl
@[simp] theorem w_nil (v : Env) : wipeE v [] = v := nr rfl
@[simp] theorem w_cons (v : Env) (i : Nat) (r : List Nat) : wipeE v (i :: r) = (wipeE v r).set i none := nr rfl
@[simp] theorem it_tup' : itemsOf S (.tup l) = some l := nr rfl
@[simp] theorem it_lv' : itemsOf S (.lv l) = some l := nr rfl
@[simp] theorem sq_tup : seqOf S (.tup l) = some l := nr rfl
@[simp] theorem sq_lv : seqOf S (.lv l) = some l := nr rfl
@[simp] theorem sq_scr (l : List Int) : seqOf S (.scr l) = some (l.map .int) := nr rfl
@[simp] theorem l_lv : lstOf S (.lv l) = some l := nr rfl
@[simp] theorem sq_ref (n : Nat) : seqOf S (.ref n) = lstOf S (.ref n) := nr rfl
@[simp] theorem it_ref' (n : Nat) : itemsOf S (.ref n) = lstOf S (.ref n) := nr rfl
@[simp] theorem l_ref (n : Nat) : lstOf S (.ref n) = match S[n]? with
    | some (.lst l) => some l
    | _ => none := nr rfl
@[simp] theorem idx_int (k : Int) : idxD S x (.int k) = (seqOf S x).bd fun l => atI l k := nr rfl
@[simp] theorem at_nat {α : Type} (xs : List α) (k : Nat) : atI xs (k : Int) = xs[k]? := by
  unfold atI ixN
  by_cases h : k < xs.length
  · simp [h]
  · simp [h]
@[simp] theorem at_lit {α : Type} (xs : List α) (k : Nat) : atI xs (no_index (@OfNat.ofNat Int k instOfNat)) = xs[(OfNat.ofNat k : Nat)]? := at_nat xs k
@[simp] theorem b_len : bltD S .len [x] = (seqOf S x).map fun l => .int l.length := nr rfl
@[simp] theorem b_int : bltD S .int [.int i] = some (.int i) := nr rfl
@[simp] theorem b_abs : bltD S .abs [.int i] = some (.int (if i < 0 then -i else i)) := nr rfl
@[simp] theorem b_list : bltD S .list [x] = (seqOf S x).map .lv := nr rfl
@[simp] theorem b_tuple : bltD S .tuple [.tup l] = some (.tup l) := nr rfl
@[simp] theorem b_tuple2 : bltD S .tuple [.lv l] = some (.tup l) := nr rfl
@[simp] theorem b_sum : bltD S .sum [x] = ((lstOf S x).bind intsOf).map fun ns => .int ns.sum := nr rfl
@[simp] theorem b_all : bltD S .all [x] = ((lstOf S x).bind blsOf).map fun bs => .bl (bs.all id) := nr rfl
@[simp] theorem b_any : bltD S .any [x] = ((lstOf S x).bind blsOf).map fun bs => .bl (bs.any id) := nr rfl
@[simp] theorem k_ii (i : Int) : kindIs .int (.int i) = true := nr rfl
@[simp] theorem k_ib (b : Bool) : kindIs .int (.bl b) = true := nr rfl
@[simp] theorem k_bi (i : Int) : kindIs .bool (.int i) = false := nr rfl
@[simp] theorem k_bb (b : Bool) : kindIs .bool (.bl b) = true := nr rfl
theorem add_lv (a b : List D) : binD S .add (.lv a) (.lv b) = if a.length + b.length ≤ 1000000 then some (.lv (a ++ b)) else none := by
  show (lstOf S (.lv a)).bind (fun a => (lstOf S (.lv b)).bd fun b => if BOp.add = .add ∧ a.length + b.length ≤ lenLine then some (D.lv (a ++ b)) else none) = _
  simp
theorem sl_ref (n : Nat) (a b : Option Int) : slI S (.ref n) a b = (lstOf S (.ref n)).map fun l => .lv (cutV l a b) := nr rfl
theorem pow109 : intOp .pow 10 9 = some 1000000000 := by
  rw [int_pow, if_pos (by decide)]
  rfl
@[simp] theorem set_ref (n : Nat) (k : Int) (x : D) : setS (.ref n) (.int k) x S = match S[n]? with
    | some (.lst l) => (ixN l.length k).map fun j => S.set n (.lst (l.set j x))
    | _ => none := nr rfl
@[simp] theorem ix_nat (n k : Nat) : ixN n (k : Int) = if k < n then some k else none := by
  unfold ixN
  by_cases h : k < n <;> simp [h]
@[simp] theorem ix_lit (n k : Nat) : ixN n (no_index (@OfNat.ofNat Int k instOfNat)) = if (OfNat.ofNat k : Nat) < n then some (OfNat.ofNat k : Nat) else none := ix_nat n k
@[simp] theorem isL_ref (n : Nat) : isL S (.ref n) = match S[n]? with
    | some (.lst _) => true
    | _ => false := nr rfl
@[simp] theorem app_ref (n : Nat) (d : D) : appS (.ref n) d S = match S[n]? with
    | some (.lst l) => if l.length < lenLine then some (.non, S.set n (.lst (l ++ [d]))) else none
    | _ => none := nr rfl
@[simp] theorem pop_ref (n : Nat) : popS (.ref n) S = match S[n]? with
    | some (.lst l) => (l[l.length - 1]?).map fun d => (d, S.set n (.lst l.dropLast))
    | _ => none := nr rfl
/-- range(b) -/
theorem rng1 {b : Nat} (h : b < 2 ^ 62) : rngL [.int b] = some ((List.range b).map fun i => .int (i : Nat)) := by
  have : rngOk (b : Int) := ⟨by omega, by omega⟩
  simp only [rngL]
  rw [if_pos this]
  simp
theorem rng2 {a b : Int} (h : 0 ≤ a) (h2 : a < 2 ^ 62) (h3 : b < 2 ^ 62) (h4 : 0 ≤ b) : rngL [.int a, .int b] = some ((List.range (b - a).toNat).map fun i => .int (a + (i : Nat))) := by
  have : rngOk2 a b := ⟨by omega, by omega, by omega, by omega⟩
  simp only [rngL]
  rw [if_pos this]
theorem rng3 {a b : Int} (h : 0 ≤ a) (h2 : a < 2 ^ 62) (h3 : b < 2 ^ 62) (h4 : 0 ≤ b) : rngL [.int a, .int b, .int (-1)] = some ((List.range (a - b).toNat).map fun i => .int (a - (i : Nat))) := by
  have : rngOk3 a b (-1) := ⟨rfl, by omega, by omega, by omega, by omega⟩
  simp only [rngL]
  rw [if_pos this]
theorem rng_get {n : Nat} {f : Nat → D} {i : Nat} {d : D} (h : ((List.range n).map f)[i]? = some d) : i < n ∧ d = f i := by
  rw [List.getElem?_map] at h
  by_cases hi : i < n
  · rw [List.getElem?_range hi] at h
    exact ⟨hi, by simpa using h.symm⟩
  · rw [List.getElem?_eq_none (by simpa using hi)] at h
    cases h
end
theorem run_keep {T : Nat → Fn} {np ns : Nat} {b : IS} {args : List D} {S S' : Store} {d : D} (h : args.length = np) (e : ∃ v, evalS T b (args.map some ++ List.replicate (ns - np) none) S = some (.rt d, v, S')) : runD T np ns true b args S = some (d, S') := by
  obtain ⟨v, e⟩ := e
  unfold runD
  rw [if_pos h, e]
  rfl
theorem run_keepN {T : Nat → Fn} {np ns : Nat} {b : IS} {args : List D} {S S' : Store} (h : args.length = np) (e : ∃ v, evalS T b (args.map some ++ List.replicate (ns - np) none) S = some (.nx, v, S')) : runD T np ns true b args S = some (.non, S') := by
  obtain ⟨v, e⟩ := e
  unfold runD
  rw [if_pos h, e]
  rfl
theorem run_gc {T : Nat → Fn} {np ns : Nat} {b : IS} {args : List D} {S S' : Store} {d : D} {r : Option (D × Store)} (h : args.length = np) (e : ∃ v, evalS T b (args.map some ++ List.replicate (ns - np) none) S = some (.rt d, v, S')) (g : gc S d S' = r) : runD T np ns false b args S = r := by
  obtain ⟨v, e⟩ := e
  unfold runD
  rw [if_pos h, e]
  exact g
/-! ### what was made is let go -/
def intsD (l : List Int) : List D := l.map .int
@[simp] theorem intsD_nil : intsD [] = [] := rfl
@[simp] theorem intsD_cons (i : Int) (l : List Int) : intsD (i :: l) = .int i :: intsD l := rfl
@[simp] theorem intsD_len (l : List Int) : (intsD l).length = l.length := by simp [intsD]
@[simp] theorem intsD_get (l : List Int) (i : Nat) (h : i < (intsD l).length) : (intsD l)[i]'h = .int (l[i]'(by simpa using h)) := by simp [intsD]
theorem fz_int (S : Store) (m k : Nat) (i : Int) : fz S m k (.int i) = .int i := by cases k <;> rfl
theorem fz_ref (S : Store) (m k n : Nat) : fz S m (k + 1) (.ref n) = if n < m then .ref n else match S[n]? with
      | some (.lst l) => .lv (l.map (fz S m k))
      | _ => .ref n := rfl
theorem fz_lv (S : Store) (m k : Nat) (l : List D) : fz S m (k + 1) (.lv l) = .lv (l.map (fz S m k)) := rfl
theorem fz_tup (S : Store) (m k : Nat) (l : List D) : fz S m (k + 1) (.tup l) = .tup (l.map (fz S m k)) := rfl
theorem fz_ints (S : Store) (m k : Nat) (l : List Int) : (intsD l).map (fz S m k) = intsD l := by
  unfold intsD
  rw [List.map_map]
  exact List.map_congr_left fun x _ => fz_int S m k x
theorem cloL_ints (m : Nat) : ∀ l : List Int, cloL m (intsD l) = true
  | [] => rfl
  | i :: l => by
    show (clo m (.int i) && cloL m (intsD l)) = true
    rw [cloL_ints m l]
    rfl
mutual
theorem fz_clo (S : Store) (m : Nat) : ∀ (k : Nat) (d : D), clo m d = true → fz S m k d = d
  | 0, d, _ => rfl
  | k + 1, .tup l, h => by
    show D.tup _ = _
    rw [fz_cloL S m k l h]
  | k + 1, .lv l, h => by
    show D.lv _ = _
    rw [fz_cloL S m k l h]
  | k + 1, .ref n, h => by
    rw [fz_ref, if_pos (of_decide_eq_true h)]
  | k + 1, .non, _ => rfl
  | k + 1, .bl _, _ => rfl
  | k + 1, .int _, _ => rfl
  | k + 1, .str _, _ => rfl
  | k + 1, .scr _, _ => rfl
theorem fz_cloL (S : Store) (m : Nat) : ∀ (k : Nat) (l : List D), cloL m l = true → l.map (fz S m k) = l
  | _, [], _ => rfl
  | k, d :: l, h => by
    have h' : (clo m d && cloL m l) = true := h
    rw [Bool.and_eq_true] at h'
    rw [List.map_cons, fz_clo S m k d h'.1, fz_cloL S m k l h'.2]
end
/-- one list made, given back, with nothing newer in it -/
theorem gc_new (S : Store) (l : List D) (h : cloL S.length l = true) : gc S (.ref S.length) (S ++ [.lst l]) = some (.lv l, S) := by
  have e : fz (S ++ [.lst l]) S.length fuelD (.ref S.length) = .lv l := by
    show fz _ _ (7 + 1) _ = _
    rw [fz_ref, if_neg (Nat.lt_irrefl _), List.getElem?_append_right (Nat.le_refl _), Nat.sub_self]
    show D.lv _ = _
    rw [fz_cloL _ _ _ _ h]
  unfold gc
  rw [e]
  have c : clo S.length (.lv l) = true := h
  rw [if_pos ⟨by simp, c, fun i hi => .inl (by rw [List.getElem?_append_left hi])⟩]
  simp
/-- one list of numbers made, given back -/
theorem gc_ints (S : Store) (l : List Int) : gc S (.ref S.length) (S ++ [.lst (intsD l)]) = some (.lv (intsD l), S) := gc_new S _ (cloL_ints _ l)
/-- everything made is let go, nothing changed, the answer hangs on nothing new -/
theorem gc_drop (S R : Store) (d : D) (h : clo S.length d = true) : gc S d (S ++ R) = some (d, S) := by
  unfold gc
  rw [fz_clo _ _ _ _ h, if_pos ⟨by simp, h, fun i hi => .inl (by rw [List.getElem?_append_left hi])⟩]
  simp
/-- a comprehension without a test, its values in closed form -/
theorem compL_run {src : D} {all : List D} {tg : Tg} {v : Env} {S : Store} {c e : Env → Store → Option (D × Store)} (g : Nat → D) (hs : ∀ acc, stays src all (S ++ [.lst acc])) : ∀ (items : List D) (k : Nat) (acc : List D), acc.length + items.length ≤ 1000000 →
    (∀ i d, items[i]? = some d → ∀ acc, ∃ v1, bindT tg d v = some v1 ∧ c v1 (S ++ [.lst acc]) = some (.bl true, S ++ [.lst acc]) ∧ e v1 (S ++ [.lst acc]) = some (g (k + i), S ++ [.lst acc])) →
    compL src all tg v S.length c e items (S ++ [.lst acc]) = some (S ++ [.lst (acc ++ (List.range items.length).map fun i => g (k + i))])
  | [], k, acc, _, _ => by
    simp only [compL]
    rw [if_pos (hs acc)]
    simp
  | d :: r, k, acc, hl, step => by
    obtain ⟨v1, h1, h2, h3⟩ := step 0 d rfl acc
    simp only [compL]
    rw [if_pos (hs acc), h1]
    simp only [Option.bind_some]
    rw [h2]
    simp only [Option.bind_some]
    rw [h3]
    simp only [Option.bind_some, Nat.add_zero]
    have e0 : (S ++ [O.lst acc])[S.length]? = some (.lst acc) := by
      rw [List.getElem?_append_right (Nat.le_refl _), Nat.sub_self]
      rfl
    rw [e0]
    simp only
    have hl' : acc.length < lenLine := by
      simp only [List.length_cons] at hl
      show acc.length < 1000000
      omega
    rw [if_pos hl']
    have e1 : (S ++ [O.lst acc]).set S.length (.lst (acc ++ [g k])) = S ++ [.lst (acc ++ [g k])] := by
      rw [List.set_append_right _ _ (Nat.le_refl _), Nat.sub_self]
      rfl
    rw [e1]
    rw [compL_run g hs r (k + 1) (acc ++ [g k]) (by simp at hl ⊢; omega) fun i d hi => by
      have := step (i + 1) d (by simpa using hi)
      simpa only [Nat.add_assoc, Nat.add_comm 1 i] using this]
    rw [List.length_cons, List.range_succ_eq_map, List.map_cons, List.map_map]
    simp only [Nat.add_zero, List.append_assoc, List.singleton_append]
    have : (fun i => g (k + 1 + i)) = ((fun i => g (k + i)) ∘ Nat.succ) := by
      funext i
      show _ = g (k + (i + 1))
      rw [Nat.add_assoc, Nat.add_comm 1]
    rw [this]
/-- .. with a test -/
theorem compL_runF {src : D} {all : List D} {tg : Tg} {v : Env} {S : Store} {c e : Env → Store → Option (D × Store)} (g : Nat → Option D) (hs : ∀ acc, stays src all (S ++ [.lst acc])) : ∀ (items : List D) (k : Nat) (acc : List D), acc.length + items.length ≤ 1000000 →
    (∀ i d, items[i]? = some d → ∀ acc, ∃ v1, bindT tg d v = some v1 ∧ c v1 (S ++ [.lst acc]) = some (.bl (g (k + i)).isSome, S ++ [.lst acc]) ∧ ∀ x, g (k + i) = some x → e v1 (S ++ [.lst acc]) = some (x, S ++ [.lst acc])) →
    compL src all tg v S.length c e items (S ++ [.lst acc]) = some (S ++ [.lst (acc ++ (List.range items.length).filterMap fun i => g (k + i))])
  | [], k, acc, _, _ => by
    simp only [compL]
    rw [if_pos (hs acc)]
    simp
  | d :: r, k, acc, hl, step => by
    obtain ⟨v1, h1, h2, h3⟩ := step 0 d rfl acc
    have next : ∀ acc, acc.length + r.length ≤ 1000000 → compL src all tg v S.length c e r (S ++ [.lst acc]) = some (S ++ [.lst (acc ++ (List.range r.length).filterMap fun i => g (k + 1 + i))]) := fun acc hl => compL_runF g hs r (k + 1) acc hl fun i d hi => by
      have := step (i + 1) d (by simpa using hi)
      simpa only [Nat.add_assoc, Nat.add_comm 1 i] using this
    have ef : (List.range (d :: r).length).filterMap (fun i => g (k + i)) = (g k).toList ++ (List.range r.length).filterMap fun i => g (k + 1 + i) := by
      rw [List.length_cons, List.range_succ_eq_map, List.filterMap_cons, List.filterMap_map]
      have : ((fun i => g (k + i)) ∘ Nat.succ) = fun i => g (k + 1 + i) := by
        funext i
        show g (k + (i + 1)) = _
        rw [Nat.add_assoc, Nat.add_comm 1]
      rw [this, Nat.add_zero]
      cases g k <;> rfl
    simp only [compL]
    rw [if_pos (hs acc), h1]
    simp only [Option.bind_some]
    rw [h2]
    simp only [Option.bind_some]
    rw [Nat.add_zero] at h3
    rw [ef]
    simp only [Nat.add_zero]
    cases eg : g k with
    | none =>
      simp only [Option.isSome_none, Option.toList_none, List.nil_append]
      exact next acc (by simp at hl; omega)
    | some x =>
      simp only [Option.isSome_some]
      rw [h3 x eg]
      simp only [Option.bind_some]
      have e0 : (S ++ [O.lst acc])[S.length]? = some (.lst acc) := by
        rw [List.getElem?_append_right (Nat.le_refl _), Nat.sub_self]
        rfl
      rw [e0]
      simp only
      have hl' : acc.length < lenLine := by
        simp only [List.length_cons] at hl
        show acc.length < 1000000
        omega
      rw [if_pos hl']
      have e1 : (S ++ [O.lst acc]).set S.length (.lst (acc ++ [x])) = S ++ [.lst (acc ++ [x])] := by
        rw [List.set_append_right _ _ (Nat.le_refl _), Nat.sub_self]
        rfl
      rw [e1, next (acc ++ [x]) (by simp at hl ⊢; omega)]
      simp
theorem blsOf_bls : ∀ l : List Bool, blsOf (l.map .bl) = some l
  | [] => rfl
  | i :: l => by
    show (blsOf (l.map .bl)).map (i :: ·) = _
    rw [blsOf_bls l]
    rfl
theorem cloL_bls (m : Nat) : ∀ l : List Bool, cloL m (l.map .bl) = true
  | [] => rfl
  | i :: l => by
    show (clo m (.bl i) && cloL m (l.map .bl)) = true
    rw [cloL_bls m l]
    rfl
/-! ### loops over a list that is written out -/
@[simp] theorem for_nil {body : Run} {l all : List D} {tg : Tg} {w : List Nat} {v : Env} {S : Store} : forL body (.tup l) all tg w [] v S = some (.nx, v, S) := by
  simp only [forL]
  rw [if_pos (show stays (D.tup l) all S from trivial)]
@[simp] theorem for_cons {body : Run} {l all : List D} {tg : Tg} {w : List Nat} {d : D} {r : List D} {v : Env} {S : Store} : forL body (.tup l) all tg w (d :: r) v S = (bindT tg d v).bd fun v1 => (body v1 S).bd fun (f, v2, S2) => match f with
      | .nx => forL body (.tup l) all tg w r (wipeE v2 w) S2
      | .ct => forL body (.tup l) all tg w r (wipeE v2 w) S2
      | .bk => some (.nx, wipeE v2 w, S2)
      | .rt x => some (.rt x, v2, S2) := by
  simp only [forL]
  rw [if_pos (show stays (D.tup l) all S from trivial)]
  rfl
/-- a sum from the left -/
def sm (f : Nat → Int) : Nat → Int
  | 0 => 0
  | i + 1 => sm f i + f i
@[simp] theorem sm_zero (f : Nat → Int) : sm f 0 = 0 := rfl
theorem sum_sm (f : Nat → Int) : ∀ n, ((List.range n).map f).sum = sm f n
  | 0 => rfl
  | n + 1 => by
    rw [List.range_succ, List.map_append, List.sum_append, sum_sm f n]
    simp [sm]
theorem intsOf_ints : ∀ l : List Int, intsOf (intsD l) = some l
  | [] => rfl
  | i :: l => by
    show (intsOf (intsD l)).map (i :: ·) = _
    rw [intsOf_ints l]
    rfl
/-! ### equal lists of numbers -/
theorem datL_ints (k : Nat) : ∀ l : List Int, datL k (intsD l) = true
  | [] => rfl
  | i :: l => by
    show (dat k (.int i) && datL k (intsD l)) = true
    rw [datL_ints k l]
    cases k <;> rfl
theorem eqL_ints : ∀ l q : List Int, eqL (intsD l) (intsD q) = decide (l = q)
  | [], [] => rfl
  | [], _ :: _ => rfl
  | _ :: _, [] => rfl
  | i :: l, j :: q => by
    show (i == j && eqL (intsD l) (intsD q)) = _
    rw [eqL_ints l q]
    by_cases h : i = j <;> by_cases h' : l = q <;> simp [h, h']
theorem eqS_refs {S : Store} {n : Nat} {l : List Int} (h : S[n]? = some (.lst (intsD l))) (q : List Int) : eqS S (.ref n) (.lv (intsD q)) = some (decide (l = q)) := by
  have e1 : fz S 0 fuelD (.ref n) = .lv (intsD l) := by
    show fz S 0 (7 + 1) _ = _
    rw [fz_ref, if_neg (Nat.not_lt_zero _), h]
    show D.lv _ = _
    rw [fz_ints]
  have e2 : fz S 0 fuelD (.lv (intsD q)) = .lv (intsD q) := by
    show D.lv _ = _
    rw [fz_ints]
  show (if (dat 8 (fz S 0 fuelD (.ref n)) && dat 8 (fz S 0 fuelD (.lv (intsD q)))) = true then some (eqD (fz S 0 fuelD (.ref n)) (fz S 0 fuelD (.lv (intsD q)))) else none) = _
  rw [e1, e2]
  have d1 : dat 8 (.lv (intsD l)) = true := datL_ints 7 l
  have d2 : dat 8 (.lv (intsD q)) = true := datL_ints 7 q
  rw [d1, d2]
  show some (eqL (intsD l) (intsD q)) = _
  rw [eqL_ints]
theorem eqS_lvs {S : Store} (l q : List Int) : eqS S (.lv (intsD l)) (.lv (intsD q)) = some (decide (l = q)) := by
  have e : ∀ q, fz S 0 fuelD (.lv (intsD q)) = .lv (intsD q) := fun q => by
    show D.lv _ = _
    rw [fz_ints]
  show (if (dat 8 (fz S 0 fuelD (.lv (intsD l))) && dat 8 (fz S 0 fuelD (.lv (intsD q)))) = true then some (eqD (fz S 0 fuelD (.lv (intsD l))) (fz S 0 fuelD (.lv (intsD q)))) else none) = _
  rw [e, e]
  have d : ∀ l, dat 8 (.lv (intsD l)) = true := datL_ints 7
  rw [d, d]
  show some (eqL (intsD l) (intsD q)) = _
  rw [eqL_ints]
theorem eqS_tups {S : Store} (l q : List Int) : eqS S (.tup (intsD l)) (.tup (intsD q)) = some (decide (l = q)) := by
  have e : ∀ q, fz S 0 fuelD (.tup (intsD q)) = .tup (intsD q) := fun q => by
    show D.tup _ = _
    rw [fz_ints]
  show (if (dat 8 (fz S 0 fuelD (.tup (intsD l))) && dat 8 (fz S 0 fuelD (.tup (intsD q)))) = true then some (eqD (fz S 0 fuelD (.tup (intsD l))) (fz S 0 fuelD (.tup (intsD q)))) else none) = _
  rw [e, e]
  have d : ∀ l, dat 8 (.tup (intsD l)) = true := datL_ints 7
  rw [d, d]
  show some (eqL (intsD l) (intsD q)) = _
  rw [eqL_ints]
theorem ne_nil {S : Store} {n : Nat} {l : List Int} (h : S[n]? = some (.lst (intsD l))) : cmpD S .ne (.ref n) (.lv []) = some (decide (l ≠ [])) := by
  show (eqS S (.ref n) (.lv (intsD []))).map (!·) = _
  rw [eqS_refs h []]
  simp
theorem cut_mem {α : Type} {l : List α} {a b : Option Int} {x : α} (h : x ∈ cutV l a b) : x ∈ l := List.mem_of_mem_drop (List.mem_of_mem_take h)
theorem cut_len {α : Type} (l : List α) (a b : Option Int) : (cutV l a b).length ≤ l.length := by
  unfold cutV
  simp
  omega
/-! ### sizes -/
theorem log2_lt {n k : Nat} (h : n < 2 ^ k) (hk : 0 < k) : n.log2 < k := by
  by_cases e : n = 0
  · subst e
    simpa using hk
  · exact (Nat.log2_lt e).mpr h
theorem mulOk_of {i j : Int} {a b : Nat} (h1 : i.natAbs < 2 ^ a) (h2 : j.natAbs < 2 ^ b) (ha : 0 < a) (hb : 0 < b) (h : a + b ≤ 1000000) : mulOk i j := by
  have := log2_lt h1 ha
  have := log2_lt h2 hb
  unfold mulOk
  omega
theorem divOk_small {i j : Int} (h : 0 < j) (hj : j < 2 ^ 64) : divOk i j := by
  refine ⟨h, .inl ?_⟩
  have : j.natAbs < 2 ^ 64 := by omega
  have := log2_lt this (by decide)
  omega
theorem divOk_of {i j : Int} {a : Nat} (h : 0 < j) (hi : i.natAbs < 2 ^ a) (ha : 0 < a) (hb : a ≤ 13470) : divOk i j := by
  refine ⟨h, ?_⟩
  by_cases h9 : j.natAbs.log2 < 9000
  · exact .inl h9
  · refine .inr ?_
    have hl := log2_lt hi ha
    unfold pyl
    rw [Bool.and_eq_false_iff]
    refine .inr ?_
    rw [decide_eq_false_iff_not]
    have ej : (j == 0) = false := by
      rw [beq_eq_false_iff_ne]
      omega
    rw [ej]
    simp only [Bool.false_eq_true, if_false]
    split <;> omega
end Eng
/-! Kit31: powers, the bag, a drawn prime, as the laws k31 to k36 have them; over any table of defs. -/
namespace Kit31
open Eng
def b_power_of : IS :=
  .seq (.par [2, 3, 4] (.cons (.int 1) (.cons (.var 0) (.cons (.var 1) .nil)))) <|
  .seq (.whl 100000 [] (.cmp .gt (.var 4) (.int 0))
    (.seq (.ite (.cmp .eq (.bin false .mod (.var 4) (.int 2)) (.int 1))
       (.set 2 (.bin false .mul (.var 2) (.var 3)))
       (.skip)) <|
     .seq (.set 4 (.bin false .fdiv (.var 4) (.int 2))) <|
     .ite (.cmp .gt (.var 4) (.int 0))
       (.set 3 (.bin false .mul (.var 3) (.var 3)))
       (.skip))) <|
  .ret (.var 2)
def b_l_bag : IS :=
  .seq (.setc 1 (.comp false [4] (.itv (.sl false (.var 0) .non (.int 63))) (.nm 4) .no (.blt false .abs (.cons (.blt false .int (.cons (.var 4) .nil)) .nil)))) <|
  .seq (.set 2 (.bin false .add (.int 2468) (.blt false .len (.cons (.var 1) .nil)))) <|
  .seq (.for_ [3] (.nm 3) (.itv (.var 1))
    (.set 2 (.bin false .mod (.blt false .int (.cons (.bin false .add (.bin false .add (.bin false .mul (.var 2) (.int 48271)) (.bin false .mod (.blt false .int (.cons (.var 3) .nil)) (.int 2147483629))) (.int 7)) .nil)) (.int 2147483647)))) <|
  .ret (.lst true (.cons (.lrev true (.blt false .list (.cons (.var 1) .nil))) (.cons (.int 0) (.cons (.var 2) .nil))))
def b_l_draw : IS :=
  .seq (.ite (.and (.cmp .eq (.idx (.var 0) (.int 1)) (.int 0)) (.cmp .ne (.idx (.var 0) (.int 0)) (.lst false .nil)))
    (.seq (.set 2 (.pop (.idx (.var 0) (.int 0)))) <|
     .six (.var 0) (.int 1) (.ite (.cmp .gt (.var 2) (.bin false .pow (.int 10) (.int 9))) (.var 2) (.int 0)))
    (.skip)) <|
  .seq (.ite (.cmp .gt (.idx (.var 0) (.int 1)) (.int 0))
    (.seq (.set 3 (.bin false .mod (.blt false .int (.cons (.idx (.var 0) (.int 1)) .nil)) (.var 1))) <|
     .seq (.six (.var 0) (.int 1) (.bin false .fdiv (.idx (.var 0) (.int 1)) (.var 1))) <|
     .ret (.var 3))
    (.skip)) <|
  .seq (.six (.var 0) (.int 2) (.bin false .mod (.blt false .int (.cons (.bin false .add (.bin false .mul (.idx (.var 0) (.int 2)) (.int 48271)) (.int 11)) .nil)) (.int 2147483647))) <|
  .ret (.bin false .mod (.blt false .int (.cons (.bin false .fdiv (.bin false .mod (.blt false .int (.cons (.bin false .mul (.idx (.var 0) (.int 2)) (.idx (.var 0) (.int 2))) .nil)) (.int 2147483629)) (.int 7)) .nil)) (.var 1))
def b_l_prime : IS :=
  .seq (.for_ [1] (.nm 1) (.rng (.cons (.var 0) (.cons (.int 1) (.cons (.neg (.int 1)) .nil))))
    (.ite (.blt false .all (.cons (.comp false [2] (.rng (.cons (.int 2) (.cons (.int 32) .nil))) (.nm 2) (.cmp .lt (.var 2) (.var 1)) (.cmp .ne (.bin false .mod (.blt false .int (.cons (.var 1) .nil)) (.var 2)) (.int 0))) .nil))
       (.ret (.var 1))
       (.skip))) <|
  .ret (.int 2)
/-! ### powers -/
theorem pow_pos' {p : Int} (h : 1 ≤ p) (k : Nat) : 1 ≤ p ^ k := by
  have := Int.pow_pos (n := p) (m := k) (by omega)
  omega
theorem ipow_le {a b : Int} (h : 0 ≤ a) (h2 : a ≤ b) : ∀ k : Nat, a ^ k ≤ b ^ k
  | 0 => by simp
  | k + 1 => by
    rw [Int.pow_succ, Int.pow_succ]
    exact Int.mul_le_mul (ipow_le h h2 k) h2 h (Int.pow_nonneg (by omega))
theorem two_mono {j k : Nat} (h : j ≤ k) : (2 : Int) ^ j ≤ 2 ^ k := by
  have := Nat.pow_le_pow_right (n := 2) (by decide) h
  exact_mod_cast this
theorem pow_mono {p : Int} (h : 1 ≤ p) {j k : Nat} (hk : j ≤ k) : p ^ j ≤ p ^ k := by
  obtain ⟨d, rfl⟩ := Nat.exists_eq_add_of_le hk
  rw [Int.pow_add]
  calc p ^ j = p ^ j * 1 := by omega
    _ ≤ p ^ j * p ^ d := Int.mul_le_mul_of_nonneg_left (pow_pos' h d) (by have := pow_pos' h j; omega)
theorem pow_lt {p : Int} (h : 1 ≤ p) (h2 : p < 1024) (k : Nat) : p ^ k ≤ 2 ^ (10 * k) := by
  rw [Int.pow_mul]
  exact ipow_le (by omega) (by omega) k
/-- the greatest -/
def BIG : Int := 2 ^ 12960
theorem big {p : Int} (h : 1 ≤ p) (h2 : p < 1024) {k : Nat} (hk : k ≤ 1296) : p ^ k ≤ BIG := Int.le_trans (pow_lt h h2 k) (two_mono (show 10 * k ≤ 12960 by omega))
theorem abs_lt {x : Int} {k : Nat} (h : 0 ≤ x) (h2 : x ≤ 2 ^ k) : x.natAbs < 2 ^ (k + 1) := by
  have e : (2 : Int) ^ k = ((2 ^ k : Nat) : Int) := by simp
  have : x.natAbs ≤ 2 ^ k := by omega
  have := Nat.pow_lt_pow_right (a := 2) (by decide) (Nat.lt_succ_self k)
  omega
/-- numbers that may be multiplied -/
def Fits (x : Int) : Prop := 0 ≤ x ∧ x ≤ BIG
theorem Fits.lt {x : Int} (h : Fits x) : x.natAbs < 2 ^ (12960 + 1) := abs_lt (k := 12960) h.1 h.2
theorem Fits.mul {x y : Int} (h1 : Fits x) (h2 : Fits y) : mulOk x y := mulOk_of h1.lt h2.lt (by decide) (by decide) (by decide)
theorem Fits.div {x y : Int} (h1 : Fits x) (h2 : 0 < y) : divOk x y := divOk_of h2 h1.lt (by decide) (by decide)
theorem Fits.of {x y : Int} (h0 : 0 ≤ x) (h1 : x ≤ y) (h2 : y ≤ BIG) : Fits x := ⟨h0, Int.le_trans h1 h2⟩
theorem Fits.small {x : Int} (h0 : 0 ≤ x) (h1 : x ≤ 2 ^ 64) : Fits x := ⟨h0, Int.le_trans h1 (two_mono (show 64 ≤ 12960 by decide))⟩
theorem le_pow {a : Int} (h : 1 ≤ a) : ∀ {m : Nat}, 0 < m → a ≤ a ^ m
  | m + 1, _ => by
    have := pow_pos' h m
    rw [Int.pow_succ]
    calc a = 1 * a := by omega
      _ ≤ a ^ m * a := Int.mul_le_mul_of_nonneg_right this (by omega)
theorem pow_odd (f o : Int) (m : Nat) (h : m % 2 = 1) : f * o * (o * o) ^ (m / 2) = f * o ^ m := by
  have e : m = 2 * (m / 2) + 1 := by omega
  conv => rhs; rw [e, Int.pow_succ, Int.pow_mul]
  have : o ^ 2 = o * o := by rw [Int.pow_succ, Int.pow_succ]; simp
  rw [this]
  grind
theorem pow_even (f o : Int) (m : Nat) (h : m % 2 = 0) : f * (o * o) ^ (m / 2) = f * o ^ m := by
  have e : m = 2 * (m / 2) := by omega
  conv => rhs; rw [e, Int.pow_mul]
  have : o ^ 2 = o * o := by rw [Int.pow_succ, Int.pow_succ]; simp
  rw [this]
theorem power_ok (T : Nat → Fn) {p : Int} {k : Nat} (h1 : 1 ≤ p) (h2 : p < 1024) (hk : k ≤ 1296) (S : Store) : runD T 2 5 true b_power_of [.int p, .int k] S = some (.int (p ^ k), S) := by
  have hP := big h1 h2 hk
  have key := whlL_inv (c := evalE T (.cmp .gt (.var 4) (.int 0))) (body := evalS T (.seq (.ite (.cmp .eq (.bin false .mod (.var 4) (.int 2)) (.int 1))
       (.set 2 (.bin false .mul (.var 2) (.var 3)))
       (.skip)) <|
     .seq (.set 4 (.bin false .fdiv (.var 4) (.int 2))) <|
     .ite (.cmp .gt (.var 4) (.int 0))
       (.set 3 (.bin false .mul (.var 3) (.var 3)))
       (.skip))) (w := []) (fun m v S' => S' = S ∧ ∃ f o : Int, v = [some (.int p), some (.int k), some (.int f), some (.int o), some (.int (m : Nat))] ∧ 1 ≤ f ∧ 1 ≤ o ∧ f * o ^ m = p ^ k)
    (fun v S' => S' = S ∧ ∃ o l : Int, v = [some (.int p), some (.int k), some (.int (p ^ k)), some (.int o), some (.int l)]) (fun _ _ => False) ?_ 100000 k [some (.int p), some (.int k), some (.int 1), some (.int p), some (.int k)] S (by omega) ⟨rfl, 1, p, rfl, by decide, h1, by simp⟩
  · obtain ⟨f, v', S', e, ⟨rfl, rfl, o, l, rfl⟩ | ⟨x, _, hf⟩⟩ := key
    · exact run_keep rfl ⟨_, by simp [b_power_of, s_whl, e]; rfl⟩
    · exact hf.elim
  · rintro m v S' ⟨rfl, f, o, rfl, hf, ho, hfo⟩
    by_cases hm : m = 0
    · subst hm
      refine ⟨false, S', by simp, fun _ => ⟨rfl, o, 0, ?_⟩, fun h => by cases h⟩
      rw [← hfo]
      simp
    · refine ⟨true, S', by simp; omega, fun h => (by cases h), fun _ => ?_⟩
      have b1 : f ≤ p ^ k := by
        rw [← hfo]
        calc f = f * 1 := by omega
          _ ≤ f * o ^ m := Int.mul_le_mul_of_nonneg_left (pow_pos' ho m) (by omega)
      have b2 : o ≤ p ^ k := by
        rw [← hfo]
        calc o ≤ o ^ m := le_pow ho (by omega)
          _ = 1 * o ^ m := by omega
          _ ≤ f * o ^ m := Int.mul_le_mul_of_nonneg_right hf (by have := pow_pos' ho m; omega)
      have c1 := Fits.of (by omega : 0 ≤ f) b1 hP
      have c2 := Fits.of (by omega : 0 ≤ o) b2 hP
      have mo := c1.mul c2
      have mm := c2.mul c2
      have d2 : divOk (m : Int) 2 := divOk_small (by decide) (by decide)
      have fo : 1 ≤ f * o := by
        have := Int.mul_pos (a := f) (b := o) (by omega) (by omega)
        omega
      have oo : 1 ≤ o * o := by
        have := Int.mul_pos (a := o) (b := o) (by omega) (by omega)
        omega
      by_cases ho2 : m % 2 = 1
      · have hd : (m : Int) % 2 = 1 := by omega
        by_cases hp : 0 < (m : Int) / 2
        · refine ⟨.nx, _, S', (by simp [hd, mo, mm, d2, hp]; rfl), .inl ⟨.inl rfl, m / 2, by omega, rfl, f * o, o * o, by simp, fo, oo, ?_⟩⟩
          rw [pow_odd f o m ho2, hfo]
        · refine ⟨.nx, _, S', (by simp [hd, mo, mm, d2, hp]; rfl), .inl ⟨.inl rfl, m / 2, by omega, rfl, f * o, o, by simp, fo, ho, ?_⟩⟩
          have e1 : m = 1 := by omega
          subst e1
          rw [← hfo, Int.pow_succ, Int.pow_zero]
          simp
      · have hd : ¬ (m : Int) % 2 = 1 := by omega
        have hp : 0 < (m : Int) / 2 := by omega
        refine ⟨.nx, _, S', (by simp [hd, mo, mm, d2, hp]; rfl), .inl ⟨.inl rfl, m / 2, by omega, rfl, f, o * o, by simp, hf, oo, ?_⟩⟩
        rw [pow_even f o m (by omega), hfo]
def b_group_size : IS :=
  .seq (.set 2 (.int 1)) <|
  .seq (.for_ [3] (.nm 3) (.rng (.cons (.var 1) .nil))
    (.set 2 (.bin false .mul (.var 2) (.bin false .sub (.call 0 (.cons (.var 0) (.cons (.var 1) .nil))) (.call 0 (.cons (.var 0) (.cons (.var 3) .nil))))))) <|
  .ret (.var 2)
/-! ### sizes of groups -/
def gsz (p : Int) (n : Nat) : Nat → Int
  | 0 => 1
  | i + 1 => gsz p n i * (p ^ n - p ^ i)
@[simp] theorem gsz_zero (p : Int) (n : Nat) : gsz p n 0 = 1 := rfl
theorem gsz_pos {p : Int} (h : 2 ≤ p) (n : Nat) : ∀ i, i ≤ n → 0 < gsz p n i ∧ gsz p n i ≤ p ^ (n * i)
  | 0, _ => by simp [gsz]
  | i + 1, hi => by
    obtain ⟨a, b⟩ := gsz_pos h n i (by omega)
    have c : p ^ i < p ^ n := by
      have e : p ^ (i + 1) ≤ p ^ n := pow_mono (by omega) hi
      rw [Int.pow_succ] at e
      have := pow_pos' (show 1 ≤ p by omega) i
      have : p ^ i * 2 ≤ p ^ i * p := Int.mul_le_mul_of_nonneg_left h (by omega)
      omega
    have d := pow_pos' (show 1 ≤ p by omega) i
    constructor
    · exact Int.mul_pos a (by omega)
    · show gsz p n i * (p ^ n - p ^ i) ≤ _
      rw [Nat.mul_succ, Int.pow_add]
      exact Int.mul_le_mul b (by omega) (by omega) (Int.pow_nonneg (by omega))
section
variable {p : Int} (h1 : 2 ≤ p) (h2 : p < 1024)
include h1 h2
theorem gsz_fits {n i : Nat} (hn : n ≤ 36) (hi : i ≤ n) : Fits (gsz p n i) := by
  obtain ⟨a, b⟩ := gsz_pos h1 n i hi
  refine Fits.of (by omega) b (big (by omega) h2 ?_)
  calc n * i ≤ n * n := Nat.mul_le_mul_left n hi
    _ ≤ 36 * 36 := Nat.mul_le_mul hn hn
theorem group_ok {T : Nat → Fn} {pw : Fn} (hj : T 0 = pw) (hpw : ∀ l S, pw l S = runD T 2 5 true b_power_of l S) {n : Nat} (hn : n ≤ 36) (S : Store) : runD T 2 4 true b_group_size [.int p, .int n] S = some (.int (gsz p n n), S) := by
  have run := forL_run (body := evalS T (.set 2 (.bin false .mul (.var 2) (.bin false .sub (.call 0 (.cons (.var 0) (.cons (.var 1) .nil))) (.call 0 (.cons (.var 0) (.cons (.var 3) .nil)))))))
    (src := .tup ((List.range n).map fun i => .int (i : Nat))) (all := (List.range n).map fun i => .int (i : Nat)) (tg := .nm 3) (w := [3])
    (fun i => [some (.int p), some (.int n), some (.int (gsz p n i)), none]) (fun _ => S) (fun _ => trivial) ((List.range n).map fun i => .int (i : Nat)) 0 ?_
  · simp at run
    exact run_keep rfl ⟨_, by simp [b_group_size, s_for, rng1 (show n < 2 ^ 62 by omega), run]; rfl⟩
  · intro i d hd
    obtain ⟨hi, rfl⟩ := rng_get hd
    simp only [Nat.zero_add]
    have e1 := power_ok T (p := p) (k := n) (by omega) h2 (by omega) S
    have e2 := power_ok T (p := p) (k := i) (by omega) h2 (by omega) S
    rw [← hpw] at e1 e2
    have f1 := gsz_fits h1 h2 hn (show i ≤ n by omega)
    have b1 := big (p := p) (by omega) h2 (show n ≤ 1296 by omega)
    have m1 := pow_mono (show 1 ≤ p by omega) (show i ≤ n by omega)
    have q1 := pow_pos' (show 1 ≤ p by omega) i
    have f2 : Fits (p ^ n - p ^ i) := Fits.of (by omega) (show _ ≤ p ^ n by omega) b1
    have m := f1.mul f2
    exact ⟨_, _, rfl, (by simp [hj, e1, e2, m]; rfl), by simp [gsz]⟩
end
/-! ### the bag -/
def St (cells : List Int) (s m : Int) (R : Store) : Store := .lst (intsD cells) :: .lst [.ref 0, .int s, .int m] :: R
structure Bag (cells : List Int) (s m : Int) : Prop where
  cs : ∀ c ∈ cells, 0 ≤ c
  s0 : 0 ≤ s
  m0 : 0 ≤ m
  m1 : m < 2 ^ 31
theorem draw2 {T : Nat → Fn} {cells : List Int} {s m below : Int} {R : Store} {w : Env} {x : Option D} (B : Bag cells s m) (hb : 0 < below) (hb2 : below < 2 ^ 64) :
    ∃ r cells' s' m' v, evalS T (.seq (.ite (.cmp .gt (.idx (.var 0) (.int 1)) (.int 0))
    (.seq (.set 3 (.bin false .mod (.blt false .int (.cons (.idx (.var 0) (.int 1)) .nil)) (.var 1))) <|
     .seq (.six (.var 0) (.int 1) (.bin false .fdiv (.idx (.var 0) (.int 1)) (.var 1))) <|
     .ret (.var 3))
    (.skip)) <|
  .seq (.six (.var 0) (.int 2) (.bin false .mod (.blt false .int (.cons (.bin false .add (.bin false .mul (.idx (.var 0) (.int 2)) (.int 48271)) (.int 11)) .nil)) (.int 2147483647))) <|
  .ret (.bin false .mod (.blt false .int (.cons (.bin false .fdiv (.bin false .mod (.blt false .int (.cons (.bin false .mul (.idx (.var 0) (.int 2)) (.idx (.var 0) (.int 2))) .nil)) (.int 2147483629)) (.int 7)) .nil)) (.var 1)))
     [some (.ref 1), some (.int below), x, none] (St cells s m R) = some (.rt (.int r), v, St cells' s' m' R) ∧ 0 ≤ r ∧ r < below ∧ Bag cells' s' m' := by
  have db : divOk s below := divOk_small hb hb2
  by_cases hs : 0 < s
  · refine ⟨s % below, cells, s / below, m, _, (by simp [St, hs, hb, db]; rfl), Int.emod_nonneg _ (by omega), Int.emod_lt_of_pos _ hb, B.cs, Int.ediv_nonneg B.s0 (by omega), B.m0, B.m1⟩
  · have m0 := B.m0
    have m1 := B.m1
    have k1 := (Fits.small (x := m) (by omega) (by omega)).mul (Fits.small (x := 48271) (by omega) (by omega))
    have q0 : 0 ≤ (m * 48271 + 11) % 2147483647 := Int.emod_nonneg _ (by omega)
    have q1 : (m * 48271 + 11) % 2147483647 < 2147483647 := Int.emod_lt_of_pos _ (by omega)
    have k2 := (Fits.small (x := (m * 48271 + 11) % 2147483647) (by omega) (by omega)).mul (Fits.small (x := (m * 48271 + 11) % 2147483647) (by omega) (by omega))
    generalize hm' : (m * 48271 + 11) % 2147483647 = m' at *
    have d7 : divOk (m' * m' % 2147483629) 7 := divOk_small (by decide) (by decide)
    refine ⟨m' * m' % 2147483629 / 7 % below, cells, s, m', _, (by simp [St, hs, hb, k1, hm', k2, d7]; rfl), Int.emod_nonneg _ (by omega), Int.emod_lt_of_pos _ hb, B.cs, B.s0, q0, by omega⟩
theorem draw1 {T : Nat → Fn} {cells : List Int} {s m below : Int} {R : Store} (B : Bag cells s m) :
    ∃ cells' s' x, evalS T (.ite (.and (.cmp .eq (.idx (.var 0) (.int 1)) (.int 0)) (.cmp .ne (.idx (.var 0) (.int 0)) (.lst false .nil)))
    (.seq (.set 2 (.pop (.idx (.var 0) (.int 0)))) <|
     .six (.var 0) (.int 1) (.ite (.cmp .gt (.var 2) (.bin false .pow (.int 10) (.int 9))) (.var 2) (.int 0)))
    (.skip)) [some (.ref 1), some (.int below), none, none] (St cells s m R) = some (.nx, [some (.ref 1), some (.int below), x, none], St cells' s' m R) ∧ Bag cells' s' m := by
  have nn := ne_nil (S := St cells s m R) (n := 0) (l := cells) rfl
  by_cases hs : s = 0
  · subst hs
    rcases List.eq_nil_or_concat cells with rfl | ⟨init, c, rfl⟩
    · exact ⟨[], 0, none, by simp [St] at nn ⊢; simp [nn], B⟩
    · have hc : 0 ≤ c := B.cs c (by simp)
      have hne : init ++ [c] ≠ [] := by simp
      have hi : ∀ z ∈ init, 0 ≤ z := fun z hz => B.cs z (by simp [hz])
      have e1 : (intsD (init ++ [c]))[init.length]? = some (.int c) := by simp [intsD]
      have e2 : (intsD (init ++ [c])).dropLast = intsD init := by simp [intsD]
      by_cases h9 : 1000000000 < c
      · refine ⟨init, c, some (.int c), ?_, hi, hc, B.m0, B.m1⟩
        simp [St] at nn
        simp [St, nn, e1, e2, pow109, h9]
      · refine ⟨init, 0, some (.int c), ?_, hi, by omega, B.m0, B.m1⟩
        simp [St] at nn
        simp [St, nn, e1, e2, pow109, h9]
  · exact ⟨cells, s, none, by simp [St, hs], B⟩
theorem draw_ok (T : Nat → Fn) {cells : List Int} {s m below : Int} {R : Store} (B : Bag cells s m) (hb : 0 < below) (hb2 : below < 2 ^ 64) :
    ∃ r cells' s' m', runD T 2 4 true b_l_draw [.ref 1, .int below] (St cells s m R) = some (.int r, St cells' s' m' R) ∧ 0 ≤ r ∧ r < below ∧ Bag cells' s' m' := by
  obtain ⟨c1, s1, x, e1, B1⟩ := draw1 (T := T) (below := below) (R := R) B
  obtain ⟨r, c', s', m', v, e2, h⟩ := draw2 (T := T) (R := R) (w := []) (x := x) B1 hb hb2
  refine ⟨r, c', s', m', run_keep rfl ⟨v, ?_⟩, h⟩
  show evalS _ (.seq _ _) [some (.ref 1), some (.int below), none, none] _ = _
  rw [s_seq, e1]
  exact e2
theorem pick_ok (T : Nat → Fn) {dr : Fn} {j : Nat} {cells : List Int} {s m : Int} {R : Store} (hj : T j = dr) (hd : ∀ l S, dr l S = runD T 2 4 true b_l_draw l S) (B : Bag cells s m) (l : List Int) (hl : l ≠ []) (hl2 : l.length < 1000) :
    ∃ x cells' s' m', runD T 2 2 true (.ret (.idx (.var 1) (.call j (.cons (.var 0) (.cons (.blt false .len (.cons (.var 1) .nil)) .nil))))) [.ref 1, .lv (intsD l)] (St cells s m R) = some (.int x, St cells' s' m' R) ∧ x ∈ l ∧ Bag cells' s' m' := by
  have hp : 0 < l.length := List.length_pos_iff.mpr hl
  obtain ⟨r, c', s', m', e, h0, h1, B'⟩ := draw_ok T (below := (l.length : Int)) (R := R) B (by omega) (by omega)
  rw [← hd] at e
  obtain ⟨k, rfl⟩ := Int.eq_ofNat_of_zero_le h0
  have hk : k < l.length := by omega
  have g : (intsD l)[k]? = some (.int l[k]) := by simp [intsD, hk]
  exact ⟨l[k], c', s', m', run_keep rfl ⟨_, by simp [hj, e, g]; rfl⟩, List.getElem_mem hk, B'⟩
/-! ### the bag is made -/
def absI (i : Int) : Int := if i < 0 then -i else i
theorem bag_ok (T : Nat → Fn) (ns : List Int) (hn : ns.length ≤ 63) : ∃ cells m, runD T 1 5 true b_l_bag [.scr ns] [] = some (.ref 1, St cells 0 m []) ∧ Bag cells 0 m := by
  obtain ⟨us, hus⟩ : ∃ us, us = cutV ns none (some 63) := ⟨_, rfl⟩
  have hlen : us.length ≤ 63 := by
    rw [hus]
    unfold cutV
    simp
    omega
  have sl : slI [] (.scr ns) none (some 63) = some (.lv (intsD us)) := by
    rw [hus]
    rfl
  obtain ⟨cells, hc⟩ : ∃ cells, cells = (List.range us.length).map fun i => absI (us.getD i 0) := ⟨_, rfl⟩
  have hcl : cells.length ≤ 63 := by
    rw [hc]
    simpa using hlen
  have h0 : ∀ c ∈ cells, 0 ≤ c := by
    intro c h
    rw [hc] at h
    obtain ⟨i, _, rfl⟩ := List.mem_map.mp h
    unfold absI
    split <;> omega
  have cr := compL_run (src := .lv (intsD us)) (all := intsD us) (tg := .nm 4) (v := [some (.scr ns), none, none, none, none]) (S := []) (c := evalE T .no) (e := evalE T (.blt false .abs (.cons (.blt false .int (.cons (.var 4) .nil)) .nil)))
    (fun i => .int (absI (us.getD i 0))) (fun _ => trivial) (intsD us) 0 [] (by simp; omega) ?_
  · have ec : (List.range us.length).map (fun i => D.int (absI (us.getD i 0))) = intsD cells := by
      rw [hc]
      unfold intsD
      rw [List.map_map]
      rfl
    simp only [List.nil_append, Nat.zero_add, intsD_len, List.length_nil] at cr
    rw [ec] at cr
    have gg := gc_ints [] cells
    simp only [List.nil_append, List.length_nil] at gg
    have lp := forL_inv (body := evalS T (.set 2 (.bin false .mod (.blt false .int (.cons (.bin false .add (.bin false .add (.bin false .mul (.var 2) (.int 48271)) (.bin false .mod (.blt false .int (.cons (.var 3) .nil)) (.int 2147483629))) (.int 7)) .nil)) (.int 2147483647))))
      (src := .lv (intsD cells)) (all := intsD cells) (tg := .nm 3) (w := [3]) (fun i v S => S = [] ∧ ∃ m : Int, v = [some (.scr ns), some (.lv (intsD cells)), some (.int m), none, none] ∧ 0 ≤ m ∧ m < 2 ^ 31) (fun _ _ => False) (fun _ _ _ _ => trivial)
      (intsD cells) 0 [some (.scr ns), some (.lv (intsD cells)), some (.int (2468 + cells.length)), none, none] [] ⟨rfl, _, rfl, by omega, by omega⟩ ?_
    · obtain ⟨f, v', S', e, ⟨rfl, rfl, m, rfl, m0, m1⟩ | ⟨_, _, hf⟩⟩ := lp
      · have er : (intsD cells).reverse = intsD cells.reverse := by simp [intsD]
        have hlen' : us.length ≤ 1000000 := by omega
        refine ⟨cells.reverse, m, run_keep rfl ⟨_, by simp [b_l_bag, s_for, e_comp, partD, isNon, sl, cr, gg, e, er, hlen', -Option.map_bind]; exact ⟨rfl, rfl⟩⟩, ⟨fun c hc => h0 c (by simpa using hc), Int.le_refl _, m0, m1⟩⟩
      · exact hf.elim
    · rintro i d v S hd ⟨rfl, m, rfl, m0, m1⟩
      have hi : i < cells.length := by
        have := (List.getElem?_eq_some_iff.mp hd).1
        simpa using this
      have : d = .int cells[i] := by
        have h := (List.getElem?_eq_some_iff.mp hd).2
        simpa using h.symm
      subst this
      have k1 := (Fits.small (x := m) (by omega) (by omega)).mul (Fits.small (x := 48271) (by omega) (by omega))
      refine ⟨_, .nx, _, [], rfl, (by simp [k1]; rfl), .inl ⟨.inl rfl, rfl, _, by simp; rfl, Int.emod_nonneg _ (by omega), ?_⟩⟩
      have := Int.emod_lt_of_pos (m * 48271 + cells[i] % 2147483629 + 7) (show (0 : Int) < 2147483647 by omega)
      omega
  · intro i d hd acc
    have hi : i < us.length := by
      have := (List.getElem?_eq_some_iff.mp hd).1
      simpa using this
    have : d = .int us[i] := by
      have h := (List.getElem?_eq_some_iff.mp hd).2
      simpa using h.symm
    subst this
    refine ⟨_, rfl, rfl, by simp [absI, hi]⟩
/-! ### a prime -/
def isPr (q : Int) : Bool := ((List.range 30).filterMap fun i => if ((2 : Int) + (i : Nat)) < q then some (decide (q % (2 + (i : Nat)) ≠ 0)) else none).all id
theorem prime_ok (T : Nat → Fn) {most : Int} (h1 : 2 ≤ most) (h2 : most < 1024) (S : Store) : ∃ q, runD T 1 3 true b_l_prime [.int most] S = some (.int q, S) ∧ 2 ≤ q ∧ q ≤ most ∧ isPr q = true := by
  have r1 := rng3 (a := most) (b := 1) (by omega) (by omega) (by decide) (by decide)
  obtain ⟨L, hL⟩ : ∃ L, L = (List.range (most - 1).toNat).map fun i => D.int (most - (i : Nat)) := ⟨_, rfl⟩
  rw [← hL] at r1
  have r2 : rngL [.int 2, .int 32] = some ((List.range 30).map fun i => .int (2 + (i : Nat))) := rng2 (a := 2) (b := 32) (by decide) (by decide) (by decide) (by decide)
  have lp := forL_inv (body := evalS T (.ite (.blt false .all (.cons (.comp false [2] (.rng (.cons (.int 2) (.cons (.int 32) .nil))) (.nm 2) (.cmp .lt (.var 2) (.var 1)) (.cmp .ne (.bin false .mod (.blt false .int (.cons (.var 1) .nil)) (.var 2)) (.int 0))) .nil))
       (.ret (.var 1))
       (.skip)))
    (src := .tup L) (all := L) (tg := .nm 1) (w := [1]) (fun i v S' => S' = S ∧ v = [some (.int most), none, none])
    (fun x S' => S' = S ∧ ∃ q, x = .int q ∧ 2 ≤ q ∧ q ≤ most ∧ isPr q = true) (fun _ _ _ _ => trivial) L 0 [some (.int most), none, none] S ⟨rfl, rfl⟩ ?_
  · obtain ⟨f, v', S', e, ⟨rfl, rfl, rfl⟩ | ⟨x, rfl, rfl, q, rfl, hq⟩⟩ := lp
    · exact ⟨2, run_keep rfl ⟨_, by simp [b_l_prime, s_for, r1, e, -Option.map_bind]; rfl⟩, by omega, h1, by decide +kernel⟩
    · exact ⟨q, run_keep rfl ⟨_, by simp [b_l_prime, s_for, r1, e, -Option.map_bind]; rfl⟩, hq⟩
  · rintro i d v S' hd ⟨rfl, rfl⟩
    rw [hL] at hd
    obtain ⟨hi, rfl⟩ := rng_get hd
    obtain ⟨q, hq⟩ : ∃ q, q = most - (i : Nat) := ⟨_, rfl⟩
    rw [← hq]
    have q2 : 2 ≤ q := by omega
    have cr := compL_runF (src := .tup ((List.range 30).map fun i => .int (2 + (i : Nat)))) (all := (List.range 30).map fun i => .int (2 + (i : Nat))) (tg := .nm 2) (v := [some (.int most), some (.int q), none]) (S := S')
      (c := evalE T (.cmp .lt (.var 2) (.var 1))) (e := evalE T (.cmp .ne (.bin false .mod (.blt false .int (.cons (.var 1) .nil)) (.var 2)) (.int 0)))
      (fun i => if ((2 : Int) + (i : Nat)) < q then some (.bl (decide (q % (2 + (i : Nat)) ≠ 0))) else none) (fun _ => trivial) ((List.range 30).map fun i => .int (2 + (i : Nat))) 0 [] (by simp) ?_
    · have ef : (List.range 30).filterMap (fun i => if ((2 : Int) + (i : Nat)) < q then some (D.bl (decide (q % (2 + (i : Nat)) ≠ 0))) else none) = ((List.range 30).filterMap fun i => if ((2 : Int) + (i : Nat)) < q then some (decide (q % (2 + (i : Nat)) ≠ 0)) else none).map .bl := by
        rw [List.map_filterMap]
        congr 1
        funext i
        split <;> rfl
      simp only [List.nil_append, Nat.zero_add, List.length_map, List.length_range] at cr
      rw [ef] at cr
      have gg := gc_new S' _ (cloL_bls S'.length ((List.range 30).filterMap fun i => if ((2 : Int) + (i : Nat)) < q then some (decide (q % (2 + (i : Nat)) ≠ 0)) else none))
      have hb := blsOf_bls ((List.range 30).filterMap fun i => if ((2 : Int) + (i : Nat)) < q then some (decide (q % (2 + (i : Nat)) ≠ 0)) else none)
      have hp : (((List.range 30).filterMap fun i => if ((2 : Int) + (i : Nat)) < q then some (decide (q % (2 + (i : Nat)) ≠ 0)) else none).all id) = isPr q := rfl
      generalize ((List.range 30).filterMap fun i => if ((2 : Int) + (i : Nat)) < q then some (decide (q % (2 + (i : Nat)) ≠ 0)) else none) = L2 at *
      generalize hR : (List.range 30).map (fun i => D.int (2 + (i : Nat))) = R at *
      have hRl : R.length ≤ 1000000 := by rw [← hR]; simp
      cases hpr : isPr q with
      | true =>
        rw [hpr] at hp
        exact ⟨_, .rt (.int q), _, S', rfl, (by simp [e_comp, r2, cr, gg, hb, hp, hRl, -Option.map_bind]; rfl), .inr ⟨_, rfl, rfl, q, rfl, q2, by omega, hpr⟩⟩
      | false =>
        rw [hpr] at hp
        exact ⟨_, .nx, _, S', rfl, (by simp [e_comp, r2, cr, gg, hb, hp, hRl, -Option.map_bind]; rfl), .inl ⟨.inl rfl, rfl, by simp⟩⟩
    · intro i d hd acc
      obtain ⟨hi, rfl⟩ := rng_get hd
      rw [Nat.zero_add]
      by_cases hlt : (2 : Int) + (i : Nat) < q
      · refine ⟨_, rfl, by simp [hlt], fun x hx => ?_⟩
        rw [if_pos hlt] at hx
        cases hx
        have hp : (0 : Int) < 2 + (i : Nat) := by omega
        simp [hp]
      · refine ⟨_, rfl, by simp [hlt], fun x hx => ?_⟩
        rw [if_neg hlt] at hx
        cases hx
@[simp] theorem St_len (c : List Int) (s m : Int) (R : Store) : (St c s m R).length = R.length + 2 := rfl
@[simp] theorem St_app (c : List Int) (s m : Int) (R X : Store) : St c s m R ++ X = St c s m (R ++ X) := rfl
@[simp] theorem St_2 (c : List Int) (s m : Int) (R : Store) : (St c s m R)[2]? = R[0]? := rfl
@[simp] theorem St_s2 (c : List Int) (s m : Int) (R : Store) (o : O) : (St c s m R).set 2 o = St c s m (R.set 0 o) := rfl
@[simp] theorem St_g2 (c : List Int) (s m : Int) (R : Store) (h : 2 < (St c s m R).length) : (St c s m R)[2]'h = R[0]'(by simp at h; omega) := rfl
@[simp] theorem St_3 (c : List Int) (s m : Int) (R : Store) : (St c s m R)[3]? = R[1]? := rfl
@[simp] theorem St_s3 (c : List Int) (s m : Int) (R : Store) (o : O) : (St c s m R).set 3 o = St c s m (R.set 1 o) := rfl
@[simp] theorem St_g3 (c : List Int) (s m : Int) (R : Store) (h : 3 < (St c s m R).length) : (St c s m R)[3]'h = R[1]'(by simp at h; omega) := rfl
@[simp] theorem St_4 (c : List Int) (s m : Int) (R : Store) : (St c s m R)[4]? = R[2]? := rfl
@[simp] theorem St_s4 (c : List Int) (s m : Int) (R : Store) (o : O) : (St c s m R).set 4 o = St c s m (R.set 2 o) := rfl
@[simp] theorem St_g4 (c : List Int) (s m : Int) (R : Store) (h : 4 < (St c s m R).length) : (St c s m R)[4]'h = R[2]'(by simp at h; omega) := rfl
@[simp] theorem St_5 (c : List Int) (s m : Int) (R : Store) : (St c s m R)[5]? = R[3]? := rfl
@[simp] theorem St_s5 (c : List Int) (s m : Int) (R : Store) (o : O) : (St c s m R).set 5 o = St c s m (R.set 3 o) := rfl
@[simp] theorem St_g5 (c : List Int) (s m : Int) (R : Store) (h : 5 < (St c s m R).length) : (St c s m R)[5]'h = R[3]'(by simp at h; omega) := rfl
@[simp] theorem St_6 (c : List Int) (s m : Int) (R : Store) : (St c s m R)[6]? = R[4]? := rfl
@[simp] theorem St_s6 (c : List Int) (s m : Int) (R : Store) (o : O) : (St c s m R).set 6 o = St c s m (R.set 4 o) := rfl
@[simp] theorem St_g6 (c : List Int) (s m : Int) (R : Store) (h : 6 < (St c s m R).length) : (St c s m R)[6]'h = R[4]'(by simp at h; omega) := rfl
end Kit31
/-! ListK: lists of numbers as functions of the place. -/
namespace Eng
/-- n numbers, told by place -/
def fnL (n : Nat) (f : Nat → Int) : List Int := (List.range n).map f
theorem fnL_len (n : Nat) (f : Nat → Int) : (fnL n f).length = n := by simp [fnL]
theorem fnL_get {n : Nat} {f : Nat → Int} {t : Nat} (h : t < n) : (intsD (fnL n f))[t]? = some (.int (f t)) := by
  unfold intsD fnL
  rw [List.map_map, List.getElem?_map, List.getElem?_range h]
  rfl
theorem fnL_none {n : Nat} {f : Nat → Int} {t : Nat} (h : n ≤ t) : (intsD (fnL n f))[t]? = none := List.getElem?_eq_none (by simp [fnL]; exact h)
def upF (f : Nat → Int) (t : Nat) (x : Int) : Nat → Int := fun i => if i = t then x else f i
theorem fnL_set (n : Nat) (f : Nat → Int) (t : Nat) (x : Int) : (intsD (fnL n f)).set t (.int x) = intsD (fnL n (upF f t x)) := by
  apply List.ext_getElem?
  intro i
  by_cases hi : i < n
  · rw [fnL_get hi]
    unfold upF
    by_cases e : i = t
    · subst e
      rw [List.getElem?_set_self (by simpa [fnL] using hi), if_pos rfl]
    · rw [List.getElem?_set_ne (fun h => e h.symm), fnL_get hi, if_neg e]
  · rw [fnL_none (by omega), List.getElem?_eq_none (by simp [fnL]; omega)]
theorem fnL_congr {n : Nat} {f g : Nat → Int} (h : ∀ i, i < n → f i = g i) : fnL n f = fnL n g := List.map_congr_left fun i hi => h i (List.mem_range.mp hi)
theorem fnL_app (n : Nat) (f : Nat → Int) : intsD (fnL n f) ++ [.int (f n)] = intsD (fnL (n + 1) f) := by
  unfold intsD fnL
  rw [List.range_succ]
  simp
end Eng
/-! K32A: the defs of law_k32_whole_main_pairs_and_kinds in the small language (written by gen.py). -/
namespace K32
open Eng
/-- power_of: 0 base, 1 k, 2 found, 3 own, 4 left -/
def b_power_of : IS :=
  .seq (.par [2, 3, 4] (.cons (.int 1) (.cons (.var 0) (.cons (.var 1) .nil)))) <|
  .seq (.whl 100000 [] (.cmp .gt (.var 4) (.int 0))
    (.seq (.ite (.cmp .eq (.bin false .mod (.var 4) (.int 2)) (.int 1))
       (.set 2 (.bin false .mul (.var 2) (.var 3)))
       (.skip)) <|
     .seq (.set 4 (.bin false .fdiv (.var 4) (.int 2))) <|
     .ite (.cmp .gt (.var 4) (.int 0))
       (.set 3 (.bin false .mul (.var 3) (.var 3)))
       (.skip))) <|
  .ret (.var 2)
noncomputable def F_power_of : Fn := runD (tb []) 2 5 true b_power_of
/-- group_size: 0 p, 1 n, 2 found, 3 i -/
def b_group_size : IS :=
  .seq (.set 2 (.int 1)) <|
  .seq (.for_ [3] (.nm 3) (.rng (.cons (.var 1) .nil))
    (.set 2 (.bin false .mul (.var 2) (.bin false .sub (.call 0 (.cons (.var 0) (.cons (.var 1) .nil))) (.call 0 (.cons (.var 0) (.cons (.var 3) .nil))))))) <|
  .ret (.var 2)
noncomputable def F_group_size : Fn := runD (tb [F_power_of]) 2 4 true b_group_size
/-- series_times: 0 one, 1 other, 2 found, 3 i, 4 item, 5 j, 6 own -/
def b_series_times : IS :=
  .seq (.set 2 (.bin true .mul (.lst false (.cons (.int 0) .nil)) (.blt false .len (.cons (.var 0) .nil)))) <|
  .seq (.for_ [3, 4, 5, 6] (.tup (.cons (.nm 3) (.cons (.nm 4) .nil))) (.enu (.var 0))
    (.for_ [5, 6] (.tup (.cons (.nm 5) (.cons (.nm 6) .nil))) (.enu (.sl false (.var 1) .non (.bin false .sub (.blt false .len (.cons (.var 0) .nil)) (.var 3))))
       (.ite (.cmp .ne (.var 6) (.int 0))
          (.six (.var 2) (.bin false .add (.var 3) (.var 5)) (.bin false .add (.idx (.var 2) (.bin false .add (.var 3) (.var 5))) (.bin false .mul (.var 4) (.var 6))))
          (.skip)))) <|
  .ret (.var 2)
noncomputable def F_series_times : Fn := runD (tb [F_power_of, F_group_size]) 2 7 false b_series_times
/-- kinds_number: 0 p, 1 n, 2 found, 3 i, 4 place -/
def b_kinds_number : IS :=
  .seq (.set 2 (.bin true .add (.lst false (.cons (.int 1) .nil)) (.bin false .mul (.lst false (.cons (.int 0) .nil)) (.var 1)))) <|
  .seq (.for_ [3, 4] (.nm 3) (.rng (.cons (.int 1) (.cons (.bin false .add (.var 1) (.int 1)) .nil)))
    (.for_ [4] (.nm 4) (.rng (.cons (.var 3) (.cons (.bin false .add (.var 1) (.int 1)) .nil)))
       (.six (.var 2) (.var 4) (.bin false .add (.idx (.var 2) (.var 4)) (.bin false .mul (.var 0) (.idx (.var 2) (.bin false .sub (.var 4) (.var 3)))))))) <|
  .ret (.idx (.var 2) (.var 1))
noncomputable def F_kinds_number : Fn := runD (tb [F_power_of, F_group_size, F_series_times]) 2 5 false b_kinds_number
/-- invertible_kinds_number: 0 p, 1 n, 2 found, 3 i, 4 place -/
def b_invertible_kinds_number : IS :=
  .seq (.set 2 (.bin true .add (.lst false (.cons (.int 1) .nil)) (.bin false .mul (.lst false (.cons (.int 0) .nil)) (.var 1)))) <|
  .seq (.for_ [3, 4] (.nm 3) (.rng (.cons (.int 1) (.cons (.bin false .add (.var 1) (.int 1)) .nil)))
    (.seq (.for_ [4] (.nm 4) (.rng (.cons (.var 1) (.cons (.bin false .sub (.var 3) (.int 1)) (.cons (.neg (.int 1)) .nil))))
       (.six (.var 2) (.var 4) (.bin false .sub (.idx (.var 2) (.var 4)) (.idx (.var 2) (.bin false .sub (.var 4) (.var 3)))))) <|
     .for_ [4] (.nm 4) (.rng (.cons (.var 3) (.cons (.bin false .add (.var 1) (.int 1)) .nil)))
       (.six (.var 2) (.var 4) (.bin false .add (.idx (.var 2) (.var 4)) (.bin false .mul (.var 0) (.idx (.var 2) (.bin false .sub (.var 4) (.var 3)))))))) <|
  .ret (.idx (.var 2) (.var 1))
noncomputable def F_invertible_kinds_number : Fn := runD (tb [F_power_of, F_group_size, F_series_times, F_kinds_number]) 2 5 false b_invertible_kinds_number
/-- falls: 0 p, 1 k, 2 most, 3 found, 4 power -/
def b_falls : IS :=
  .seq (.set 3 (.int 1)) <|
  .seq (.for_ [4] (.nm 4) (.rng (.cons (.bin false .add (.var 1) (.int 1)) (.cons (.bin false .add (.var 2) (.int 1)) .nil)))
    (.set 3 (.bin false .mul (.var 3) (.bin false .sub (.call 0 (.cons (.var 0) (.cons (.var 4) .nil))) (.int 1))))) <|
  .ret (.var 3)
noncomputable def F_falls : Fn := runD (tb [F_power_of, F_group_size, F_series_times, F_kinds_number, F_invertible_kinds_number]) 3 5 true b_falls
/-- commuting_number: 0 p, 1 n, 2 i, 3 found, 4 share, 5 most, 6 other, 7 k -/
def b_commuting_number : IS :=
  .seq (.par [3, 4] (.cons (.bin false .add (.lst false (.cons (.int 1) .nil)) (.bin false .mul (.lst false (.cons (.int 0) .nil)) (.var 1))) (.cons (.int 1) .nil))) <|
  .seq (.for_ [2, 5, 6, 7] (.nm 2) (.rng (.cons (.int 1) (.cons (.bin false .add (.var 1) (.int 1)) .nil)))
    (.seq (.set 5 (.bin false .fdiv (.var 1) (.var 2))) <|
     .seq (.set 6 (.bin true .mul (.lst false (.cons (.int 0) .nil)) (.bin false .add (.var 1) (.int 1)))) <|
     .seq (.for_ [7] (.nm 7) (.rng (.cons (.bin false .add (.var 5) (.int 1)) .nil))
       (.six (.var 6) (.bin false .mul (.var 2) (.var 7)) (.bin false .mul (.call 0 (.cons (.var 0) (.cons (.bin false .add (.var 7) (.bin false .fdiv (.bin false .mul (.var 7) (.bin false .add (.var 7) (.int 1))) (.int 2))) .nil))) (.call 5 (.cons (.var 0) (.cons (.var 7) (.cons (.var 5) .nil))))))) <|
     .seq (.set 3 (.call 2 (.cons (.var 3) (.cons (.var 6) .nil)))) <|
     .set 4 (.bin false .mul (.var 4) (.call 5 (.cons (.var 0) (.cons (.int 0) (.cons (.var 5) .nil))))))) <|
  .ret (.bin false .fdiv (.bin false .mul (.idx (.var 3) (.var 1)) (.call 1 (.cons (.var 0) (.cons (.var 1) .nil)))) (.var 4))
noncomputable def F_commuting_number : Fn := runD (tb [F_power_of, F_group_size, F_series_times, F_kinds_number, F_invertible_kinds_number, F_falls]) 2 8 false b_commuting_number
/-- nought_pairs_number: 0 p, 1 n, 2 found, 3 r, 4 i, 5 lots, 6 whole -/
def b_nought_pairs_number : IS :=
  .seq (.set 2 (.int 0)) <|
  .seq (.for_ [3, 4, 5, 6] (.nm 3) (.rng (.cons (.bin false .add (.var 1) (.int 1)) .nil))
    (.seq (.tgs (.tup (.cons (.nm 5) (.cons (.nm 6) .nil))) (.tup (.cons (.int 1) (.cons (.int 1) .nil)))) <|
     .seq (.for_ [4] (.nm 4) (.rng (.cons (.var 3) .nil))
       (.seq (.set 5 (.bin false .mul (.var 5) (.bin false .sub (.call 0 (.cons (.var 0) (.cons (.var 1) .nil))) (.call 0 (.cons (.var 0) (.cons (.var 4) .nil)))))) <|
        .set 6 (.bin false .mul (.var 6) (.bin false .sub (.call 0 (.cons (.var 0) (.cons (.var 3) .nil))) (.call 0 (.cons (.var 0) (.cons (.var 4) .nil))))))) <|
     .set 2 (.bin false .add (.var 2) (.bin false .mul (.bin false .fdiv (.bin false .mul (.var 5) (.var 5)) (.var 6)) (.call 0 (.cons (.var 0) (.cons (.bin false .mul (.var 1) (.bin false .sub (.var 1) (.var 3))) .nil))))))) <|
  .ret (.var 2)
noncomputable def F_nought_pairs_number : Fn := runD (tb [F_power_of, F_group_size, F_series_times, F_kinds_number, F_invertible_kinds_number, F_falls, F_commuting_number]) 2 7 true b_nought_pairs_number
/-- _law_bag: 0 script, 1 cells, 2 mixed, 3 cell, 4 number -/
def b_l_bag : IS :=
  .seq (.setc 1 (.comp false [4] (.itv (.sl false (.var 0) .non (.int 63))) (.nm 4) .no (.blt false .abs (.cons (.blt false .int (.cons (.var 4) .nil)) .nil)))) <|
  .seq (.set 2 (.bin false .add (.int 2468) (.blt false .len (.cons (.var 1) .nil)))) <|
  .seq (.for_ [3] (.nm 3) (.itv (.var 1))
    (.set 2 (.bin false .mod (.blt false .int (.cons (.bin false .add (.bin false .add (.bin false .mul (.var 2) (.int 48271)) (.bin false .mod (.blt false .int (.cons (.var 3) .nil)) (.int 2147483629))) (.int 7)) .nil)) (.int 2147483647)))) <|
  .ret (.lst true (.cons (.lrev true (.blt false .list (.cons (.var 1) .nil))) (.cons (.int 0) (.cons (.var 2) .nil))))
noncomputable def F_l_bag : Fn := runD (tb [F_power_of, F_group_size, F_series_times, F_kinds_number, F_invertible_kinds_number, F_falls, F_commuting_number, F_nought_pairs_number]) 1 5 true b_l_bag
/-- _law_draw: 0 bag, 1 below, 2 cell, 3 found -/
def b_l_draw : IS :=
  .seq (.ite (.and (.cmp .eq (.idx (.var 0) (.int 1)) (.int 0)) (.cmp .ne (.idx (.var 0) (.int 0)) (.lst false .nil)))
    (.seq (.set 2 (.pop (.idx (.var 0) (.int 0)))) <|
     .six (.var 0) (.int 1) (.ite (.cmp .gt (.var 2) (.bin false .pow (.int 10) (.int 9))) (.var 2) (.int 0)))
    (.skip)) <|
  .seq (.ite (.cmp .gt (.idx (.var 0) (.int 1)) (.int 0))
    (.seq (.set 3 (.bin false .mod (.blt false .int (.cons (.idx (.var 0) (.int 1)) .nil)) (.var 1))) <|
     .seq (.six (.var 0) (.int 1) (.bin false .fdiv (.idx (.var 0) (.int 1)) (.var 1))) <|
     .ret (.var 3))
    (.skip)) <|
  .seq (.six (.var 0) (.int 2) (.bin false .mod (.blt false .int (.cons (.bin false .add (.bin false .mul (.idx (.var 0) (.int 2)) (.int 48271)) (.int 11)) .nil)) (.int 2147483647))) <|
  .ret (.bin false .mod (.blt false .int (.cons (.bin false .fdiv (.bin false .mod (.blt false .int (.cons (.bin false .mul (.idx (.var 0) (.int 2)) (.idx (.var 0) (.int 2))) .nil)) (.int 2147483629)) (.int 7)) .nil)) (.var 1))
noncomputable def F_l_draw : Fn := runD (tb [F_power_of, F_group_size, F_series_times, F_kinds_number, F_invertible_kinds_number, F_falls, F_commuting_number, F_nought_pairs_number, F_l_bag]) 2 4 true b_l_draw
/-- _law_pick: 0 bag, 1 some -/
def b_l_pick : IS :=
  .ret (.idx (.var 1) (.call 9 (.cons (.var 0) (.cons (.blt false .len (.cons (.var 1) .nil)) .nil))))
noncomputable def F_l_pick : Fn := runD (tb [F_power_of, F_group_size, F_series_times, F_kinds_number, F_invertible_kinds_number, F_falls, F_commuting_number, F_nought_pairs_number, F_l_bag, F_l_draw]) 2 2 true b_l_pick
/-- _law_prime: 0 most, 1 found, 2 part -/
def b_l_prime : IS :=
  .seq (.for_ [1] (.nm 1) (.rng (.cons (.var 0) (.cons (.int 1) (.cons (.neg (.int 1)) .nil))))
    (.ite (.blt false .all (.cons (.comp false [2] (.rng (.cons (.int 2) (.cons (.int 32) .nil))) (.nm 2) (.cmp .lt (.var 2) (.var 1)) (.cmp .ne (.bin false .mod (.blt false .int (.cons (.var 1) .nil)) (.var 2)) (.int 0))) .nil))
       (.ret (.var 1))
       (.skip))) <|
  .ret (.int 2)
noncomputable def F_l_prime : Fn := runD (tb [F_power_of, F_group_size, F_series_times, F_kinds_number, F_invertible_kinds_number, F_falls, F_commuting_number, F_nought_pairs_number, F_l_bag, F_l_draw, F_l_pick]) 1 3 true b_l_prime
/-- _law_powers: 0 p, 1 most, 2 found, 3 turn -/
def b_l_powers : IS :=
  .seq (.set 2 (.lst true (.cons (.int 1) .nil))) <|
  .seq (.for_ [3] (.nm 3) (.rng (.cons (.var 1) .nil))
    (.ex (.app (.var 2) (.bin false .mul (.idx (.var 2) (.neg (.int 1))) (.var 0))))) <|
  .ret (.var 2)
noncomputable def F_l_powers : Fn := runD (tb [F_power_of, F_group_size, F_series_times, F_kinds_number, F_invertible_kinds_number, F_falls, F_commuting_number, F_nought_pairs_number, F_l_bag, F_l_draw, F_l_pick, F_l_prime]) 2 4 false b_l_powers
/-- _law_lots: 0 powers, 1 n, 2 found, 3 m, 4 last, 5 k -/
def b_l_lots : IS :=
  .seq (.set 2 (.lst true (.cons (.lst false (.cons (.int 1) .nil)) .nil))) <|
  .seq (.for_ [3, 4] (.nm 3) (.rng (.cons (.int 1) (.cons (.bin false .add (.var 1) (.int 1)) .nil)))
    (.seq (.set 4 (.bin false .add (.idx (.var 2) (.neg (.int 1))) (.lst false (.cons (.int 0) .nil)))) <|
     .ex (.app (.var 2) (.bin false .add (.lst false (.cons (.int 1) .nil)) (.comp false [5] (.rng (.cons (.int 1) (.cons (.bin false .add (.var 3) (.int 1)) .nil))) (.nm 5) .no (.bin false .add (.idx (.var 4) (.bin false .sub (.var 5) (.int 1))) (.bin false .mul (.idx (.var 0) (.var 5)) (.idx (.var 4) (.var 5))))))))) <|
  .ret (.var 2)
noncomputable def F_l_lots : Fn := runD (tb [F_power_of, F_group_size, F_series_times, F_kinds_number, F_invertible_kinds_number, F_falls, F_commuting_number, F_nought_pairs_number, F_l_bag, F_l_draw, F_l_pick, F_l_prime, F_l_powers]) 2 6 false b_l_lots
/-- _law_commuting: 0 powers, 1 lots, 2 n, 3 lows, 4 j, 5 series, 6 i, 7 later, 8 m, 9 told, 10 k, 11 term -/
def b_l_commuting : IS :=
  .seq (.set 3 (.lst true (.cons (.int 1) .nil))) <|
  .seq (.for_ [4] (.nm 4) (.rng (.cons (.int 1) (.cons (.bin false .add (.var 2) (.int 1)) .nil)))
    (.ex (.app (.var 3) (.bin false .mul (.idx (.var 3) (.neg (.int 1))) (.bin false .sub (.idx (.var 0) (.var 4)) (.int 1)))))) <|
  .seq (.set 5 (.bin true .add (.lst false (.cons (.int 1) .nil)) (.bin false .mul (.lst false (.cons (.int 0) .nil)) (.var 2)))) <|
  .seq (.for_ [6, 7, 8, 9, 10, 11] (.nm 6) (.rng (.cons (.int 1) (.cons (.bin false .add (.var 2) (.int 1)) .nil)))
    (.seq (.set 7 (.lst true .nil)) <|
     .seq (.for_ [8, 9, 10, 11] (.nm 8) (.rng (.cons (.bin false .add (.var 2) (.int 1)) .nil))
       (.seq (.set 9 (.int 0)) <|
        .seq (.for_ [10, 11] (.nm 10) (.rng (.cons (.bin false .add (.bin false .fdiv (.var 8) (.var 6)) (.int 1)) .nil))
          (.seq (.set 11 (.bin false .mul (.idx (.var 0) (.bin false .add (.var 10) (.bin false .fdiv (.bin false .mul (.var 10) (.bin false .add (.var 10) (.int 1))) (.int 2)))) (.bin false .fdiv (.idx (.var 3) (.bin false .mul (.var 6) (.var 10))) (.idx (.var 3) (.var 10))))) <|
           .set 9 (.bin false .add (.var 9) (.bin false .mul (.bin false .mul (.idx (.var 5) (.bin false .sub (.var 8) (.bin false .mul (.var 6) (.var 10)))) (.var 11)) (.idx (.idx (.var 1) (.var 8)) (.bin false .mul (.var 6) (.var 10))))))) <|
        .ex (.app (.var 7) (.var 9)))) <|
     .set 5 (.var 7))) <|
  .ret (.bin false .mul (.idx (.var 0) (.bin false .fdiv (.bin false .mul (.var 2) (.bin false .sub (.var 2) (.int 1))) (.int 2))) (.idx (.var 5) (.var 2)))
noncomputable def F_l_commuting : Fn := runD (tb [F_power_of, F_group_size, F_series_times, F_kinds_number, F_invertible_kinds_number, F_falls, F_commuting_number, F_nought_pairs_number, F_l_bag, F_l_draw, F_l_pick, F_l_prime, F_l_powers, F_l_lots]) 3 12 false b_l_commuting
/-- _law_nought_pairs: 0 powers, 1 lots, 2 n, 3 rank, 4 found, 5 leads -/
def b_l_nought_pairs : IS :=
  .seq (.tgs (.tup (.cons (.nm 4) (.cons (.nm 5) .nil))) (.tup (.cons (.int 0) (.cons (.int 1) .nil)))) <|
  .seq (.for_ [3] (.nm 3) (.rng (.cons (.bin false .add (.var 2) (.int 1)) .nil))
    (.seq (.set 4 (.bin false .add (.var 4) (.bin false .mul (.bin false .mul (.idx (.idx (.var 1) (.var 2)) (.var 3)) (.var 5)) (.idx (.var 0) (.bin false .mul (.var 2) (.bin false .sub (.var 2) (.var 3))))))) <|
     .set 5 (.bin false .mul (.var 5) (.bin false .sub (.idx (.var 0) (.var 2)) (.idx (.var 0) (.var 3)))))) <|
  .ret (.var 4)
noncomputable def F_l_nought_pairs : Fn := runD (tb [F_power_of, F_group_size, F_series_times, F_kinds_number, F_invertible_kinds_number, F_falls, F_commuting_number, F_nought_pairs_number, F_l_bag, F_l_draw, F_l_pick, F_l_prime, F_l_powers, F_l_lots, F_l_commuting]) 3 6 true b_l_nought_pairs
/-- _law_kinds: 0 p, 1 n, 2 whole, 3 i, 4 less, 5 m, 6 k -/
def b_l_kinds : IS :=
  .seq (.set 2 (.bin true .add (.lst false (.cons (.int 1) .nil)) (.bin false .mul (.lst false (.cons (.int 0) .nil)) (.var 1)))) <|
  .seq (.for_ [3, 5] (.nm 3) (.rng (.cons (.int 1) (.cons (.bin false .add (.var 1) (.int 1)) .nil)))
    (.for_ [5] (.nm 5) (.rng (.cons (.var 3) (.cons (.bin false .add (.var 1) (.int 1)) .nil)))
       (.six (.var 2) (.var 5) (.bin false .add (.idx (.var 2) (.var 5)) (.bin false .mul (.var 0) (.idx (.var 2) (.bin false .sub (.var 5) (.var 3)))))))) <|
  .seq (.set 4 (.blt false .list (.cons (.var 2) .nil))) <|
  .seq (.for_ [3] (.nm 3) (.rng (.cons (.int 1) (.cons (.bin false .add (.var 1) (.int 1)) .nil)))
    (.set 4 (.comp false [6] (.rng (.cons (.bin false .add (.var 1) (.int 1)) .nil)) (.nm 6) .no (.bin false .sub (.idx (.var 4) (.var 6)) (.ite (.cmp .ge (.var 6) (.var 3)) (.idx (.var 4) (.bin false .sub (.var 6) (.var 3))) (.int 0)))))) <|
  .ret (.lst false (.cons (.idx (.var 2) (.var 1)) (.cons (.idx (.var 4) (.var 1)) .nil)))
noncomputable def F_l_kinds : Fn := runD (tb [F_power_of, F_group_size, F_series_times, F_kinds_number, F_invertible_kinds_number, F_falls, F_commuting_number, F_nought_pairs_number, F_l_bag, F_l_draw, F_l_pick, F_l_prime, F_l_powers, F_l_lots, F_l_commuting, F_l_nought_pairs]) 2 7 false b_l_kinds
/-- _law_dues: 0 p, 1 n, 2 powers, 3 lots -/
def b_l_dues : IS :=
  .seq (.set 2 (.call 12 (.cons (.var 0) (.cons (.bin false .add (.bin false .mul (.var 1) (.var 1)) (.int 20)) .nil)))) <|
  .seq (.set 3 (.call 13 (.cons (.var 2) (.cons (.var 1) .nil)))) <|
  .ret (.bin false .add (.lst false (.cons (.call 14 (.cons (.var 2) (.cons (.var 3) (.cons (.var 1) .nil)))) (.cons (.call 15 (.cons (.var 2) (.cons (.var 3) (.cons (.var 1) .nil)))) .nil))) (.call 16 (.cons (.var 0) (.cons (.var 1) .nil))))
noncomputable def F_l_dues : Fn := runD (tb [F_power_of, F_group_size, F_series_times, F_kinds_number, F_invertible_kinds_number, F_falls, F_commuting_number, F_nought_pairs_number, F_l_bag, F_l_draw, F_l_pick, F_l_prime, F_l_powers, F_l_lots, F_l_commuting, F_l_nought_pairs, F_l_kinds]) 2 4 true b_l_dues
/-- _law_through_one: 0 p, 1 noughts, 2 x, 3 y -/
def b_l_through_one : IS :=
  .seq (.set 1 (.int 0)) <|
  .seq (.for_ [2] (.nm 2) (.rng (.cons (.var 0) .nil))
    (.set 1 (.bin false .add (.var 1) (.blt false .len (.cons (.comp false [3] (.rng (.cons (.var 0) .nil)) (.nm 3) (.cmp .eq (.bin false .mod (.blt false .int (.cons (.bin false .mul (.var 2) (.var 3)) .nil)) (.var 0)) (.int 0)) (.var 3)) .nil))))) <|
  .ret (.lst false (.cons (.bin false .mul (.var 0) (.var 0)) (.cons (.var 1) (.cons (.var 0) (.cons (.bin false .sub (.var 0) (.int 1)) .nil)))))
noncomputable def F_l_through_one : Fn := runD (tb [F_power_of, F_group_size, F_series_times, F_kinds_number, F_invertible_kinds_number, F_falls, F_commuting_number, F_nought_pairs_number, F_l_bag, F_l_draw, F_l_pick, F_l_prime, F_l_powers, F_l_lots, F_l_commuting, F_l_nought_pairs, F_l_kinds, F_l_dues]) 1 4 true b_l_through_one
/-- _law_through_two: 0 p, 1 code, 2 columns, 3 group, 4 tables, 5 found, 6 a, 7 b, 8 c, 9 d, 10 same, 11 lost, 12 able, 13 place, 14 x, 15 y, 16 u -/
def b_l_through_two : IS :=
  .seq (.par [4, 5] (.cons (.lst true .nil) (.cons (.lst true (.cons (.int 0) (.cons (.int 0) (.cons (.int 0) (.cons (.int 0) .nil))))) .nil))) <|
  .seq (.for_ [1] (.nm 1) (.rng (.cons (.bin false .mul (.bin false .mul (.bin false .mul (.var 0) (.var 0)) (.var 0)) (.var 0)) .nil))
    (.ex (.app (.var 4) (.tup (.cons (.bin false .mod (.blt false .int (.cons (.var 1) .nil)) (.var 0)) (.cons (.bin false .mod (.blt false .int (.cons (.bin false .fdiv (.var 1) (.var 0)) .nil)) (.var 0)) (.cons (.bin false .mod (.blt false .int (.cons (.bin false .fdiv (.var 1) (.bin false .mul (.var 0) (.var 0))) .nil)) (.var 0)) (.cons (.bin false .fdiv (.var 1) (.bin false .mul (.bin false .mul (.var 0) (.var 0)) (.var 0))) .nil)))))))) <|
  .seq (.setc 2 (.comp false [13] (.rng (.cons (.bin false .mul (.var 0) (.var 0)) .nil)) (.nm 13) .no (.tup (.cons (.bin false .mod (.blt false .int (.cons (.var 13) .nil)) (.var 0)) (.cons (.bin false .fdiv (.var 13) (.var 0)) .nil))))) <|
  .seq (.setc 3 (.comp false [14] (.itv (.var 4)) (.nm 14) (.cmp .ne (.bin false .mod (.blt false .int (.cons (.bin false .sub (.bin false .mul (.idx (.var 14) (.int 0)) (.idx (.var 14) (.int 3))) (.bin false .mul (.idx (.var 14) (.int 1)) (.idx (.var 14) (.int 2)))) .nil)) (.var 0)) (.int 0)) (.var 14))) <|
  .seq (.for_ [6, 7, 8, 9, 10, 11, 12] (.tup (.cons (.nm 6) (.cons (.nm 7) (.cons (.nm 8) (.cons (.nm 9) .nil))))) (.itv (.var 4))
    (.seq (.setc 10 (.comp false [15] (.itv (.var 4)) (.nm 15) (.cmp .eq (.bin false .mod (.blt false .int (.cons (.bin false .sub (.bin false .mul (.var 7) (.idx (.var 15) (.int 2))) (.bin false .mul (.var 8) (.idx (.var 15) (.int 1)))) .nil)) (.var 0)) (.int 0)) (.var 15))) <|
     .seq (.setc 10 (.comp false [15] (.itv (.var 10)) (.nm 15) (.cmp .eq (.bin false .mod (.blt false .int (.cons (.bin false .sub (.bin false .sub (.bin false .add (.bin false .mul (.var 6) (.idx (.var 15) (.int 1))) (.bin false .mul (.var 7) (.idx (.var 15) (.int 3)))) (.bin false .mul (.idx (.var 15) (.int 0)) (.var 7))) (.bin false .mul (.idx (.var 15) (.int 1)) (.var 9))) .nil)) (.var 0)) (.int 0)) (.var 15))) <|
     .seq (.setc 10 (.comp false [15] (.itv (.var 10)) (.nm 15) (.cmp .eq (.bin false .mod (.blt false .int (.cons (.bin false .sub (.bin false .sub (.bin false .add (.bin false .mul (.var 8) (.idx (.var 15) (.int 0))) (.bin false .mul (.var 9) (.idx (.var 15) (.int 2)))) (.bin false .mul (.idx (.var 15) (.int 2)) (.var 6))) (.bin false .mul (.idx (.var 15) (.int 3)) (.var 8))) .nil)) (.var 0)) (.int 0)) (.var 15))) <|
     .seq (.setc 11 (.comp false [16] (.itv (.var 2)) (.nm 16) (.and (.cmp .eq (.bin false .mod (.blt false .int (.cons (.bin false .add (.bin false .mul (.var 6) (.idx (.var 16) (.int 0))) (.bin false .mul (.var 7) (.idx (.var 16) (.int 1)))) .nil)) (.var 0)) (.int 0)) (.cmp .eq (.bin false .mod (.blt false .int (.cons (.bin false .add (.bin false .mul (.var 8) (.idx (.var 16) (.int 0))) (.bin false .mul (.var 9) (.idx (.var 16) (.int 1)))) .nil)) (.var 0)) (.int 0))) (.var 16))) <|
     .seq (.set 12 (.blt false .len (.cons (.comp false [15] (.itv (.var 10)) (.nm 15) (.cmp .ne (.bin false .mod (.blt false .int (.cons (.bin false .sub (.bin false .mul (.idx (.var 15) (.int 0)) (.idx (.var 15) (.int 3))) (.bin false .mul (.idx (.var 15) (.int 1)) (.idx (.var 15) (.int 2)))) .nil)) (.var 0)) (.int 0)) (.var 15)) .nil))) <|
     .seq (.sixs (.cons (.var 5) (.cons (.var 5) (.cons (.var 5) .nil))) (.cons (.int 0) (.cons (.int 1) (.cons (.int 2) .nil))) (.cons (.bin false .add (.idx (.var 5) (.int 0)) (.blt false .len (.cons (.var 10) .nil))) (.cons (.bin false .add (.idx (.var 5) (.int 1)) (.bin false .mul (.blt false .len (.cons (.var 11) .nil)) (.blt false .len (.cons (.var 11) .nil)))) (.cons (.bin false .add (.idx (.var 5) (.int 2)) (.var 12)) .nil)))) <|
     .six (.var 5) (.int 3) (.bin false .add (.idx (.var 5) (.int 3)) (.ite (.cmp .ne (.bin false .mod (.blt false .int (.cons (.bin false .sub (.bin false .mul (.var 6) (.var 9)) (.bin false .mul (.var 7) (.var 8))) .nil)) (.var 0)) (.int 0)) (.var 12) (.int 0))))) <|
  .ret (.lst false (.cons (.idx (.var 5) (.int 0)) (.cons (.idx (.var 5) (.int 1)) (.cons (.bin false .fdiv (.idx (.var 5) (.int 2)) (.blt false .len (.cons (.var 3) .nil))) (.cons (.bin false .fdiv (.idx (.var 5) (.int 3)) (.blt false .len (.cons (.var 3) .nil))) .nil)))))
noncomputable def F_l_through_two : Fn := runD (tb [F_power_of, F_group_size, F_series_times, F_kinds_number, F_invertible_kinds_number, F_falls, F_commuting_number, F_nought_pairs_number, F_l_bag, F_l_draw, F_l_pick, F_l_prime, F_l_powers, F_l_lots, F_l_commuting, F_l_nought_pairs, F_l_kinds, F_l_dues, F_l_through_one]) 1 17 false b_l_through_two
/-- _law_gone_through: 0 bag, 1 many, 2 way, 3 p -/
def b_l_gone_through : IS :=
  .seq (.par [2, 3] (.cons (.call 9 (.cons (.var 0) (.cons (.int 6) .nil))) (.cons (.call 11 (.cons (.bin false .add (.int 2) (.call 9 (.cons (.var 0) (.cons (.int 30) .nil)))) .nil)) .nil))) <|
  .seq (.ite (.and (.cmp .eq (.var 2) (.int 0)) (.cmp .lt (.var 1) (.int 50)))
    (.ret (.tup (.cons (.int 3) (.cons (.int 2) (.cons (.call 19 (.cons (.int 3) .nil)) .nil)))))
    (.skip)) <|
  .seq (.ite (.cmp .eq (.var 2) (.int 1))
    (.ret (.tup (.cons (.var 3) (.cons (.int 0) (.cons (.lst false (.cons (.int 1) (.cons (.int 1) (.cons (.int 1) (.cons (.int 1) .nil))))) .nil)))))
    (.skip)) <|
  .seq (.ite (.cmp .lt (.var 2) (.int 4))
    (.ret (.tup (.cons (.var 3) (.cons (.int 1) (.cons (.call 18 (.cons (.var 3) .nil)) .nil)))))
    (.skip)) <|
  .ret (.tup (.cons (.int 2) (.cons (.int 2) (.cons (.call 19 (.cons (.int 2) .nil)) .nil))))
noncomputable def F_l_gone_through : Fn := runD (tb [F_power_of, F_group_size, F_series_times, F_kinds_number, F_invertible_kinds_number, F_falls, F_commuting_number, F_nought_pairs_number, F_l_bag, F_l_draw, F_l_pick, F_l_prime, F_l_powers, F_l_lots, F_l_commuting, F_l_nought_pairs, F_l_kinds, F_l_dues, F_l_through_one, F_l_through_two]) 2 4 true b_l_gone_through
/-- _law_told: 0 p, 1 n, 2 named -/
def b_l_told : IS :=
  .seq (.ite (.var 2)
    (.ret (.lst false (.cons (.callk 6 [1, 0] .nil (.cons (.var 1) (.cons (.var 0) .nil))) (.cons (.callk 7 [0, 1] .nil (.cons (.var 0) (.cons (.var 1) .nil))) (.cons (.callk 3 [1, 0] .nil (.cons (.var 1) (.cons (.var 0) .nil))) (.cons (.callk 4 [0, 1] .nil (.cons (.var 0) (.cons (.var 1) .nil))) .nil))))))
    (.skip)) <|
  .ret (.lst false (.cons (.call 6 (.cons (.var 0) (.cons (.var 1) .nil))) (.cons (.call 7 (.cons (.var 0) (.cons (.var 1) .nil))) (.cons (.call 3 (.cons (.var 0) (.cons (.var 1) .nil))) (.cons (.call 4 (.cons (.var 0) (.cons (.var 1) .nil))) .nil)))))
noncomputable def F_l_told : Fn := runD (tb [F_power_of, F_group_size, F_series_times, F_kinds_number, F_invertible_kinds_number, F_falls, F_commuting_number, F_nought_pairs_number, F_l_bag, F_l_draw, F_l_pick, F_l_prime, F_l_powers, F_l_lots, F_l_commuting, F_l_nought_pairs, F_l_kinds, F_l_dues, F_l_through_one, F_l_through_two, F_l_gone_through]) 3 3 true b_l_told
/-- _law_are_same: 0 told, 1 dues, 2 at -/
def b_l_are_same : IS :=
  .seq (.for_ [2] (.nm 2) (.rng (.cons (.int 4) .nil))
    (.ite (.or (.not (.isi .int (.idx (.var 0) (.var 2)))) (.or (.isi .bool (.idx (.var 0) (.var 2))) (.cmp .ne (.idx (.var 0) (.var 2)) (.idx (.var 1) (.var 2)))))
       (.ret (.bl false))
       (.skip))) <|
  .ret (.bl true)
noncomputable def F_l_are_same : Fn := runD (tb [F_power_of, F_group_size, F_series_times, F_kinds_number, F_invertible_kinds_number, F_falls, F_commuting_number, F_nought_pairs_number, F_l_bag, F_l_draw, F_l_pick, F_l_prime, F_l_powers, F_l_lots, F_l_commuting, F_l_nought_pairs, F_l_kinds, F_l_dues, F_l_through_one, F_l_through_two, F_l_gone_through, F_l_told]) 2 3 true b_l_are_same
/-- law: 0 script, 1 bag, 2 asked, 3 cases, 4 first, 5 p, 6 n, 7 dues, 8 prime, 9 rows -/
def b_law : IS :=
  .seq (.set 1 (.call 8 (.cons (.var 0) .nil))) <|
  .seq (.set 2 (.lst true (.cons (.tup (.cons (.call 11 (.cons (.bin false .add (.int 2) (.call 9 (.cons (.var 1) (.cons (.int 996) .nil)))) .nil)) (.cons (.call 9 (.cons (.var 1) (.cons (.int 21) .nil))) .nil))) (.cons (.tup (.cons (.int 2) (.cons (.call 9 (.cons (.var 1) (.cons (.int 21) .nil))) .nil))) .nil)))) <|
  .seq (.ex (.app (.var 2) (.tup (.cons (.call 10 (.cons (.var 1) (.cons (.lst false (.cons (.int 3) (.cons (.int 5) (.cons (.int 7) (.cons (.int 11) .nil))))) .nil))) (.cons (.call 9 (.cons (.var 1) (.cons (.int 21) .nil))) .nil))))) <|
  .seq (.ex (.app (.var 2) (.tup (.cons (.call 10 (.cons (.var 1) (.cons (.lst false (.cons (.int 2) (.cons (.int 3) (.cons (.int 991) (.cons (.int 997) .nil))))) .nil))) (.cons (.call 10 (.cons (.var 1) (.cons (.lst false (.cons (.int 0) (.cons (.int 1) (.cons (.int 2) (.cons (.int 19) (.cons (.int 20) .nil)))))) .nil))) .nil))))) <|
  .seq (.setc 3 (.comp true [8, 9] (.itv (.var 2)) (.tup (.cons (.nm 8) (.cons (.nm 9) .nil))) .no (.tup (.cons (.var 8) (.cons (.var 9) (.cons (.call 17 (.cons (.var 8) (.cons (.var 9) .nil))) .nil)))))) <|
  .seq (.ex (.app (.var 3) (.call 20 (.cons (.var 1) (.cons (.blt false .sum (.cons (.comp false [8, 9] (.itv (.var 2)) (.tup (.cons (.nm 8) (.cons (.nm 9) .nil))) .no (.var 9)) .nil)) .nil))))) <|
  .seq (.set 4 (.call 9 (.cons (.var 1) (.cons (.int 5) .nil)))) <|
  .seq (.set 3 (.bin true .add (.sl false (.var 3) (.var 4) .non) (.sl false (.var 3) .non (.var 4)))) <|
  .seq (.for_ [5, 6, 7] (.tup (.cons (.nm 5) (.cons (.nm 6) (.cons (.nm 7) .nil)))) (.itv (.var 3))
    (.ite (.not (.call 22 (.cons (.call 21 (.cons (.var 5) (.cons (.var 6) (.cons (.bl false) .nil)))) (.cons (.var 7) .nil))))
       (.ret (.bl false))
       (.skip))) <|
  .seq (.for_ [5, 6, 7] (.tup (.cons (.nm 5) (.cons (.nm 6) (.cons (.nm 7) .nil)))) (.rev (.blt false .list (.cons (.var 3) .nil)))
    (.ite (.not (.call 22 (.cons (.call 21 (.cons (.var 5) (.cons (.var 6) (.cons (.bl true) .nil)))) (.cons (.var 7) .nil))))
       (.ret (.bl false))
       (.skip))) <|
  .ret (.bl true)
noncomputable def F_law : Fn := runD (tb [F_power_of, F_group_size, F_series_times, F_kinds_number, F_invertible_kinds_number, F_falls, F_commuting_number, F_nought_pairs_number, F_l_bag, F_l_draw, F_l_pick, F_l_prime, F_l_powers, F_l_lots, F_l_commuting, F_l_nought_pairs, F_l_kinds, F_l_dues, F_l_through_one, F_l_through_two, F_l_gone_through, F_l_told, F_l_are_same]) 1 10 false b_law
end K32
namespace K32
open Eng Kit31
/-! ### numbers that may be multiplied; divisors -/
def HUGE : Int := 2 ^ 400000
def Mu (x : Int) : Prop := 0 ≤ x ∧ x ≤ HUGE
theorem Mu.lt {x : Int} (h : Mu x) : x.natAbs < 2 ^ (400000 + 1) := abs_lt (k := 400000) h.1 h.2
theorem Mu.mul {x y : Int} (h1 : Mu x) (h2 : Mu y) : mulOk x y := mulOk_of h1.lt h2.lt (by decide) (by decide) (by decide)
theorem huge {p : Int} (h : 1 ≤ p) (h2 : p < 1024) {k : Nat} (hk : k ≤ 40000) : p ^ k ≤ HUGE := Int.le_trans (pow_lt h h2 k) (two_mono (show 10 * k ≤ 400000 by omega))
theorem Mu.of {p x : Int} (h : 1 ≤ p) (h2 : p < 1024) {k : Nat} (h0 : 0 ≤ x) (hx : x ≤ p ^ k) (hk : k ≤ 40000) : Mu x := ⟨h0, Int.le_trans hx (huge h h2 hk)⟩
theorem Mu.small {x : Int} (h0 : 0 ≤ x) (h1 : x ≤ 2 ^ 64) : Mu x := ⟨h0, Int.le_trans h1 (two_mono (show 64 ≤ 400000 by decide))⟩
/-- a divisor of fewer than 9000 bits -/
theorem div_p {p x y : Int} (h : 1 ≤ p) (h2 : p < 1024) {k : Nat} (h0 : 0 < y) (hy : y ≤ p ^ k) (hk : k ≤ 899) : divOk x y := by
  refine ⟨h0, .inl ?_⟩
  have a := Int.le_trans hy (Int.le_trans (pow_lt h h2 k) (two_mono (show 10 * k ≤ 8990 by omega)))
  have b := log2_lt (abs_lt (k := 8990) (Int.le_of_lt h0) a) (by decide)
  exact Nat.lt_of_lt_of_le b (by decide)
theorem power_ok' {p : Int} {k : Nat} (h1 : 1 ≤ p) (h2 : p < 1024) (hk : k ≤ 1296) (S : Store) : F_power_of [.int p, .int k] S = some (.int (p ^ k), S) := power_ok (tb []) h1 h2 hk S
/-! ### falls -/
def Lq (p : Int) : Nat → Int
  | 0 => 1
  | m + 1 => Lq p m * (p ^ (m + 1) - 1)
def fl (p : Int) (k : Nat) : Nat → Int
  | 0 => 1
  | d + 1 => fl p k d * (p ^ (k + d + 1) - 1)
@[simp] theorem Lq_zero (p : Int) : Lq p 0 = 1 := rfl
@[simp] theorem fl_zero (p : Int) (k : Nat) : fl p k 0 = 1 := rfl
theorem Lq_fl (p : Int) (k : Nat) : ∀ d, Lq p (k + d) = Lq p k * fl p k d
  | 0 => by simp
  | d + 1 => by
    show Lq p (k + d) * (p ^ (k + d + 1) - 1) = Lq p k * (fl p k d * (p ^ (k + d + 1) - 1))
    rw [Lq_fl p k d, Int.mul_assoc]
theorem fl_0 (p : Int) (d : Nat) : fl p 0 d = Lq p d := by
  have := Lq_fl p 0 d
  simp at this
  exact this.symm
/-- d (k + d) serves as an exponent -/
theorem fl_pos {p : Int} (h : 2 ≤ p) (k : Nat) : ∀ d, 0 < fl p k d ∧ fl p k d ≤ p ^ (d * (k + d))
  | 0 => by simp
  | d + 1 => by
    obtain ⟨a, b⟩ := fl_pos h k d
    have c := pow_mono (show 1 ≤ p by omega) (show 1 ≤ k + d + 1 by omega)
    rw [Int.pow_one] at c
    constructor
    · exact Int.mul_pos a (by omega)
    · show fl p k d * (p ^ (k + d + 1) - 1) ≤ _
      have e : fl p k d * (p ^ (k + d + 1) - 1) ≤ p ^ (d * (k + d)) * p ^ (k + d + 1) := Int.mul_le_mul b (by omega) (by omega) (Int.pow_nonneg (by omega))
      rw [← Int.pow_add] at e
      refine Int.le_trans e (pow_mono (by omega) ?_)
      have : (d + 1) * (k + (d + 1)) = d * (k + d) + (k + d + 1) + d := by grind
      omega
section
variable {p : Int} (h1 : 2 ≤ p) (h2 : p < 1024)
include h1 h2
theorem falls_ok {k m : Nat} (hk : k ≤ m) (hm : m ≤ 20) (S : Store) : F_falls [.int p, .int k, .int m] S = some (.int (fl p k (m - k)), S) := by
  obtain ⟨T, hT⟩ : ∃ T, T = tb [F_power_of, F_group_size, F_series_times, F_kinds_number, F_invertible_kinds_number] := ⟨_, rfl⟩
  have t0 : T 0 = F_power_of := by rw [hT]; rfl
  have r := rng2 (a := (k : Int) + 1) (b := (m : Int) + 1) (by omega) (by omega) (by omega) (by omega)
  have e : ((m : Int) + 1 - (k + 1)).toNat = m - k := by omega
  rw [e] at r
  obtain ⟨d, hd⟩ : ∃ d, d = m - k := ⟨_, rfl⟩
  rw [← hd] at r ⊢
  have run := forL_run (body := evalS T (.set 3 (.bin false .mul (.var 3) (.bin false .sub (.call 0 (.cons (.var 0) (.cons (.var 4) .nil))) (.int 1)))))
    (src := .tup ((List.range d).map fun i => .int ((k : Int) + 1 + (i : Nat)))) (all := (List.range d).map fun i => .int ((k : Int) + 1 + (i : Nat))) (tg := .nm 4) (w := [4])
    (fun i => [some (.int p), some (.int k), some (.int m), some (.int (fl p k i)), none]) (fun _ => S) (fun _ => trivial) ((List.range d).map fun i => .int ((k : Int) + 1 + (i : Nat))) 0 ?_
  · simp at run
    exact run_keep rfl ⟨_, by rw [← hT]; simp [b_falls, s_for, r, run, -Option.map_bind]; rfl⟩
  · intro i x hx
    obtain ⟨hi, rfl⟩ := rng_get hx
    simp only [Nat.zero_add]
    have e1 := power_ok' (p := p) (k := k + i + 1) (by omega) h2 (by omega) S
    have c : ((k : Int) + 1 + (i : Nat)) = ((k + i + 1 : Nat) : Int) := by omega
    obtain ⟨a, b⟩ := fl_pos h1 k i
    have f1 : Mu (fl p k i) := Mu.of (by omega) h2 (by omega) b (by
      have : i * (k + i) ≤ 20 * 40 := Nat.mul_le_mul (by omega) (by omega)
      omega)
    have q1 := pow_pos' (show 1 ≤ p by omega) (k + i + 1)
    have f2 : Mu (p ^ (k + i + 1) - 1) := Mu.of (k := k + i + 1) (by omega) h2 (by omega) (by omega) (by omega)
    have m1 := f1.mul f2
    rw [c]
    generalize hz : ((k + i + 1 : Nat) : Int) = z at *
    exact ⟨_, _, rfl, (by simp [t0, e1, m1]; rfl), by simp [fl]⟩
end
/-! ### numbers of kinds: found[place] + p * found[place - i], place rising -/
/-- f's series by 1 / (1 - p x ^ i) -/
def up (p : Int) (i : Nat) (f : Nat → Int) : Nat → Int
  | m => if h : 0 < i ∧ i ≤ m then f m + p * up p i f (m - i) else f m
termination_by m => m
decreasing_by omega
theorem up_lt {p : Int} {i m : Nat} (f : Nat → Int) (h : m < i) : up p i f m = f m := by
  rw [up, dif_neg (by omega)]
theorem up_ge {p : Int} {i m : Nat} (f : Nat → Int) (h0 : 0 < i) (h : i ≤ m) : up p i f m = f m + p * up p i f (m - i) := by
  rw [up, dif_pos ⟨h0, h⟩]
/-- by 1 - x ^ i -/
def dn (i : Nat) (f : Nat → Int) (m : Nat) : Int := f m - if i ≤ m then f (m - i) else 0
theorem up_dn {p : Int} {i j : Nat} (hi : 0 < i) (f : Nat → Int) : ∀ m, up p i (dn j f) m = dn j (up p i f) m := by
  intro m
  induction m using Nat.strongRecOn with
  | _ m ih =>
    by_cases h : i ≤ m
    · rw [up_ge _ hi h, ih (m - i) (by omega)]
      unfold dn
      rw [up_ge f hi h]
      by_cases hj : j ≤ m
      · rw [if_pos hj, if_pos hj]
        by_cases hij : i + j ≤ m
        · rw [if_pos (by omega : j ≤ m - i), up_ge f hi (by omega : i ≤ m - j), Nat.sub_right_comm m i j]
          grind
        · rw [if_neg (by omega : ¬ j ≤ m - i), up_lt f (by omega : m - j < i)]
          grind
      · rw [if_neg hj, if_neg hj, if_neg (by omega : ¬ j ≤ m - i)]
        grind
    · rw [up_lt _ (by omega)]
      unfold dn
      rw [up_lt f (by omega : m < i)]
      by_cases hj : j ≤ m
      · rw [if_pos hj, if_pos hj, up_lt f (by omega : m - j < i)]
      · rw [if_neg hj, if_neg hj]
end K32
/-! K32N: the plain law of k32. -/
namespace K32
open Eng Kit31
/-! ### sums -/
theorem sm_congr {f g : Nat → Int} : ∀ {n : Nat}, (∀ i, i < n → f i = g i) → sm f n = sm g n
  | 0, _ => rfl
  | n + 1, h => by
    show sm f n + f n = sm g n + g n
    rw [sm_congr fun i hi => h i (by omega), h n (by omega)]
theorem sm_mul (f : Nat → Int) (c : Int) : ∀ n, sm f n * c = sm (fun i => f i * c) n
  | 0 => by simp
  | n + 1 => by
    show (sm f n + f n) * c = sm (fun i => f i * c) n + f n * c
    rw [← sm_mul f c n, Int.add_mul]
theorem sm_front (f : Nat → Int) : ∀ n, sm f (n + 1) = f 0 + sm (fun i => f (i + 1)) n
  | 0 => by simp [sm]
  | n + 1 => by
    show sm f (n + 1) + f (n + 1) = f 0 + (sm (fun i => f (i + 1)) n + f (n + 1))
    rw [sm_front f n, Int.add_assoc]
theorem sm_rev : ∀ (n : Nat) (f : Nat → Int), sm f (n + 1) = sm (fun b => f (n - b)) (n + 1)
  | 0, f => by simp [sm]
  | n + 1, f => by
    rw [sm_front f (n + 1), sm_rev n]
    show _ = sm (fun b => f (n + 1 - b)) (n + 1) + f (n + 1 - (n + 1))
    rw [Nat.sub_self, Int.add_comm]
    congr 1
    exact sm_congr fun i hi => by rw [show n - i + 1 = n + 1 - i by omega]
theorem sm_cut (f : Nat → Int) {t : Nat} : ∀ {n : Nat}, t < n → sm (fun a => if a ≤ t then f a else 0) n = sm f (t + 1)
  | n + 1, h => by
    by_cases e : t = n
    · subst e
      exact sm_congr fun i hi => if_pos (by omega)
    · show sm _ n + (if n ≤ t then f n else 0) = _
      rw [sm_cut f (show t < n by omega), if_neg (by omega), Int.add_zero]
theorem sm_sparse (h : Nat → Int) {i : Nat} (hi : 0 < i) : ∀ t, sm (fun b => if b % i = 0 then h b else 0) (t + 1) = sm (fun k => h (i * k)) (t / i + 1)
  | 0 => by simp [sm]
  | t + 1 => by
    show sm _ (t + 1) + (if (t + 1) % i = 0 then h (t + 1) else 0) = _
    rw [sm_sparse h hi t]
    have e1 := Nat.div_add_mod t i
    have e2 := Nat.div_add_mod (t + 1) i
    have l1 := Nat.mod_lt t hi
    have l2 := Nat.mod_lt (t + 1) hi
    by_cases c : (t + 1) % i = 0
    · rw [if_pos c]
      have q : (t + 1) / i = t / i + 1 := by
        rw [c] at e2
        have a : i * (t / i) < i * ((t + 1) / i) := by omega
        have a' := Nat.lt_of_mul_lt_mul_left a
        have b : i * ((t + 1) / i) < i * (t / i + 2) := by
          rw [Nat.mul_add]
          omega
        have b' := Nat.lt_of_mul_lt_mul_left b
        omega
      rw [q]
      show _ = sm (fun k => h (i * k)) (t / i + 1) + h (i * (t / i + 1))
      rw [← q, show i * ((t + 1) / i) = t + 1 by omega]
    · rw [if_neg c, Int.add_zero]
      have q : (t + 1) / i = t / i := by
        have a : i * ((t + 1) / i) < i * (t / i + 1) := by
          rw [Nat.mul_add]
          omega
        have a' := Nat.lt_of_mul_lt_mul_left a
        have b : i * (t / i) < i * ((t + 1) / i + 1) := by
          rw [Nat.mul_add]
          omega
        have b' := Nat.lt_of_mul_lt_mul_left b
        omega
      rw [q]
theorem sm_bd {f : Nat → Int} {B : Int} (hB : 0 ≤ B) : ∀ {n : Nat}, (∀ i, i < n → 0 ≤ f i ∧ f i ≤ B) → 0 ≤ sm f n ∧ sm f n ≤ n * B
  | 0, _ => by simp
  | n + 1, h => by
    obtain ⟨a, b⟩ := sm_bd hB (f := f) (n := n) fun i hi => h i (by omega)
    obtain ⟨c, d⟩ := h n (by omega)
    constructor
    · show 0 ≤ sm f n + f n
      omega
    · show sm f n + f n ≤ _
      rw [Int.natCast_succ, Int.add_mul]
      omega
theorem sm_bd21 {p : Int} (h : 2 ≤ p) {f : Nat → Int} {e n : Nat} (hn : n ≤ 21) (hf : ∀ i, i < n → 0 ≤ f i ∧ f i ≤ p ^ e) : 0 ≤ sm f n ∧ sm f n ≤ p ^ (e + 5) := by
  have q := Int.pow_nonneg (n := p) (m := e) (by omega)
  obtain ⟨a, b⟩ := sm_bd q hf
  refine ⟨a, Int.le_trans b ?_⟩
  rw [Int.pow_add, Int.mul_comm]
  refine Int.mul_le_mul_of_nonneg_left ?_ q
  have := ipow_le (a := 2) (b := p) (by omega) h 5
  omega
/-! ### lots -/
def G (p : Int) : Nat → Nat → Int
  | _, 0 => 1
  | 0, _ + 1 => 0
  | m + 1, k + 1 => G p m k + p ^ (k + 1) * G p m (k + 1)
@[simp] theorem G_0 (p : Int) (m : Nat) : G p m 0 = 1 := by cases m <;> rfl
theorem G_gt (p : Int) : ∀ m k, m < k → G p m k = 0
  | 0, k + 1, _ => rfl
  | m + 1, k + 1, h => by
    show G p m k + p ^ (k + 1) * G p m (k + 1) = 0
    rw [G_gt p m k (by omega), G_gt p m (k + 1) (by omega)]
    simp
theorem G_s (p : Int) (m k : Nat) : G p (m + 1) (k + 1) = G p m k + p ^ (k + 1) * G p m (k + 1) := rfl
theorem Lq_s (p : Int) (m : Nat) : Lq p (m + 1) = Lq p m * (p ^ (m + 1) - 1) := rfl
theorem G_Lq (p : Int) : ∀ s a b, a + b = s → G p s a * (Lq p a * Lq p b) = Lq p s
  | s, 0, b, h => by
    have : b = s := by omega
    subst this
    simp
  | 0, a + 1, b, h => by omega
  | s + 1, a + 1, 0, h => by
    have : a = s := by omega
    subst this
    rw [G_s, G_gt p a (a + 1) (by omega)]
    have := G_Lq p a a 0 (by omega)
    rw [Lq_zero, Int.mul_one] at this ⊢
    rw [Lq_s]
    grind
  | s + 1, a + 1, b + 1, h => by
    have h1 := G_Lq p s a (b + 1) (by omega)
    have h2 := G_Lq p s (a + 1) b (by omega)
    have e : p ^ (s + 1) = p ^ (a + 1) * p ^ (b + 1) := by rw [← Int.pow_add]; congr 1; omega
    rw [Lq_s p b] at h1
    rw [Lq_s p a] at h2
    rw [G_s, Lq_s p s, Lq_s p a, Lq_s p b, e]
    generalize p ^ (a + 1) = x at *
    generalize p ^ (b + 1) = y at *
    generalize G p s a = g at *
    generalize G p s (a + 1) = g' at *
    generalize Lq p a = u at *
    generalize Lq p b = v at *
    generalize Lq p s = w at *
    have k1 : (g + x * g') * (u * (x - 1) * (v * (y - 1))) = g * (u * (v * (y - 1))) * (x - 1) + x * (g' * (u * (x - 1) * v)) * (y - 1) := by grind
    rw [k1, h1, h2]
    grind
def tri : Nat → Nat
  | 0 => 0
  | r + 1 => tri r + r
theorem tri_eq : ∀ r, r * (r - 1) / 2 = tri r
  | 0 => rfl
  | r + 1 => by
    show (r + 1) * r / 2 = tri r + r
    rw [← tri_eq r]
    cases r with
    | zero => rfl
    | succ r =>
      show (r + 1 + 1) * (r + 1) / 2 = (r + 1) * r / 2 + (r + 1)
      have : (r + 1 + 1) * (r + 1) = (r + 1) * r + 2 * (r + 1) := by grind
      omega
theorem gsz_Lq (p : Int) (n : Nat) : ∀ i, i ≤ n → gsz p n i * Lq p (n - i) = p ^ tri i * Lq p n
  | 0, _ => by simp [tri]
  | i + 1, h => by
    have ih := gsz_Lq p n i (by omega)
    obtain ⟨d, rfl⟩ := Nat.exists_eq_add_of_le h
    rw [show i + 1 + d - i = d + 1 by omega, Lq_s] at ih
    rw [show i + 1 + d - (i + 1) = d by omega]
    show gsz p (i + 1 + d) i * (p ^ (i + 1 + d) - p ^ i) * Lq p d = p ^ (tri i + i) * Lq p (i + 1 + d)
    have e : p ^ (i + 1 + d) = p ^ i * p ^ (d + 1) := by rw [← Int.pow_add]; congr 1; omega
    rw [Int.pow_add p (tri i) i, e]
    generalize p ^ (d + 1) = x at *
    generalize p ^ i = y at *
    grind
section
variable {p : Int} (h1 : 2 ≤ p)
include h1
theorem Lq_pos (m : Nat) : 0 < Lq p m ∧ Lq p m ≤ p ^ (m * m) := by
  have := fl_pos h1 0 m
  rw [fl_0] at this
  simpa using this
theorem Lq_1 (m : Nat) : 1 ≤ Lq p m := by
  have := (Lq_pos h1 m).1
  omega
theorem gsz_G {n r : Nat} (h : r ≤ n) : gsz p n r = G p n r * gsz p r r := by
  have a := gsz_Lq p n r h
  have b := gsz_Lq p r r (Nat.le_refl _)
  rw [Nat.sub_self, Lq_zero, Int.mul_one] at b
  have c := G_Lq p n r (n - r) (by omega)
  have q := (Lq_pos h1 (n - r)).1
  rw [b]
  apply Int.eq_of_mul_eq_mul_right (Int.ne_of_gt q)
  rw [a, ← c]
  grind
theorem G_nn : ∀ m k, 0 ≤ G p m k
  | m, 0 => by simp
  | 0, k + 1 => by show (0 : Int) ≤ 0; omega
  | m + 1, k + 1 => by
    rw [G_s]
    have a := G_nn m k
    have b := G_nn m (k + 1)
    have := Int.mul_nonneg (Int.pow_nonneg (n := p) (m := k + 1) (by omega)) b
    omega
theorem G_le (m k : Nat) : G p m k ≤ p ^ (m * m) := by
  by_cases h : k ≤ m
  · have e := G_Lq p m k (m - k) (by omega)
    have q := Int.mul_pos (Lq_pos h1 k).1 (Lq_pos h1 (m - k)).1
    have nn := G_nn h1 m k
    refine Int.le_trans ?_ (Lq_pos h1 m).2
    rw [← e]
    calc G p m k = G p m k * 1 := by omega
      _ ≤ _ := Int.mul_le_mul_of_nonneg_left (by omega) nn
  · rw [G_gt p m k (by omega)]
    exact Int.pow_nonneg (by omega)
end
/-! ### numbers of pairs that commute -/
def cv (f g : Nat → Int) : Nat → Nat → Int
  | 0, _ => 0
  | i + 1, t => cv f g i t + if i ≤ t then f i * g (t - i) else 0
theorem cv_sm (f g : Nat → Int) (t : Nat) : ∀ i, cv f g i t = sm (fun a => if a ≤ t then f a * g (t - a) else 0) i
  | 0 => rfl
  | i + 1 => by
    show cv f g i t + _ = sm _ i + _
    rw [cv_sm f g t i]
theorem cv_sparse (f w : Nat → Int) {i t n : Nat} (hi : 0 < i) (h : t < n) : cv f (fun b => if b % i = 0 then w (b / i) else 0) n t = sm (fun k => f (t - i * k) * w k) (t / i + 1) := by
  rw [cv_sm, sm_cut (fun a => f a * (if (t - a) % i = 0 then w ((t - a) / i) else 0)) h, sm_rev]
  have := sm_sparse (fun b => f (t - b) * w (b / i)) hi t
  have e : ∀ k, i * k / i = k := fun k => Nat.mul_div_cancel_left k hi
  simp only [e] at this
  rw [← this]
  refine sm_congr fun b hb => ?_
  rw [show t - (t - b) = b by omega]
  by_cases c : b % i = 0
  · rw [if_pos c, if_pos c]
  · rw [if_neg c, if_neg c, Int.mul_zero]
def ex (k : Nat) : Nat := k + k * (k + 1) / 2
def wv (p : Int) (q k : Nat) : Int := p ^ ex k * fl p k (q - k)
def oth (p : Int) (n i : Nat) (t : Nat) : Int := if t % i = 0 then wv p (n / i) (t / i) else 0
def one0 (t : Nat) : Int := if t = 0 then 1 else 0
def fnd (p : Int) (n : Nat) : Nat → Nat → Int
  | 0 => one0
  | i + 1 => cv (fnd p n i) (oth p n (i + 1)) (n + 1)
def shr (p : Int) (n : Nat) : Nat → Int
  | 0 => 1
  | i + 1 => shr p n i * Lq p (n / (i + 1))
def trm (p : Int) (i k : Nat) : Int := p ^ ex k * (Lq p (i * k) / Lq p k)
def ser (p : Int) : Nat → Nat → Int
  | 0, m => one0 m
  | i + 1, m => sm (fun k => ser p i (m - (i + 1) * k) * trm p (i + 1) k * G p m ((i + 1) * k)) (m / (i + 1) + 1)
theorem Lq_quot {p : Int} (h1 : 2 ≤ p) {k j : Nat} (h : k ≤ j) : Lq p j / Lq p k = fl p k (j - k) := by
  obtain ⟨d, rfl⟩ := Nat.exists_eq_add_of_le h
  rw [Lq_fl, Nat.add_sub_cancel_left]
  exact Int.mul_ediv_cancel_left _ (by have := (Lq_pos h1 k).1; omega)
theorem le_mul1 {i k : Nat} (hi : 0 < i) : k ≤ i * k := Nat.le_mul_of_pos_left k hi
theorem le_div {i k m : Nat} (hi : 0 < i) (h : k < m / i + 1) : i * k ≤ m := by
  have := Nat.mul_le_mul_left i (show k ≤ m / i by omega)
  have := Nat.mul_div_le m i
  omega
section
variable {p : Int} (h1 : 2 ≤ p)
include h1
theorem ser_fnd (n : Nat) : ∀ i m, m ≤ n → ser p i m * shr p n i = fnd p n i m * Lq p m
  | 0, m, _ => by
    show one0 m * 1 = one0 m * Lq p m
    unfold one0
    by_cases h : m = 0
    · subst h
      simp
    · rw [if_neg h]
      simp
  | i + 1, m, hm => by
    show sm _ _ * (shr p n i * Lq p (n / (i + 1))) = cv (fnd p n i) (fun b => if b % (i + 1) = 0 then wv p (n / (i + 1)) (b / (i + 1)) else 0) (n + 1) m * Lq p m
    rw [cv_sparse _ _ (by omega) (by omega), sm_mul, sm_mul]
    refine sm_congr fun k hk => ?_
    have hik := le_div (by omega) hk
    have ih := ser_fnd n i (m - (i + 1) * k) (by omega)
    have g := G_Lq p m ((i + 1) * k) (m - (i + 1) * k) (by omega)
    have hk1 : k ≤ (i + 1) * k := le_mul1 (by omega)
    have hkq : k ≤ n / (i + 1) := by
      have := Nat.div_le_div_right (c := i + 1) hm
      omega
    unfold trm wv
    rw [Lq_quot h1 hk1]
    have l1 := Lq_fl p k ((i + 1) * k - k)
    rw [show k + ((i + 1) * k - k) = (i + 1) * k by omega] at l1
    have l2 := Lq_fl p k (n / (i + 1) - k)
    rw [show k + (n / (i + 1) - k) = n / (i + 1) by omega] at l2
    rw [← g, l2, l1]
    generalize p ^ ex k = x at *
    generalize fl p k ((i + 1) * k - k) = y at *
    generalize fl p k (n / (i + 1) - k) = z at *
    generalize G p m ((i + 1) * k) = g' at *
    generalize Lq p k = u at *
    generalize Lq p (m - (i + 1) * k) = v at *
    calc ser p i (m - (i + 1) * k) * (x * y) * g' * (shr p n i * (u * z)) = (ser p i (m - (i + 1) * k) * shr p n i) * (x * y * g' * (u * z)) := by grind
      _ = fnd p n i (m - (i + 1) * k) * v * (x * y * g' * (u * z)) := by rw [ih]
      _ = _ := by grind
theorem shr_pos (n : Nat) : ∀ i, 0 < shr p n i
  | 0 => by
    show (0 : Int) < 1
    decide
  | i + 1 => Int.mul_pos (shr_pos n i) (Lq_pos h1 _).1
/-- how many pairs commute -/
theorem com_eq (n : Nat) : fnd p n n n * gsz p n n / shr p n n = p ^ tri n * ser p n n := by
  have a := ser_fnd h1 n n n (Nat.le_refl _)
  have b := gsz_Lq p n n (Nat.le_refl _)
  rw [Nat.sub_self, Lq_zero, Int.mul_one] at b
  have q := shr_pos h1 n n
  rw [b]
  have : fnd p n n n * (p ^ tri n * Lq p n) = p ^ tri n * ser p n n * shr p n n := by
    calc _ = p ^ tri n * (fnd p n n n * Lq p n) := by grind
      _ = _ := by rw [← a]; grind
  rw [this]
  exact Int.mul_ediv_cancel _ (by omega)
end
/-! ### how great -/
theorem ex_le {k : Nat} (h : k ≤ 20) : ex k ≤ 230 := by
  unfold ex
  have : k * (k + 1) ≤ 20 * 21 := Nat.mul_le_mul h (by omega)
  omega
def shE (n : Nat) : Nat → Nat
  | 0 => 0
  | i + 1 => shE n i + (n / (i + 1)) * (n / (i + 1))
theorem shE_all : (List.range 21).all (fun n => (List.range 21).all fun i => Nat.ble (shE n i) 899) = true := by decide +kernel
theorem shE_le {n i : Nat} (hn : n ≤ 20) (hi : i ≤ 20) : shE n i ≤ 899 := by
  have h := List.all_eq_true.mp shE_all n (List.mem_range.mpr (by omega))
  exact Nat.le_of_ble_eq_true (List.all_eq_true.mp h i (List.mem_range.mpr (by omega)))
section
variable {p : Int} (h1 : 2 ≤ p)
include h1
theorem mul_pp {x y : Int} {a b : Nat} (hx : 0 ≤ x) (hx2 : x ≤ p ^ a) (hy : 0 ≤ y) (hy2 : y ≤ p ^ b) : 0 ≤ x * y ∧ x * y ≤ p ^ (a + b) := by
  refine ⟨Int.mul_nonneg hx hy, ?_⟩
  rw [Int.pow_add]
  exact Int.mul_le_mul hx2 hy2 hy (Int.pow_nonneg (by omega))
theorem up_pp {x : Int} {a b : Nat} (hx : x ≤ p ^ a) (h : a ≤ b) : x ≤ p ^ b := Int.le_trans hx (pow_mono (by omega) h)
theorem shr_le (n : Nat) : ∀ i, shr p n i ≤ p ^ shE n i
  | 0 => by
    show (1 : Int) ≤ p ^ 0
    simp
  | i + 1 => (mul_pp h1 (Int.le_of_lt (shr_pos h1 n i)) (shr_le n i) (Int.le_of_lt (Lq_pos h1 (n / (i + 1))).1) (Lq_pos h1 (n / (i + 1))).2).2
theorem sq20 {a b : Nat} (ha : a ≤ 20) (hb : b ≤ 20) : a * b ≤ 400 := (Nat.mul_le_mul ha hb : a * b ≤ 20 * 20)
theorem wv_le {q k : Nat} (hq : q ≤ 20) (hk : k ≤ q) : 0 ≤ wv p q k ∧ wv p q k ≤ p ^ 630 := by
  obtain ⟨a, b⟩ := fl_pos h1 k (q - k)
  obtain ⟨c, d⟩ := mul_pp h1 (Int.pow_nonneg (by omega)) (Int.le_refl (p ^ ex k)) (Int.le_of_lt a) b
  refine ⟨c, up_pp h1 d ?_⟩
  have := ex_le (show k ≤ 20 by omega)
  have := sq20 (a := q - k) (b := k + (q - k)) h1 (by omega) (by omega)
  omega
theorem oth_le {n i t : Nat} (hn : n ≤ 20) (hi : 0 < i) (ht : t ≤ n) : 0 ≤ oth p n i t ∧ oth p n i t ≤ p ^ 630 := by
  unfold oth
  split
  · refine wv_le h1 (Nat.le_trans (Nat.div_le_self _ _) hn) (Nat.div_le_div_right ht)
  · exact ⟨Int.le_refl _, Int.pow_nonneg (by omega)⟩
theorem one0_le (t : Nat) : 0 ≤ one0 t ∧ one0 t ≤ 1 := by
  unfold one0
  split <;> omega
theorem fnd_le {n : Nat} (hn : n ≤ 20) : ∀ i, i ≤ 20 → ∀ t, t ≤ n → 0 ≤ fnd p n i t ∧ fnd p n i t ≤ p ^ (635 * i)
  | 0, _, t, _ => by
    have := one0_le h1 t
    simpa [fnd] using this
  | i + 1, hi, t, ht => by
    show 0 ≤ cv _ _ _ _ ∧ cv _ _ _ _ ≤ _
    rw [cv_sm]
    have := sm_bd21 h1 (e := 635 * i + 630) (n := n + 1) (f := fun a => if a ≤ t then fnd p n i a * oth p n (i + 1) (t - a) else 0) (by omega) fun a ha => ?_
    · exact ⟨this.1, up_pp h1 this.2 (by omega)⟩
    · split
      · obtain ⟨b, c⟩ := fnd_le hn i (by omega) a (by omega)
        obtain ⟨d, e⟩ := oth_le h1 (n := n) (i := i + 1) (t := t - a) hn (by omega) (by omega)
        exact mul_pp h1 b c d e
      · exact ⟨Int.le_refl _, Int.pow_nonneg (by omega)⟩
theorem trm_le {i k : Nat} (hi : 0 < i) (h : i * k ≤ 20) : 0 ≤ trm p i k ∧ trm p i k ≤ p ^ 630 := by
  have hk : k ≤ i * k := le_mul1 hi
  unfold trm
  rw [Lq_quot h1 hk]
  obtain ⟨a, b⟩ := fl_pos h1 k (i * k - k)
  obtain ⟨c, d⟩ := mul_pp h1 (Int.pow_nonneg (by omega)) (Int.le_refl (p ^ ex k)) (Int.le_of_lt a) b
  refine ⟨c, up_pp h1 d ?_⟩
  have := ex_le (show k ≤ 20 by omega)
  have := sq20 (a := i * k - k) (b := k + (i * k - k)) h1 (by omega) (by omega)
  omega
theorem ser_le : ∀ i, i ≤ 20 → ∀ m, m ≤ 20 → 0 ≤ ser p i m ∧ ser p i m ≤ p ^ (1035 * i)
  | 0, _, m, _ => by
    have := one0_le h1 m
    simpa [ser] using this
  | i + 1, hi, m, hm => by
    show 0 ≤ sm _ _ ∧ sm _ _ ≤ _
    have hd := Nat.div_le_self m (i + 1)
    have := sm_bd21 h1 (e := 1035 * i + 630 + 400) (n := m / (i + 1) + 1) (f := fun k => ser p i (m - (i + 1) * k) * trm p (i + 1) k * G p m ((i + 1) * k)) (by omega) fun k hk => ?_
    · exact ⟨this.1, up_pp h1 this.2 (by omega)⟩
    · have hik := le_div (by omega) hk
      obtain ⟨b, c⟩ := ser_le i (by omega) (m - (i + 1) * k) (by omega)
      obtain ⟨d, e⟩ := trm_le h1 (i := i + 1) (k := k) (by omega) (by omega)
      obtain ⟨b, c⟩ := mul_pp h1 b c d e
      exact mul_pp h1 b c (G_nn h1 m _) (up_pp h1 (G_le h1 m _) (sq20 h1 hm hm))
end
/-! ### pairs that come to nought -/
def nouV (p : Int) (n : Nat) : Int := sm (fun r => G p n r * gsz p n r * p ^ (n * (n - r))) (n + 1)
theorem nou_eq {p : Int} (h1 : 2 ≤ p) {n r : Nat} (h : r ≤ n) : gsz p n r * gsz p n r / gsz p r r = G p n r * gsz p n r := by
  have e := gsz_G h1 h
  have q := (gsz_pos h1 r r (Nat.le_refl _)).1
  have : gsz p n r * gsz p n r = G p n r * gsz p n r * gsz p r r := by
    conv => lhs; lhs; rw [e]
    grind
  rw [this]
  exact Int.mul_ediv_cancel _ (by omega)
/-! ### kinds -/
def Wk (p : Int) : Nat → Nat → Int
  | 0 => one0
  | i + 1 => up p (i + 1) (Wk p i)
def Ik (p : Int) : Nat → Nat → Int
  | 0 => one0
  | i + 1 => up p (i + 1) (dn (i + 1) (Ik p i))
def Dk (f : Nat → Int) : Nat → Nat → Int
  | 0 => f
  | i + 1 => dn (i + 1) (Dk f i)
theorem up_Dk {p : Int} {i : Nat} (hi : 0 < i) (f : Nat → Int) : ∀ j, up p i (Dk f j) = Dk (up p i f) j
  | 0 => rfl
  | j + 1 => by
    show up p i (dn (j + 1) (Dk f j)) = dn (j + 1) (Dk (up p i f) j)
    rw [← up_Dk hi f j]
    funext m
    exact up_dn hi _ m
theorem Ik_Dk (p : Int) : ∀ i, Ik p i = Dk (Wk p i) i
  | 0 => rfl
  | i + 1 => by
    show up p (i + 1) (dn (i + 1) (Ik p i)) = dn (i + 1) (Dk (up p (i + 1) (Wk p i)) i)
    rw [Ik_Dk p i, ← up_Dk (by omega)]
    funext m
    exact up_dn (by omega) _ m
/-- from both sides -/
def Bd (p : Int) (e : Nat) (f : Nat → Int) : Prop := ∀ m, -p ^ (e + 2 * m) ≤ f m ∧ f m ≤ p ^ (e + 2 * m)
theorem Bd_0 (p : Int) (h : 2 ≤ p) : Bd p 0 one0 := by
  intro m
  have := one0_le h m
  have := pow_pos' (show 1 ≤ p by omega) (0 + 2 * m)
  omega
theorem pow_dbl {p : Int} (h : 2 ≤ p) (e : Nat) : 2 * p ^ e ≤ p ^ (e + 1) := by
  rw [Int.pow_succ, Int.mul_comm]
  exact Int.mul_le_mul_of_nonneg_left h (Int.pow_nonneg (by omega))
theorem Bd_dn {p : Int} (h : 2 ≤ p) {e i : Nat} {f : Nat → Int} (hf : Bd p e f) : Bd p (e + 1) (dn i f) := by
  intro m
  have a := hf m
  have b := hf (m - i)
  have c := pow_mono (show 1 ≤ p by omega) (show e + 2 * (m - i) ≤ e + 2 * m by omega)
  have d := pow_dbl h (e + 2 * m)
  rw [show e + 2 * m + 1 = e + 1 + 2 * m by omega] at d
  unfold dn
  split <;> omega
theorem Bd_up {p : Int} (h : 2 ≤ p) {e i : Nat} (hi : 0 < i) {f : Nat → Int} (hf : Bd p e f) : Bd p (e + 1) (up p i f) := by
  intro m
  induction m using Nat.strongRecOn with
  | _ m ih =>
    have a := hf m
    have d := pow_dbl h (e + 2 * m)
    rw [show e + 2 * m + 1 = e + 1 + 2 * m by omega] at d
    by_cases c : i ≤ m
    · rw [up_ge f hi c]
      obtain ⟨b1, b2⟩ := ih (m - i) (by omega)
      have k := pow_mono (show 1 ≤ p by omega) (show e + 1 + 2 * (m - i) + 1 ≤ e + 2 * m by omega)
      rw [Int.pow_succ] at k
      have k1 := Int.mul_le_mul_of_nonneg_left b2 (show 0 ≤ p by omega)
      have k2 := Int.mul_le_mul_of_nonneg_left b1 (show 0 ≤ p by omega)
      rw [Int.mul_neg] at k2
      rw [Int.mul_comm] at k
      omega
    · rw [up_lt f (by omega)]
      have := Int.pow_nonneg (n := p) (m := e + 2 * m) (by omega)
      omega
theorem Bd_Wk {p : Int} (h : 2 ≤ p) : ∀ i, Bd p i (Wk p i)
  | 0 => Bd_0 p h
  | i + 1 => Bd_up h (by omega) (Bd_Wk h i)
theorem Bd_Ik {p : Int} (h : 2 ≤ p) : ∀ i, Bd p (2 * i) (Ik p i)
  | 0 => Bd_0 p h
  | i + 1 => Bd_up h (by omega) (Bd_dn h (Bd_Ik h i))
theorem Bd.mul {p : Int} (h1 : 2 ≤ p) (h2 : p < 1024) {e : Nat} {f : Nat → Int} (hf : Bd p e f) {m : Nat} (h : e + 2 * m ≤ 1000) : mulOk p (f m) := by
  obtain ⟨a, b⟩ := hf m
  have c := Int.le_trans (pow_lt (show 1 ≤ p by omega) h2 (e + 2 * m)) (two_mono (show 10 * (e + 2 * m) ≤ 10000 by omega))
  have d : (f m).natAbs < 2 ^ (10000 + 1) := by
    by_cases s : 0 ≤ f m
    · exact abs_lt (k := 10000) s (by omega)
    · have := abs_lt (x := -f m) (k := 10000) (by omega) (by omega)
      rwa [Int.natAbs_neg] at this
  exact mulOk_of (a := 65) (by omega) d (by decide) (by decide) (by decide)
end K32
/-! K32O: the program's numbers. -/
namespace K32
open Eng Kit31
theorem enu_get {l : List D} {i : Nat} {d : D} (h : (enuL l)[i]? = some d) : ∃ x, l[i]? = some x ∧ d = .tup [.int i, x] := by
  unfold enuL at h
  rw [List.getElem?_map] at h
  by_cases hi : i < l.length
  · have e : ((List.range l.length).zip l)[i]? = some (i, l[i]) := by
      rw [List.getElem?_zip_eq_some]
      exact ⟨by rw [List.getElem?_range hi], by simp [hi]⟩
    rw [e] at h
    exact ⟨l[i], by simp [hi], by simpa using h.symm⟩
  · rw [List.getElem?_eq_none (by simpa using Nat.le_of_not_lt hi)] at h
    cases h
theorem enu_len (l : List D) : (enuL l).length = l.length := by simp [enuL]
theorem fnL_get' {n : Nat} {f : Nat → Int} {t : Nat} {d : D} (h : (intsD (fnL n f))[t]? = some d) : t < n ∧ d = .int (f t) := by
  by_cases ht : t < n
  · rw [fnL_get ht] at h
    exact ⟨ht, by simpa using h.symm⟩
  · rw [fnL_none (by omega)] at h
    cases h
theorem at_end (S : Store) (o : O) : (S ++ [o])[S.length]? = some o := by simp
theorem set_end (S : Store) (o o' : O) : (S ++ [o]).set S.length o' = S ++ [o'] := by simp
theorem mul_lv {S : Store} {a : List D} {N : Nat} (h : N ≤ 1000000) (h2 : a.length * N ≤ 1000000) : binD S .mul (.lv a) (.int (N : Int)) = some (.lv (repL a N)) := by
  show (lstOf S (.lv a)).bind (fun a => if BOp.mul = .mul ∧ -1000000 ≤ (N : Int) ∧ (N : Int) ≤ 1000000 ∧ a.length * (N : Int).toNat ≤ lenLine then some (D.lv (repL a (N : Int).toNat)) else none) = _
  simp only [l_lv, Option.bind_some, Int.toNat_natCast]
  rw [if_pos ⟨trivial, by omega, by omega, h2⟩]
theorem rep0 (N : Nat) : repL [D.int 0] N = intsD (fnL N fun _ => 0) := by
  unfold repL intsD fnL
  apply List.ext_getElem?
  intro i
  by_cases hi : i < N
  · simp [hi, List.getElem?_replicate]
  · simp [hi, List.getElem?_replicate]
/-! ### one series times another -/
def mix (f g : Nat → Int) (i j t : Nat) : Int := cv f g i t + if i ≤ t ∧ t < i + j then f i * g (t - i) else 0
theorem mix_in {f g : Nat → Int} {i j t : Nat} (h : i ≤ t ∧ t < i + j) : mix f g i j t = cv f g i t + f i * g (t - i) := by
  unfold mix
  rw [if_pos h]
theorem mix_out {f g : Nat → Int} {i j t : Nat} (h : ¬ (i ≤ t ∧ t < i + j)) : mix f g i j t = cv f g i t := by
  unfold mix
  rw [if_neg h, Int.add_zero]
theorem ser_times_ok {N : Nat} {f g : Nat → Int} {b : D} {S : Store} (hN : N ≤ 1000) (hf : ∀ t, t < N → Mu (f t)) (hg : ∀ t, t < N → Mu (g t)) (hb : slI S b none = fun h => (some (.lv (cutV (intsD (fnL N g)) none h)))) (hb2 : ∀ o, slI (S ++ [o]) b = slI S b) :
    F_series_times [.lv (intsD (fnL N f)), b] S = some (.lv (intsD (fnL N (cv f g N))), S) := by
  obtain ⟨T, hT⟩ : ∃ T, T = tb [F_power_of, F_group_size] := ⟨_, rfl⟩
  have run := forL_run (body := evalS T (.for_ [5, 6] (.tup (.cons (.nm 5) (.cons (.nm 6) .nil))) (.enu (.sl false (.var 1) .non (.bin false .sub (.blt false .len (.cons (.var 0) .nil)) (.var 3))))
       (.ite (.cmp .ne (.var 6) (.int 0))
          (.six (.var 2) (.bin false .add (.var 3) (.var 5)) (.bin false .add (.idx (.var 2) (.bin false .add (.var 3) (.var 5))) (.bin false .mul (.var 4) (.var 6))))
          (.skip))))
    (src := .tup (enuL (intsD (fnL N f)))) (all := enuL (intsD (fnL N f))) (tg := .tup (.cons (.nm 3) (.cons (.nm 4) .nil))) (w := [3, 4, 5, 6])
    (fun i => [some (.lv (intsD (fnL N f))), some b, some (.ref S.length), none, none, none, none]) (fun i => S ++ [.lst (intsD (fnL N (cv f g i)))]) (fun _ => trivial) (enuL (intsD (fnL N f))) 0 ?_
  · rw [enu_len, intsD_len, fnL_len, Nat.zero_add] at run
    have hbin : binD S .mul (.lv [.int 0]) (.int (N : Int)) = some (.lv (intsD (fnL N (cv f g 0)))) := by
      rw [mul_lv (by omega) (by simp; omega), rep0]
      rfl
    have e1 := gc_ints S (fnL N (cv f g N))
    exact run_gc rfl ⟨_, by rw [← hT]; simp [b_series_times, s_for, fnL_len, hbin, run, stayL, -bin_int, -Option.map_bind]; rfl⟩ e1
  · intro i d hd
    obtain ⟨x, hx, rfl⟩ := enu_get hd
    obtain ⟨hi, rfl⟩ := fnL_get' hx
    rw [Nat.zero_add]
    have cutE : cutV (intsD (fnL N g)) none (some ((N : Int) - i)) = intsD (fnL (N - i) g) := by
      unfold cutV sIx
      have h : ¬ ((N : Int) - i < 0) := by omega
      simp only [h, if_false, intsD_len, fnL_len, List.drop_zero, Nat.sub_zero]
      have : min ((N : Int) - i).toNat N = N - i := by omega
      rw [this]
      apply List.ext_getElem?
      intro j
      by_cases hj : j < N - i
      · rw [List.getElem?_take_of_lt hj, fnL_get (by omega), fnL_get hj]
      · rw [List.getElem?_take_eq_none (by omega), fnL_none (by omega)]
    have run := forL_run (body := evalS T (.ite (.cmp .ne (.var 6) (.int 0))
          (.six (.var 2) (.bin false .add (.var 3) (.var 5)) (.bin false .add (.idx (.var 2) (.bin false .add (.var 3) (.var 5))) (.bin false .mul (.var 4) (.var 6))))
          (.skip)))
      (src := .tup (enuL (intsD (fnL (N - i) g)))) (all := enuL (intsD (fnL (N - i) g))) (tg := .tup (.cons (.nm 5) (.cons (.nm 6) .nil))) (w := [5, 6])
      (fun j => [some (.lv (intsD (fnL N f))), some b, some (.ref S.length), some (.int i), some (.int (f i)), none, none]) (fun j => S ++ [.lst (intsD (fnL N (mix f g i j)))]) (fun _ => trivial) (enuL (intsD (fnL (N - i) g))) 0 ?_
    · rw [enu_len, intsD_len, fnL_len, Nat.zero_add] at run
      have e0 : fnL N (mix f g i 0) = fnL N (cv f g i) := fnL_congr fun t ht => by
        unfold mix
        rw [if_neg (by omega), Int.add_zero]
      have e1 : fnL N (mix f g i (N - i)) = fnL N (cv f g (i + 1)) := fnL_congr fun t ht => by
        unfold mix
        show _ = cv f g i t + _
        by_cases h : i ≤ t
        · rw [if_pos (by omega), if_pos h]
        · rw [if_neg (by omega), if_neg h]
      rw [e0, e1] at run
      have hb3 : slI (S ++ [.lst (intsD (fnL N (cv f g i)))]) b none (some ((N : Int) - i)) = some (.lv (intsD (fnL (N - i) g))) := by
        rw [hb2, hb]
        show some (D.lv (cutV _ _ _)) = _
        rw [cutE]
      exact ⟨_, _, rfl, (by simp [s_for, fnL_len, partD, isNon, hb3, stayL, run, -Option.map_bind]; rfl), by simp⟩
    · intro j d hd
      obtain ⟨x, hx, rfl⟩ := enu_get hd
      obtain ⟨hj, rfl⟩ := fnL_get' hx
      rw [Nat.zero_add]
      have hij : i + j < N := by omega
      have m1 := (hf i hi).mul (hg j (by omega))
      have c : ((i : Int) + j) = ((i + j : Nat) : Int) := by omega
      by_cases h0 : g j = 0
      · have e : fnL N (mix f g i (j + 1)) = fnL N (mix f g i j) := fnL_congr fun t ht => by
          by_cases h : t = i + j
          · subst h
            rw [mix_in (by omega), mix_out (by omega), Nat.add_sub_cancel_left, h0]
            simp
          · by_cases h2 : i ≤ t ∧ t < i + j
            · rw [mix_in (by omega), mix_in h2]
            · rw [mix_out (by omega), mix_out h2]
        rw [e]
        exact ⟨_, _, rfl, (by simp [h0]; rfl), by simp⟩
      · have g1 := fnL_get (f := mix f g i j) hij
        have e : fnL N (upF (mix f g i j) (i + j) (mix f g i j (i + j) + f i * g j)) = fnL N (mix f g i (j + 1)) := fnL_congr fun t ht => by
          unfold upF
          by_cases h : t = i + j
          · subst h
            rw [if_pos rfl, mix_out (by omega), mix_in (by omega), Nat.add_sub_cancel_left]
          · rw [if_neg h]
            by_cases h2 : i ≤ t ∧ t < i + j
            · rw [mix_in h2, mix_in (by omega)]
            · rw [mix_out h2, mix_out (by omega)]
        have st := fnL_set N (mix f g i j) (i + j) (mix f g i j (i + j) + f i * g j)
        rw [e] at st
        have ga : atI (intsD (fnL N (mix f g i j))) ((i : Int) + j) = some (.int (mix f g i j (i + j))) := by rw [c, at_nat, g1]
        have gx : ixN N ((i : Int) + j) = some (i + j) := by rw [c, ix_nat, if_pos hij]
        exact ⟨_, _, rfl, (by simp [h0, m1, ga, gx, fnL_len, st]; rfl), by simp⟩
end K32
/-! K32P: how many pairs commute, as the program tells it. -/
namespace K32
open Eng Kit31
theorem init_lv {S : Store} {n : Nat} (h : n ≤ 1000) : binD S .add (.lv [.int 1]) (.lv (intsD (fnL n fun _ => 0))) = some (.lv (intsD (fnL (n + 1) one0))) := by
  rw [add_lv, if_pos (by simp [fnL_len]; omega)]
  congr 2
  show .int 1 :: intsD (fnL n fun _ => 0) = _
  unfold fnL
  rw [List.range_succ_eq_map]
  simp [intsD, one0]
theorem zeros_lv {S : Store} {n : Nat} (h : n ≤ 1000) : binD S .mul (.lv [.int 0]) (.int (n : Int)) = some (.lv (intsD (fnL n fun _ => 0))) := by
  rw [mul_lv (by omega) (by simp; omega), rep0]
theorem seq_nx {T : Nat → Fn} {a b : IS} {v v1 : Env} {S S1 : Store} {r : Option (Fl × Env × Store)} (ha : evalS T a v S = some (.nx, v1, S1)) (hb : evalS T b v1 S1 = r) : evalS T (.seq a b) v S = r := by
  rw [s_seq, ha]
  exact hb
/-- [0] * N -/
theorem e_zeros {T : Nat → Fn} {m : Bool} {v : Env} {S : Store} {e : IE} {N : Nat} {x : Int} (hN : N ≤ 1000) (he : evalE T e v S = some (.int x, S)) (hx : x = N) : evalE T (.bin m .mul (.lst false (.cons (.int 0) .nil)) e) v S = some (alloc m (.lv (intsD (fnL N fun _ => 0))) S) := by
  subst hx
  have a : evalE T (.lst false (.cons (.int 0) .nil)) v S = some (.lv [.int 0], S) := by simp
  rw [e_bin, a, bd_some]
  show (evalE T e v S).bd _ = _
  rw [he, bd_some]
  show (binD S _ _ _).map _ = _
  rw [zeros_lv hN]
  rfl
/-- [1] + [0] * N -/
theorem e_init {T : Nat → Fn} {m : Bool} {v : Env} {S : Store} {e : IE} {N : Nat} {x : Int} (hN : N ≤ 1000) (he : evalE T e v S = some (.int x, S)) (hx : x = N) : evalE T (.bin m .add (.lst false (.cons (.int 1) .nil)) (.bin false .mul (.lst false (.cons (.int 0) .nil)) e)) v S = some (alloc m (.lv (intsD (fnL (N + 1) one0))) S) := by
  have a : evalE T (.lst false (.cons (.int 1) .nil)) v S = some (.lv [.int 1], S) := by simp
  rw [e_bin, a, bd_some]
  show (evalE T (.bin false .mul (.lst false (.cons (.int 0) .nil)) e) v S).bd _ = _
  rw [e_zeros hN he hx, alloc_no, bd_some]
  show (binD S _ _ _).map _ = _
  rw [init_lv hN]
  rfl
theorem s_set_of {T : Nat → Fn} {i : Nat} {e : IE} {v : Env} {S S1 : Store} {d : D} (h : evalE T e v S = some (d, S1)) : evalS T (.set i e) v S = some (.nx, v.set i (some d), S1) := by
  rw [s_set, h]
  rfl
theorem ex_cast (k : Nat) : ((ex k : Nat) : Int) = (k : Int) + (k : Int) * ((k : Int) + 1) / 2 := by
  unfold ex
  push_cast
  rfl
def mx (p : Int) (q i k t : Nat) : Int := if t % i = 0 ∧ t / i < k then wv p q (t / i) else 0
def Ro (p : Int) (n a : Nat) : Store := (List.range a).map fun b => .lst (intsD (fnL (n + 1) (oth p n (b + 1))))
section
variable {p : Int} (h1 : 2 ≤ p) (h2 : p < 1024)
include h1 h2
theorem com_in {T : Nat → Fn} (t0 : T 0 = F_power_of) (t5 : T 5 = F_falls) {n q a k : Nat} {x3 x4 : Option D} (hn : n ≤ 20) (hqn : q ≤ 20) (hq : q = n / (a + 1)) (hk : k < q + 1) (ha : a < n) (S1 : Store) : ∃ v1 v2, bindT (.nm 7) (.int (k : Int)) [some (.int p), some (.int n), some (.int (1 + (a : Int))), x3, x4, some (.int q), some (.ref S1.length), none] = some v1 ∧
    evalS T (.six (.var 6) (.bin false .mul (.var 2) (.var 7)) (.bin false .mul (.call 0 (.cons (.var 0) (.cons (.bin false .add (.var 7) (.bin false .fdiv (.bin false .mul (.var 7) (.bin false .add (.var 7) (.int 1))) (.int 2))) .nil))) (.call 5 (.cons (.var 0) (.cons (.var 7) (.cons (.var 5) .nil)))))) v1 (S1 ++ [.lst (intsD (fnL (n + 1) (mx p q (a + 1) k)))]) = some (.nx, v2, S1 ++ [.lst (intsD (fnL (n + 1) (mx p q (a + 1) (k + 1))))]) ∧ wipeE v2 [7] = [some (.int p), some (.int n), some (.int (1 + (a : Int))), x3, x4, some (.int q), some (.ref S1.length), none] := by
  have hik : (a + 1) * k ≤ n := by
    rw [hq] at hk
    exact le_div (by omega) hk
  have ca : (1 + (a : Int)) * k = (((a + 1) * k : Nat) : Int) := by
    push_cast
    rw [Int.add_comm]
  have m1 : mulOk (k : Int) ((k : Int) + 1) := (Mu.small (by omega) (by omega)).mul (Mu.small (by omega) (by omega))
  have m2 : mulOk (1 + (a : Int)) (k : Int) := (Mu.small (by omega) (by omega)).mul (Mu.small (by omega) (by omega))
  have d2 : divOk ((k : Int) * ((k : Int) + 1)) 2 := divOk_small (by decide) (by decide)
  obtain ⟨S2, hS2'⟩ : ∃ S2, S2 = S1 ++ [.lst (intsD (fnL (n + 1) (mx p q (a + 1) k)))] := ⟨_, rfl⟩
  have e1 := power_ok' (p := p) (k := ex k) (by omega) h2 (by have := ex_le (show k ≤ 20 by omega); omega) S2
  rw [ex_cast] at e1
  have e2 := falls_ok h1 h2 (k := k) (m := q) (by omega) hqn S2
  have f2 := fl_pos h1 k (q - k)
  have q4 := sq20 (a := q - k) (b := k + (q - k)) h1 (by omega) (by omega)
  have m3 : mulOk (p ^ ex k) (fl p k (q - k)) := (Mu.of (by omega) h2 (Int.pow_nonneg (by omega)) (Int.le_refl _) (by have := ex_le (show k ≤ 20 by omega); omega)).mul (Mu.of (by omega) h2 (Int.le_of_lt f2.1) f2.2 (by omega))
  have gx : ixN (n + 1) ((1 + (a : Int)) * k) = some ((a + 1) * k) := by rw [ca, ix_nat, if_pos (by omega)]
  have e : fnL (n + 1) (upF (mx p q (a + 1) k) ((a + 1) * k) (wv p q k)) = fnL (n + 1) (mx p q (a + 1) (k + 1)) := fnL_congr fun t ht => by
    unfold upF
    by_cases h : t = (a + 1) * k
    · rw [if_pos h]
      unfold mx
      have e1 : t % (a + 1) = 0 := by rw [h]; exact Nat.mul_mod_right _ _
      have e2 : t / (a + 1) = k := by rw [h]; exact Nat.mul_div_cancel_left _ (by omega)
      rw [if_pos ⟨e1, by omega⟩, e2]
    · rw [if_neg h]
      unfold mx
      by_cases c : t % (a + 1) = 0
      · have e1 := Nat.div_add_mod t (a + 1)
        rw [c] at e1
        have : t / (a + 1) ≠ k := fun z => h (by rw [← z]; omega)
        by_cases c2 : t / (a + 1) < k
        · rw [if_pos ⟨c, c2⟩, if_pos ⟨c, by omega⟩]
        · rw [if_neg (by omega), if_neg (by omega)]
      · rw [if_neg (by omega), if_neg (by omega)]
  have st := fnL_set (n + 1) (mx p q (a + 1) k) ((a + 1) * k) (wv p q k)
  rw [e] at st
  have sS : S2[S1.length]? = some (.lst (intsD (fnL (n + 1) (mx p q (a + 1) k)))) := by rw [hS2']; simp
  have sT : S2.set S1.length (.lst (intsD (fnL (n + 1) (mx p q (a + 1) (k + 1))))) = S1 ++ [.lst (intsD (fnL (n + 1) (mx p q (a + 1) (k + 1))))] := by rw [hS2']; simp
  have ew : wv p q k = p ^ ex k * fl p k (q - k) := rfl
  rw [ew] at st
  rw [← hS2', ← sT]
  exact ⟨_, _, rfl, (by simp [t0, t5, m1, d2, e1, e2, m2, m3, gx, sS, fnL_len, st]; rfl), by simp⟩
theorem com_out {T : Nat → Fn} (t0 : T 0 = F_power_of) (t2 : T 2 = F_series_times) (t5 : T 5 = F_falls) {n a : Nat} (hn : n ≤ 20) (ha : a < n) (S : Store) : ∃ v1 v2, bindT (.nm 2) (.int (1 + (a : Int))) [some (.int p), some (.int n), none, some (.lv (intsD (fnL (n + 1) (fnd p n a)))), some (.int (shr p n a)), none, none, none] = some v1 ∧
    evalS T (.seq (.set 5 (.bin false .fdiv (.var 1) (.var 2))) <|
     .seq (.set 6 (.bin true .mul (.lst false (.cons (.int 0) .nil)) (.bin false .add (.var 1) (.int 1)))) <|
     .seq (.for_ [7] (.nm 7) (.rng (.cons (.bin false .add (.var 5) (.int 1)) .nil))
       (.six (.var 6) (.bin false .mul (.var 2) (.var 7)) (.bin false .mul (.call 0 (.cons (.var 0) (.cons (.bin false .add (.var 7) (.bin false .fdiv (.bin false .mul (.var 7) (.bin false .add (.var 7) (.int 1))) (.int 2))) .nil))) (.call 5 (.cons (.var 0) (.cons (.var 7) (.cons (.var 5) .nil))))))) <|
     .seq (.set 3 (.call 2 (.cons (.var 3) (.cons (.var 6) .nil)))) <|
     .set 4 (.bin false .mul (.var 4) (.call 5 (.cons (.var 0) (.cons (.int 0) (.cons (.var 5) .nil)))))) v1 (S ++ Ro p n a) = some (.nx, v2, S ++ Ro p n (a + 1)) ∧ wipeE v2 [2, 5, 6, 7] = [some (.int p), some (.int n), none, some (.lv (intsD (fnL (n + 1) (fnd p n (a + 1))))), some (.int (shr p n (a + 1))), none, none, none] := by
  obtain ⟨q, hq⟩ : ∃ q, q = n / (a + 1) := ⟨_, rfl⟩
  have hqn : q ≤ 20 := by
    have := Nat.div_le_self n (a + 1)
    omega
  have cq : (n : Int) / (1 + (a : Int)) = (q : Int) := by
    rw [hq]
    push_cast
    rw [Int.add_comm]
  have dq : divOk (n : Int) (1 + (a : Int)) := divOk_small (by omega) (by omega)
  obtain ⟨S1, hS1⟩ : ∃ S1, S1 = S ++ Ro p n a := ⟨_, rfl⟩
  have hS2 : S ++ Ro p n (a + 1) = S1 ++ [.lst (intsD (fnL (n + 1) (oth p n (a + 1))))] := by
    rw [hS1]
    unfold Ro
    rw [List.range_succ]
    simp
  rw [hS2, ← hS1]
  have r2 : rngL [.int ((q : Int) + 1)] = some ((List.range (q + 1)).map fun i => .int (i : Nat)) := rng1 (b := q + 1) (by omega)
  have run := forL_run (body := evalS T (.six (.var 6) (.bin false .mul (.var 2) (.var 7)) (.bin false .mul (.call 0 (.cons (.var 0) (.cons (.bin false .add (.var 7) (.bin false .fdiv (.bin false .mul (.var 7) (.bin false .add (.var 7) (.int 1))) (.int 2))) .nil))) (.call 5 (.cons (.var 0) (.cons (.var 7) (.cons (.var 5) .nil)))))))
    (src := .tup ((List.range (q + 1)).map fun i => .int (i : Nat))) (all := (List.range (q + 1)).map fun i => .int (i : Nat)) (tg := .nm 7) (w := [7])
    (fun i => [some (.int p), some (.int n), some (.int (1 + (a : Int))), some (.lv (intsD (fnL (n + 1) (fnd p n a)))), some (.int (shr p n a)), some (.int q), some (.ref S1.length), none]) (fun k => S1 ++ [.lst (intsD (fnL (n + 1) (mx p q (a + 1) k)))]) (fun _ => trivial) ((List.range (q + 1)).map fun i => .int (i : Nat)) 0 ?_
  · simp only [List.length_map, List.length_range, Nat.zero_add] at run
    have e0 : fnL (n + 1) (mx p q (a + 1) 0) = fnL (n + 1) fun _ => 0 := fnL_congr fun t ht => by
      unfold mx
      rw [if_neg fun z => Nat.not_lt_zero _ z.2]
    have e1 : fnL (n + 1) (mx p q (a + 1) (q + 1)) = fnL (n + 1) (oth p n (a + 1)) := fnL_congr fun t ht => by
      have := Nat.div_le_div_right (c := a + 1) (show t ≤ n by omega)
      rw [← hq] at this
      unfold mx oth
      by_cases c : t % (a + 1) = 0
      · rw [if_pos ⟨c, Nat.lt_succ_of_le this⟩, if_pos c, hq]
      · rw [if_neg (fun z => c z.1), if_neg c]
    rw [e0, e1] at run
    obtain ⟨S2, hS2'⟩ : ∃ S2, S2 = S1 ++ [.lst (intsD (fnL (n + 1) (oth p n (a + 1))))] := ⟨_, rfl⟩
    have st : F_series_times [.lv (intsD (fnL (n + 1) (fnd p n a))), .ref S1.length] S2 = some (.lv (intsD (fnL (n + 1) (fnd p n (a + 1)))), S2) := by
      refine ser_times_ok (g := oth p n (a + 1)) (by omega) (fun t ht => ?_) (fun t ht => ?_) ?_ ?_
      · obtain ⟨x, y⟩ := fnd_le h1 hn a (by omega) t (by omega)
        exact Mu.of (by omega) h2 x y (by omega)
      · obtain ⟨x, y⟩ := oth_le h1 (i := a + 1) hn (by omega) (show t ≤ n by omega)
        exact Mu.of (by omega) h2 x y (by omega)
      · funext h
        rw [sl_ref, hS2']
        simp
      · intro o
        funext x h
        rw [sl_ref, sl_ref, hS2']
        simp
    have fo : F_falls [.int p, .int 0, .int q] S2 = some (.int (fl p 0 (q - 0)), S2) := falls_ok h1 h2 (k := 0) (m := q) (by omega) hqn S2
    rw [fl_0, Nat.sub_zero] at fo
    have lb := Lq_pos h1 q
    have q400 := sq20 h1 hqn hqn
    have sb := shr_le h1 n a
    have sE := shE_le (i := a) hn (by omega)
    have m1 := (Mu.of (by omega) h2 (Int.le_of_lt (shr_pos h1 n a)) sb (by omega)).mul (Mu.of (by omega) h2 (Int.le_of_lt lb.1) lb.2 (by omega))
    have es : shr p n (a + 1) = shr p n a * Lq p q := by rw [hq]; rfl
    rw [← hS2'] at run ⊢
    have E1 : evalS T (.set 5 (.bin false .fdiv (.var 1) (.var 2))) [some (.int p), some (.int n), some (.int (1 + (a : Int))), some (.lv (intsD (fnL (n + 1) (fnd p n a)))), some (.int (shr p n a)), none, none, none] S1 = some (.nx, [some (.int p), some (.int n), some (.int (1 + (a : Int))), some (.lv (intsD (fnL (n + 1) (fnd p n a)))), some (.int (shr p n a)), some (.int q), none, none], S1) := by simp [dq, cq]
    have E2 : evalS T (.set 6 (.bin true .mul (.lst false (.cons (.int 0) .nil)) (.bin false .add (.var 1) (.int 1)))) [some (.int p), some (.int n), some (.int (1 + (a : Int))), some (.lv (intsD (fnL (n + 1) (fnd p n a)))), some (.int (shr p n a)), some (.int q), none, none] S1 = some (.nx, [some (.int p), some (.int n), some (.int (1 + (a : Int))), some (.lv (intsD (fnL (n + 1) (fnd p n a)))), some (.int (shr p n a)), some (.int q), some (.ref S1.length), none], S1 ++ [.lst (intsD (fnL (n + 1) fun _ => 0))]) := s_set_of (e_zeros (N := n + 1) (by omega) (x := (n : Int) + 1) (by simp) rfl)
    exact ⟨_, _, rfl, seq_nx E1 (seq_nx E2 (by simp [s_for, r2, run, t2, st, t5, fo, m1, -Option.map_bind]; rfl)), by rw [es]; simp⟩
  · intro k d hd
    obtain ⟨hk, rfl⟩ := rng_get hd
    rw [Nat.zero_add]
    exact com_in h1 h2 t0 t5 hn hqn hq hk ha S1
theorem com_ok {n : Nat} (hn : n ≤ 20) (S : Store) : F_commuting_number [.int p, .int n] S = some (.int (fnd p n n n * gsz p n n / shr p n n), S) := by
  obtain ⟨T, hT⟩ : ∃ T, T = tb [F_power_of, F_group_size, F_series_times, F_kinds_number, F_invertible_kinds_number, F_falls] := ⟨_, rfl⟩
  have t0 : T 0 = F_power_of := by rw [hT]; rfl
  have t1 : T 1 = F_group_size := by rw [hT]; rfl
  have t2 : T 2 = F_series_times := by rw [hT]; rfl
  have t5 : T 5 = F_falls := by rw [hT]; rfl
  have r := rng2 (a := 1) (b := (n : Int) + 1) (by omega) (by omega) (by omega) (by omega)
  rw [show ((n : Int) + 1 - 1).toNat = n by omega] at r
  have z1 : ∀ S, binD S .mul (.lv [.int 0]) (.int (n : Int)) = some (.lv (intsD (fnL n fun _ => 0))) := fun S => zeros_lv (by omega)
  have z3 : ∀ S, binD S .add (.lv [.int 1]) (.lv (intsD (fnL n fun _ => 0))) = some (.lv (intsD (fnL (n + 1) one0))) := fun S => init_lv (by omega)
  have run := forL_run (body := evalS T (.seq (.set 5 (.bin false .fdiv (.var 1) (.var 2))) <|
     .seq (.set 6 (.bin true .mul (.lst false (.cons (.int 0) .nil)) (.bin false .add (.var 1) (.int 1)))) <|
     .seq (.for_ [7] (.nm 7) (.rng (.cons (.bin false .add (.var 5) (.int 1)) .nil))
       (.six (.var 6) (.bin false .mul (.var 2) (.var 7)) (.bin false .mul (.call 0 (.cons (.var 0) (.cons (.bin false .add (.var 7) (.bin false .fdiv (.bin false .mul (.var 7) (.bin false .add (.var 7) (.int 1))) (.int 2))) .nil))) (.call 5 (.cons (.var 0) (.cons (.var 7) (.cons (.var 5) .nil))))))) <|
     .seq (.set 3 (.call 2 (.cons (.var 3) (.cons (.var 6) .nil)))) <|
     .set 4 (.bin false .mul (.var 4) (.call 5 (.cons (.var 0) (.cons (.int 0) (.cons (.var 5) .nil)))))))
    (src := .tup ((List.range n).map fun i => .int (1 + (i : Nat)))) (all := (List.range n).map fun i => .int (1 + (i : Nat))) (tg := .nm 2) (w := [2, 5, 6, 7])
    (fun i => [some (.int p), some (.int n), none, some (.lv (intsD (fnL (n + 1) (fnd p n i)))), some (.int (shr p n i)), none, none, none]) (fun i => S ++ Ro p n i) (fun _ => trivial) ((List.range n).map fun i => .int (1 + (i : Nat))) 0 ?_
  · simp only [List.length_map, List.length_range, Nat.zero_add] at run
    have e0 : S ++ Ro p n 0 = S := by simp [Ro]
    have e1 : intsD (fnL (n + 1) (fnd p n 0)) = intsD (fnL (n + 1) one0) := rfl
    rw [e0, e1] at run
    have sh0 : shr p n 0 = 1 := rfl
    rw [sh0] at run
    have gs := group_ok (T := tb [F_power_of]) (pw := F_power_of) h1 h2 rfl (fun l S => rfl) (show n ≤ 36 by omega) (S ++ Ro p n n)
    have gs' : F_group_size [.int p, .int n] (S ++ Ro p n n) = some (.int (gsz p n n), S ++ Ro p n n) := gs
    have fb := fnd_le h1 hn n hn n (Nat.le_refl _)
    have gb := gsz_pos h1 n n (Nat.le_refl _)
    have q400 := sq20 h1 hn hn
    have m1 := (Mu.of (by omega) h2 fb.1 fb.2 (by omega)).mul (Mu.of (by omega) h2 (Int.le_of_lt gb.1) gb.2 (by omega))
    have d1 : divOk (fnd p n n n * gsz p n n) (shr p n n) := div_p (by omega) h2 (shr_pos h1 n n) (shr_le h1 n n) (shE_le hn hn)
    have g1 := fnL_get (n := n + 1) (f := fnd p n n) (t := n) (by omega)
    exact run_gc rfl ⟨_, by rw [← hT]; simp [b_commuting_number, s_for, z1, z3, r, run, t1, gs', g1, m1, d1, -bin_int, -Option.map_bind, bin_int]; rfl⟩ (gc_drop S (Ro p n n) _ rfl)
  · intro a d hd
    obtain ⟨ha, rfl⟩ := rng_get hd
    rw [Nat.zero_add]
    exact com_out h1 h2 t0 t2 t5 hn ha S
end
end K32
/-! K32Q: pairs that come to nought, kinds, as the program tells them. -/
namespace K32
open Eng Kit31
section
variable {p : Int} (h1 : 2 ≤ p) (h2 : p < 1024)
include h1 h2
theorem gsz_mu {n i : Nat} (hn : n ≤ 20) (hi : i ≤ n) : Mu (gsz p n i) := by
  obtain ⟨a, b⟩ := gsz_pos h1 n i hi
  exact Mu.of (by omega) h2 (Int.le_of_lt a) b (by have := sq20 (a := n) (b := i) h1 hn (by omega); omega)
theorem pow_mu {k : Nat} (hk : k ≤ 40000) : Mu (p ^ k) := Mu.of (by omega) h2 (Int.pow_nonneg (by omega)) (Int.le_refl _) hk
theorem dif_mu {n i : Nat} (hn : n ≤ 20) (hi : i ≤ n) : Mu (p ^ n - p ^ i) := by
  have a := pow_mono (show 1 ≤ p by omega) hi
  have b := pow_pos' (show 1 ≤ p by omega) i
  exact Mu.of (k := n) (by omega) h2 (by omega) (by omega) (by omega)
theorem npn_in {T : Nat → Fn} (t0 : T 0 = F_power_of) {n r : Nat} {x : Option D} (hn : n ≤ 20) (hr : r ≤ n) (S : Store) : forL (evalS T (.seq (.set 5 (.bin false .mul (.var 5) (.bin false .sub (.call 0 (.cons (.var 0) (.cons (.var 1) .nil))) (.call 0 (.cons (.var 0) (.cons (.var 4) .nil)))))) <|
        .set 6 (.bin false .mul (.var 6) (.bin false .sub (.call 0 (.cons (.var 0) (.cons (.var 3) .nil))) (.call 0 (.cons (.var 0) (.cons (.var 4) .nil)))))))
    (.tup ((List.range r).map fun i => .int (i : Nat))) ((List.range r).map fun i => .int (i : Nat)) (.nm 4) [4] ((List.range r).map fun i => .int (i : Nat))
    [some (.int p), some (.int n), x, some (.int r), none, some (.int 1), some (.int 1)] S = some (.nx, [some (.int p), some (.int n), x, some (.int r), none, some (.int (gsz p n r)), some (.int (gsz p r r))], S) := by
  have run := forL_run (body := evalS T (.seq (.set 5 (.bin false .mul (.var 5) (.bin false .sub (.call 0 (.cons (.var 0) (.cons (.var 1) .nil))) (.call 0 (.cons (.var 0) (.cons (.var 4) .nil)))))) <|
        .set 6 (.bin false .mul (.var 6) (.bin false .sub (.call 0 (.cons (.var 0) (.cons (.var 3) .nil))) (.call 0 (.cons (.var 0) (.cons (.var 4) .nil)))))))
    (src := .tup ((List.range r).map fun i => .int (i : Nat))) (all := (List.range r).map fun i => .int (i : Nat)) (tg := .nm 4) (w := [4])
    (fun i => [some (.int p), some (.int n), x, some (.int r), none, some (.int (gsz p n i)), some (.int (gsz p r i))]) (fun _ => S) (fun _ => trivial) ((List.range r).map fun i => .int (i : Nat)) 0 ?_
  · simpa using run
  · intro i d hd
    obtain ⟨hi, rfl⟩ := rng_get hd
    rw [Nat.zero_add]
    have e1 := power_ok' (p := p) (k := n) (by omega) h2 (by omega) S
    have e2 := power_ok' (p := p) (k := r) (by omega) h2 (by omega) S
    have e3 := power_ok' (p := p) (k := i) (by omega) h2 (by omega) S
    have m1 := (gsz_mu h1 h2 hn (show i ≤ n by omega)).mul (dif_mu h1 h2 hn (show i ≤ n by omega))
    have m2 := (gsz_mu h1 h2 (show r ≤ 20 by omega) (show i ≤ r by omega)).mul (dif_mu h1 h2 (show r ≤ 20 by omega) (show i ≤ r by omega))
    exact ⟨_, _, rfl, (by simp [t0, e1, e2, e3, m1, m2]; rfl), by simp [gsz]⟩
theorem G_mu {n k : Nat} (hn : n ≤ 20) : Mu (G p n k) := Mu.of (by omega) h2 (G_nn h1 n k) (G_le h1 n k) (by have := sq20 h1 hn hn; omega)
theorem Gg_mu {n r : Nat} (hn : n ≤ 20) (hr : r ≤ n) : Mu (G p n r * gsz p n r) := by
  obtain ⟨a, b⟩ := gsz_pos h1 n r hr
  obtain ⟨x, y⟩ := mul_pp h1 (G_nn h1 n r) (G_le h1 n r) (Int.le_of_lt a) b
  exact Mu.of (by omega) h2 x y (by have := sq20 h1 hn hn; have := sq20 (a := n) (b := r) h1 hn (by omega); omega)
theorem nou_ok {n : Nat} (hn : n ≤ 20) (S : Store) : F_nought_pairs_number [.int p, .int n] S = some (.int (nouV p n), S) := by
  obtain ⟨T, hT⟩ : ∃ T, T = tb [F_power_of, F_group_size, F_series_times, F_kinds_number, F_invertible_kinds_number, F_falls, F_commuting_number] := ⟨_, rfl⟩
  have t0 : T 0 = F_power_of := by rw [hT]; rfl
  have r : rngL [.int ((n : Int) + 1)] = some ((List.range (n + 1)).map fun i => .int (i : Nat)) := rng1 (b := n + 1) (by omega)
  have run := forL_run (body := evalS T (.seq (.tgs (.tup (.cons (.nm 5) (.cons (.nm 6) .nil))) (.tup (.cons (.int 1) (.cons (.int 1) .nil)))) <|
     .seq (.for_ [4] (.nm 4) (.rng (.cons (.var 3) .nil))
       (.seq (.set 5 (.bin false .mul (.var 5) (.bin false .sub (.call 0 (.cons (.var 0) (.cons (.var 1) .nil))) (.call 0 (.cons (.var 0) (.cons (.var 4) .nil)))))) <|
        .set 6 (.bin false .mul (.var 6) (.bin false .sub (.call 0 (.cons (.var 0) (.cons (.var 3) .nil))) (.call 0 (.cons (.var 0) (.cons (.var 4) .nil))))))) <|
     .set 2 (.bin false .add (.var 2) (.bin false .mul (.bin false .fdiv (.bin false .mul (.var 5) (.var 5)) (.var 6)) (.call 0 (.cons (.var 0) (.cons (.bin false .mul (.var 1) (.bin false .sub (.var 1) (.var 3))) .nil)))))))
    (src := .tup ((List.range (n + 1)).map fun i => .int (i : Nat))) (all := (List.range (n + 1)).map fun i => .int (i : Nat)) (tg := .nm 3) (w := [3, 4, 5, 6])
    (fun i => [some (.int p), some (.int n), some (.int (sm (fun r => G p n r * gsz p n r * p ^ (n * (n - r))) i)), none, none, none, none]) (fun _ => S) (fun _ => trivial) ((List.range (n + 1)).map fun i => .int (i : Nat)) 0 ?_
  · simp only [List.length_map, List.length_range, Nat.zero_add, sm_zero] at run
    exact run_keep rfl ⟨_, by rw [← hT]; simp [b_nought_pairs_number, s_for, r, run, nouV, -Option.map_bind]; rfl⟩
  · intro i d hd
    obtain ⟨hi, rfl⟩ := rng_get hd
    rw [Nat.zero_add]
    have r2 := rng1 (show i < 2 ^ 62 by omega)
    have run := npn_in h1 h2 t0 (x := some (.int (sm (fun r => G p n r * gsz p n r * p ^ (n * (n - r))) i))) hn (show i ≤ n by omega) S
    have gm := gsz_mu h1 h2 hn (show i ≤ n by omega)
    have m1 := gm.mul gm
    have gp := gsz_pos h1 i i (Nat.le_refl _)
    have d1 : divOk (gsz p n i * gsz p n i) (gsz p i i) := div_p (by omega) h2 gp.1 gp.2 (by have := sq20 (a := i) (b := i) h1 (by omega) (by omega); omega)
    have e1 := nou_eq h1 (show i ≤ n by omega)
    have q4 := sq20 (a := n) (b := n - i) h1 hn (by omega)
    have m2 := (Gg_mu h1 h2 hn (show i ≤ n by omega)).mul (pow_mu h1 h2 (show n * (n - i) ≤ 40000 by omega))
    have m3 : mulOk (n : Int) ((n : Int) - i) := (Mu.small (by omega) (by omega)).mul (Mu.small (by omega) (by omega))
    have c : ((n * (n - i) : Nat) : Int) = (n : Int) * ((n : Int) - i) := by
      push_cast
      rw [Int.ofNat_sub (by omega)]
    have e2 := power_ok' (p := p) (k := n * (n - i)) (by omega) h2 (by omega) S
    rw [c] at e2
    exact ⟨_, _, rfl, (by simp [s_for, r2, run, m1, d1, e1, m2, m3, t0, e2, -Option.map_bind]; rfl), by simp [sm]⟩
/-! ### kinds -/
def uf (p : Int) (i : Nat) (f : Nat → Int) (k t : Nat) : Int := if t < i + k then up p i f t else f t
theorem up_val {i k : Nat} {f : Nat → Int} (hi : 0 < i) : uf p i f k (i + k) + p * uf p i f k k = up p i f (i + k) := by
  unfold uf
  rw [if_neg (by omega), if_pos (by omega), up_ge f hi (show i ≤ i + k by omega), Nat.add_sub_cancel_left]
theorem up_upF {n i k : Nat} {f : Nat → Int} : fnL (n + 1) (upF (uf p i f k) (i + k) (up p i f (i + k))) = fnL (n + 1) (uf p i f (k + 1)) := fnL_congr fun t ht => by
  unfold upF uf
  by_cases h : t = i + k
  · subst h
    rw [if_pos rfl, if_pos (by omega)]
  · rw [if_neg h]
    by_cases h2 : t < i + k
    · rw [if_pos h2, if_pos (by omega)]
    · rw [if_neg h2, if_neg (by omega)]
theorem uf_0 {n i : Nat} {f : Nat → Int} : fnL (n + 1) (uf p i f 0) = fnL (n + 1) f := fnL_congr fun t ht => by
  unfold uf
  by_cases h : t < i + 0
  · rw [if_pos h, up_lt f (by omega)]
  · rw [if_neg h]
theorem uf_n {n i : Nat} {f : Nat → Int} (hi : i ≤ n) : fnL (n + 1) (uf p i f (n + 1 - i)) = fnL (n + 1) (up p i f) := fnL_congr fun t ht => by
  unfold uf
  rw [if_pos (by omega)]
theorem uf_mul {n i k e : Nat} {f : Nat → Int} (hn : n ≤ 20) (hi : 0 < i) (hk : k ≤ n) (he : e ≤ 100) (hf : Bd p e f) : mulOk p (uf p i f k k) := by
  unfold uf
  rw [if_pos (by omega)]
  exact (Bd_up h1 hi hf).mul h1 h2 (by omega)
/-- place rising: found[place] + p * found[place - i] -/
theorem kin_up {T : Nat → Fn} {n i e : Nat} {f : Nat → Int} (hn : n ≤ 20) (hi : 0 < i) (hin : i ≤ n) (he : e ≤ 100) (hf : Bd p e f) (S : Store) : 
    evalS T (.for_ [4] (.nm 4) (.rng (.cons (.var 3) (.cons (.bin false .add (.var 1) (.int 1)) .nil)))
       (.six (.var 2) (.var 4) (.bin false .add (.idx (.var 2) (.var 4)) (.bin false .mul (.var 0) (.idx (.var 2) (.bin false .sub (.var 4) (.var 3)))))))
      [some (.int p), some (.int n), some (.ref S.length), some (.int i), none] (S ++ [.lst (intsD (fnL (n + 1) f))]) = some (.nx, [some (.int p), some (.int n), some (.ref S.length), some (.int i), none], S ++ [.lst (intsD (fnL (n + 1) (up p i f)))]) := by
  have r := rng2 (a := (i : Int)) (b := (n : Int) + 1) (by omega) (by omega) (by omega) (by omega)
  rw [show ((n : Int) + 1 - i).toNat = n + 1 - i by omega] at r
  have run := forL_run (body := evalS T (.six (.var 2) (.var 4) (.bin false .add (.idx (.var 2) (.var 4)) (.bin false .mul (.var 0) (.idx (.var 2) (.bin false .sub (.var 4) (.var 3)))))))
    (src := .tup ((List.range (n + 1 - i)).map fun k => .int ((i : Int) + (k : Nat)))) (all := (List.range (n + 1 - i)).map fun k => .int ((i : Int) + (k : Nat))) (tg := .nm 4) (w := [4])
    (fun _ => [some (.int p), some (.int n), some (.ref S.length), some (.int i), none]) (fun k => S ++ [.lst (intsD (fnL (n + 1) (uf p i f k)))]) (fun _ => trivial) ((List.range (n + 1 - i)).map fun k => .int ((i : Int) + (k : Nat))) 0 ?_
  · simp only [List.length_map, List.length_range, Nat.zero_add] at run
    rw [uf_0 h1 h2, uf_n h1 h2 hin] at run
    simp [s_for, r, run, -Option.map_bind]
  · intro k d hd
    obtain ⟨hk, rfl⟩ := rng_get hd
    rw [Nat.zero_add]
    have g1 : atI (intsD (fnL (n + 1) (uf p i f k))) ((i : Int) + k) = some (.int (uf p i f k (i + k))) := by
      rw [show (i : Int) + k = ((i + k : Nat) : Int) by omega, at_nat, fnL_get (by omega)]
    have c2 : (i : Int) + k - i = k := by omega
    have g2 : (intsD (fnL (n + 1) (uf p i f k)))[k]? = some (.int (uf p i f k k)) := fnL_get (by omega)
    have gx : ixN (n + 1) ((i : Int) + k) = some (i + k) := by rw [show (i : Int) + k = ((i + k : Nat) : Int) by omega, ix_nat, if_pos (by omega)]
    have m := uf_mul h1 h2 hn hi (show k ≤ n by omega) he hf
    have st := fnL_set (n + 1) (uf p i f k) (i + k) (up p i f (i + k))
    rw [up_upF h1 h2] at st
    have v := up_val h1 h2 (k := k) (f := f) hi
    exact ⟨_, _, rfl, (by simp [g1, c2, g2, m, gx, fnL_len, v, st]; rfl), by simp⟩
/-- place falling: found[place] - found[place - i] -/
def df (i n : Nat) (f : Nat → Int) (k t : Nat) : Int := if n < t + k then dn i f t else f t
theorem kin_dn {T : Nat → Fn} {n i : Nat} {f : Nat → Int} (hn : n ≤ 20) (hi : 0 < i) (hin : i ≤ n) (S : Store) : 
    evalS T (.for_ [4] (.nm 4) (.rng (.cons (.var 1) (.cons (.bin false .sub (.var 3) (.int 1)) (.cons (.neg (.int 1)) .nil))))
       (.six (.var 2) (.var 4) (.bin false .sub (.idx (.var 2) (.var 4)) (.idx (.var 2) (.bin false .sub (.var 4) (.var 3))))))
      [some (.int p), some (.int n), some (.ref S.length), some (.int i), none] (S ++ [.lst (intsD (fnL (n + 1) f))]) = some (.nx, [some (.int p), some (.int n), some (.ref S.length), some (.int i), none], S ++ [.lst (intsD (fnL (n + 1) (dn i f)))]) := by
  have r := rng3 (a := (n : Int)) (b := (i : Int) - 1) (by omega) (by omega) (by omega) (by omega)
  rw [show ((n : Int) - (i - 1)).toNat = n + 1 - i by omega] at r
  have run := forL_run (body := evalS T (.six (.var 2) (.var 4) (.bin false .sub (.idx (.var 2) (.var 4)) (.idx (.var 2) (.bin false .sub (.var 4) (.var 3))))))
    (src := .tup ((List.range (n + 1 - i)).map fun k => .int ((n : Int) - (k : Nat)))) (all := (List.range (n + 1 - i)).map fun k => .int ((n : Int) - (k : Nat))) (tg := .nm 4) (w := [4])
    (fun _ => [some (.int p), some (.int n), some (.ref S.length), some (.int i), none]) (fun k => S ++ [.lst (intsD (fnL (n + 1) (df i n f k)))]) (fun _ => trivial) ((List.range (n + 1 - i)).map fun k => .int ((n : Int) - (k : Nat))) 0 ?_
  · simp only [List.length_map, List.length_range, Nat.zero_add] at run
    have e0 : fnL (n + 1) (df i n f 0) = fnL (n + 1) f := fnL_congr fun t ht => by
      unfold df
      rw [if_neg (by omega)]
    have e1 : fnL (n + 1) (df i n f (n + 1 - i)) = fnL (n + 1) (dn i f) := fnL_congr fun t ht => by
      unfold df
      by_cases h : n < t + (n + 1 - i)
      · rw [if_pos h]
      · rw [if_neg h]
        unfold dn
        rw [if_neg (by omega), Int.sub_zero]
    rw [e0, e1] at run
    simp [s_for, r, run, -Option.map_bind]
  · intro k d hd
    obtain ⟨hk, rfl⟩ := rng_get hd
    rw [Nat.zero_add]
    have g1 : atI (intsD (fnL (n + 1) (df i n f k))) ((n : Int) - k) = some (.int (f (n - k))) := by
      rw [show (n : Int) - k = ((n - k : Nat) : Int) by omega, at_nat, fnL_get (by omega)]
      unfold df
      rw [if_neg (by omega)]
    have g2 : atI (intsD (fnL (n + 1) (df i n f k))) ((n : Int) - k - i) = some (.int (f (n - k - i))) := by
      rw [show (n : Int) - k - i = ((n - k - i : Nat) : Int) by omega, at_nat, fnL_get (by omega)]
      unfold df
      rw [if_neg (by omega)]
    have gx : ixN (n + 1) ((n : Int) - k) = some (n - k) := by rw [show (n : Int) - k = ((n - k : Nat) : Int) by omega, ix_nat, if_pos (by omega)]
    have st := fnL_set (n + 1) (df i n f k) (n - k) (dn i f (n - k))
    have e : fnL (n + 1) (upF (df i n f k) (n - k) (dn i f (n - k))) = fnL (n + 1) (df i n f (k + 1)) := fnL_congr fun t ht => by
      unfold upF df
      by_cases h : t = n - k
      · rw [if_pos h, if_pos (by omega), h]
      · rw [if_neg h]
        by_cases h2 : n < t + k
        · rw [if_pos h2, if_pos (by omega)]
        · rw [if_neg h2, if_neg (by omega)]
    rw [e] at st
    have v : f (n - k) - f (n - k - i) = dn i f (n - k) := by
      unfold dn
      rw [if_pos (by omega)]
    exact ⟨_, _, rfl, (by simp [g1, g2, gx, fnL_len, v, st]; rfl), by simp⟩
theorem kin_ok {n : Nat} (hn : n ≤ 20) (S : Store) : F_kinds_number [.int p, .int n] S = some (.int (Wk p n n), S) := by
  obtain ⟨T, hT⟩ : ∃ T, T = tb [F_power_of, F_group_size, F_series_times] := ⟨_, rfl⟩
  have r := rng2 (a := 1) (b := (n : Int) + 1) (by omega) (by omega) (by omega) (by omega)
  rw [show ((n : Int) + 1 - 1).toNat = n by omega] at r
  have run := forL_run (body := evalS T (.for_ [4] (.nm 4) (.rng (.cons (.var 3) (.cons (.bin false .add (.var 1) (.int 1)) .nil)))
       (.six (.var 2) (.var 4) (.bin false .add (.idx (.var 2) (.var 4)) (.bin false .mul (.var 0) (.idx (.var 2) (.bin false .sub (.var 4) (.var 3))))))))
    (src := .tup ((List.range n).map fun i => .int (1 + (i : Nat)))) (all := (List.range n).map fun i => .int (1 + (i : Nat))) (tg := .nm 3) (w := [3, 4])
    (fun _ => [some (.int p), some (.int n), some (.ref S.length), none, none]) (fun i => S ++ [.lst (intsD (fnL (n + 1) (Wk p i)))]) (fun _ => trivial) ((List.range n).map fun i => .int (1 + (i : Nat))) 0 ?_
  · simp only [List.length_map, List.length_range, Nat.zero_add] at run
    have e1 : intsD (fnL (n + 1) (Wk p 0)) = intsD (fnL (n + 1) one0) := rfl
    rw [e1] at run
    have g : (intsD (fnL (n + 1) (Wk p n)))[n]? = some (.int (Wk p n n)) := fnL_get (by omega)
    refine run_gc rfl ⟨[some (.int p), some (.int n), some (.ref S.length), none, none], ?_⟩ (gc_drop S [.lst (intsD (fnL (n + 1) (Wk p n)))] (.int (Wk p n n)) rfl)
    rw [← hT]
    exact seq_nx (s_set_of (e_init (N := n) (by omega) (x := (n : Int)) (by simp) rfl)) (by simp [s_for, r, run, g, -Option.map_bind])
  · intro i d hd
    obtain ⟨hi, rfl⟩ := rng_get hd
    rw [Nat.zero_add]
    have k := kin_up h1 h2 (T := T) (n := n) (i := i + 1) (e := i) (f := Wk p i) hn (by omega) (by omega) (by omega) (Bd_Wk h1 i) S
    rw [show ((i + 1 : Nat) : Int) = 1 + (i : Int) by omega] at k
    exact ⟨_, _, rfl, k, rfl⟩
theorem inv_ok {n : Nat} (hn : n ≤ 20) (S : Store) : F_invertible_kinds_number [.int p, .int n] S = some (.int (Ik p n n), S) := by
  obtain ⟨T, hT⟩ : ∃ T, T = tb [F_power_of, F_group_size, F_series_times, F_kinds_number] := ⟨_, rfl⟩
  have r := rng2 (a := 1) (b := (n : Int) + 1) (by omega) (by omega) (by omega) (by omega)
  rw [show ((n : Int) + 1 - 1).toNat = n by omega] at r
  have run := forL_run (body := evalS T (.seq (.for_ [4] (.nm 4) (.rng (.cons (.var 1) (.cons (.bin false .sub (.var 3) (.int 1)) (.cons (.neg (.int 1)) .nil))))
       (.six (.var 2) (.var 4) (.bin false .sub (.idx (.var 2) (.var 4)) (.idx (.var 2) (.bin false .sub (.var 4) (.var 3)))))) <|
     .for_ [4] (.nm 4) (.rng (.cons (.var 3) (.cons (.bin false .add (.var 1) (.int 1)) .nil)))
       (.six (.var 2) (.var 4) (.bin false .add (.idx (.var 2) (.var 4)) (.bin false .mul (.var 0) (.idx (.var 2) (.bin false .sub (.var 4) (.var 3))))))))
    (src := .tup ((List.range n).map fun i => .int (1 + (i : Nat)))) (all := (List.range n).map fun i => .int (1 + (i : Nat))) (tg := .nm 3) (w := [3, 4])
    (fun _ => [some (.int p), some (.int n), some (.ref S.length), none, none]) (fun i => S ++ [.lst (intsD (fnL (n + 1) (Ik p i)))]) (fun _ => trivial) ((List.range n).map fun i => .int (1 + (i : Nat))) 0 ?_
  · simp only [List.length_map, List.length_range, Nat.zero_add] at run
    have e1 : intsD (fnL (n + 1) (Ik p 0)) = intsD (fnL (n + 1) one0) := rfl
    rw [e1] at run
    have g : (intsD (fnL (n + 1) (Ik p n)))[n]? = some (.int (Ik p n n)) := fnL_get (by omega)
    refine run_gc rfl ⟨[some (.int p), some (.int n), some (.ref S.length), none, none], ?_⟩ (gc_drop S [.lst (intsD (fnL (n + 1) (Ik p n)))] (.int (Ik p n n)) rfl)
    rw [← hT]
    exact seq_nx (s_set_of (e_init (N := n) (by omega) (x := (n : Int)) (by simp) rfl)) (by simp [s_for, r, run, g, -Option.map_bind])
  · intro i d hd
    obtain ⟨hi, rfl⟩ := rng_get hd
    rw [Nat.zero_add]
    have k1 := kin_dn h1 h2 (T := T) (n := n) (i := i + 1) (f := Ik p i) hn (by omega) (by omega) S
    have k2 := kin_up h1 h2 (T := T) (n := n) (i := i + 1) (e := 2 * i + 1) (f := dn (i + 1) (Ik p i)) hn (by omega) (by omega) (by omega) (Bd_dn h1 (Bd_Ik h1 i)) S
    rw [show ((i + 1 : Nat) : Int) = 1 + (i : Int) by omega] at k1 k2
    exact ⟨_, _, rfl, seq_nx k1 k2, rfl⟩
end
end K32
/-! K32R: what is due. -/
namespace K32
open Eng Kit31
theorem at_m1 (n : Nat) (f : Nat → Int) : atI (intsD (fnL (n + 1) f)) (-1) = some (.int (f n)) := by
  unfold atI ixN
  rw [intsD_len, fnL_len, if_neg (by omega), if_pos (by omega)]
  simp only [Option.bind_some]
  rw [show (-1 + ((n + 1 : Nat) : Int)).toNat = n by omega, fnL_get (by omega)]
def rowsD (p : Int) (k : Nat) : List D := (List.range k).map fun m => .lv (intsD (fnL (m + 1) (G p m)))
theorem rows_get {p : Int} {k m : Nat} (h : m < k) : (rowsD p k)[m]? = some (.lv (intsD (fnL (m + 1) (G p m)))) := by
  unfold rowsD
  rw [List.getElem?_map, List.getElem?_range h]
  rfl
theorem rows_len (p : Int) (k : Nat) : (rowsD p k).length = k := by simp [rowsD]
theorem rows_m1 (p : Int) (k : Nat) : atI (rowsD p (k + 1)) (-1) = some (.lv (intsD (fnL (k + 1) (G p k)))) := by
  unfold atI ixN
  rw [rows_len, if_neg (by omega), if_pos (by omega)]
  simp only [Option.bind_some]
  rw [show (-1 + ((k + 1 : Nat) : Int)).toNat = k by omega, rows_get (by omega)]
theorem cloL_of {m : Nat} : ∀ {l : List D}, (∀ d ∈ l, clo m d = true) → cloL m l = true
  | [], _ => rfl
  | d :: l, h => by
    show (clo m d && cloL m l) = true
    rw [h d (by simp), cloL_of fun d hd => h d (by simp [hd])]
    rfl
theorem rows_clo (p : Int) (k m : Nat) : cloL m (rowsD p k) = true := cloL_of fun d hd => by
  unfold rowsD at hd
  obtain ⟨j, _, rfl⟩ := List.mem_map.mp hd
  exact cloL_ints m _
def pw (p : Int) (k : Nat) : Int := p ^ k
section
variable {p : Int} (h1 : 2 ≤ p) (h2 : p < 1024)
include h1 h2
theorem lpw_ok {k : Nat} (hk : k ≤ 1000) (S : Store) : F_l_powers [.int p, .int k] S = some (.lv (intsD (fnL (k + 1) (pw p))), S) := by
  obtain ⟨T, hT⟩ : ∃ T, T = tb [F_power_of, F_group_size, F_series_times, F_kinds_number, F_invertible_kinds_number, F_falls, F_commuting_number, F_nought_pairs_number, F_l_bag, F_l_draw, F_l_pick, F_l_prime] := ⟨_, rfl⟩
  have r := rng1 (show k < 2 ^ 62 by omega)
  have run := forL_run (body := evalS T (.ex (.app (.var 2) (.bin false .mul (.idx (.var 2) (.neg (.int 1))) (.var 0)))))
    (src := .tup ((List.range k).map fun i => .int (i : Nat))) (all := (List.range k).map fun i => .int (i : Nat)) (tg := .nm 3) (w := [3])
    (fun _ => [some (.int p), some (.int k), some (.ref S.length), none]) (fun i => S ++ [.lst (intsD (fnL (i + 1) (pw p)))]) (fun _ => trivial) ((List.range k).map fun i => .int (i : Nat)) 0 ?_
  · simp only [List.length_map, List.length_range, Nat.zero_add] at run
    have e0 : intsD (fnL 1 (pw p)) = [.int 1] := by simp [fnL, intsD, pw]
    rw [e0] at run
    exact run_gc rfl ⟨_, by rw [← hT]; simp [b_l_powers, s_for, r, run, -Option.map_bind]; rfl⟩ (gc_ints S _)
  · intro i d hd
    obtain ⟨hi, rfl⟩ := rng_get hd
    rw [Nat.zero_add]
    have g := at_m1 i (pw p)
    have m : mulOk (pw p i) p := (pow_mu h1 h2 (show i ≤ 40000 by omega)).mul (Mu.small (by omega) (by omega))
    have v : pw p i * p = pw p (i + 1) := (Int.pow_succ p i).symm
    have st := fnL_app (i + 1) (pw p)
    have lt : i + 1 < 1000000 := by omega
    exact ⟨_, _, rfl, (by simp [g, m, v, fnL_len, lt, st]; rfl), by simp⟩
theorem llots_ok {n P : Nat} (hn : n ≤ 20) (hP : n < P) (S : Store) : F_l_lots [.lv (intsD (fnL P (pw p))), .int n] S = some (.lv (rowsD p (n + 1)), S) := by
  obtain ⟨T, hT⟩ : ∃ T, T = tb [F_power_of, F_group_size, F_series_times, F_kinds_number, F_invertible_kinds_number, F_falls, F_commuting_number, F_nought_pairs_number, F_l_bag, F_l_draw, F_l_pick, F_l_prime, F_l_powers] := ⟨_, rfl⟩
  have r := rng2 (a := 1) (b := (n : Int) + 1) (by omega) (by omega) (by omega) (by omega)
  rw [show ((n : Int) + 1 - 1).toNat = n by omega] at r
  have run := forL_run (body := evalS T (.seq (.set 4 (.bin false .add (.idx (.var 2) (.neg (.int 1))) (.lst false (.cons (.int 0) .nil)))) <|
     .ex (.app (.var 2) (.bin false .add (.lst false (.cons (.int 1) .nil)) (.comp false [5] (.rng (.cons (.int 1) (.cons (.bin false .add (.var 3) (.int 1)) .nil))) (.nm 5) .no (.bin false .add (.idx (.var 4) (.bin false .sub (.var 5) (.int 1))) (.bin false .mul (.idx (.var 0) (.var 5)) (.idx (.var 4) (.var 5)))))))))
    (src := .tup ((List.range n).map fun i => .int (1 + (i : Nat)))) (all := (List.range n).map fun i => .int (1 + (i : Nat))) (tg := .nm 3) (w := [3, 4])
    (fun _ => [some (.lv (intsD (fnL P (pw p)))), some (.int n), some (.ref S.length), none, none, none]) (fun i => S ++ [.lst (rowsD p (i + 1))]) (fun _ => trivial) ((List.range n).map fun i => .int (1 + (i : Nat))) 0 ?_
  · simp only [List.length_map, List.length_range, Nat.zero_add] at run
    have e0 : rowsD p 1 = [.lv [.int 1]] := by simp [rowsD, fnL, intsD]
    rw [e0] at run
    exact run_gc rfl ⟨_, by rw [← hT]; simp [b_l_lots, s_for, r, run, -Option.map_bind]; rfl⟩ (gc_new S _ (rows_clo p _ _))
  · intro i d hd
    obtain ⟨hi, rfl⟩ := rng_get hd
    rw [Nat.zero_add]
    obtain ⟨S1, hS1⟩ : ∃ S1, S1 = S ++ [.lst (rowsD p (i + 1))] := ⟨_, rfl⟩
    have g := rows_m1 p i
    have la : ∀ S, binD S .add (.lv (intsD (fnL (i + 1) (G p i)))) (.lv [.int 0]) = some (.lv (intsD (fnL (i + 2) (G p i)))) := fun S => by
      rw [add_lv, if_pos (by simp [fnL_len]; omega)]
      have := fnL_app (i + 1) (G p i)
      rw [G_gt p i (i + 1) (by omega)] at this
      rw [this]
    have r2 := rng2 (a := 1) (b := 1 + (i : Int) + 1) (by omega) (by omega) (by omega) (by omega)
    rw [show (1 + (i : Int) + 1 - 1).toNat = i + 1 by omega] at r2
    obtain ⟨v, hv⟩ : ∃ v : Env, v = [some (.lv (intsD (fnL P (pw p)))), some (.int n), some (.ref S.length), some (.int (1 + (i : Int))), some (.lv (intsD (fnL (i + 2) (G p i)))), none] := ⟨_, rfl⟩
    have cr := compL_run (src := .tup ((List.range (i + 1)).map fun k => .int (1 + (k : Nat)))) (all := (List.range (i + 1)).map fun k => .int (1 + (k : Nat))) (tg := .nm 5) (v := v) (S := S1) (c := evalE T .no) (e := evalE T (.bin false .add (.idx (.var 4) (.bin false .sub (.var 5) (.int 1))) (.bin false .mul (.idx (.var 0) (.var 5)) (.idx (.var 4) (.var 5)))))
      (fun j => .int (G p (i + 1) (j + 1))) (fun _ => trivial) ((List.range (i + 1)).map fun k => .int (1 + (k : Nat))) 0 [] (by simp; omega) ?_
    · simp only [List.length_map, List.length_range, Nat.zero_add, List.nil_append] at cr
      have er : (List.range (i + 1)).map (fun j => D.int (G p (i + 1) (j + 1))) = intsD (fnL (i + 1) fun j => G p (i + 1) (j + 1)) := by
        unfold intsD fnL
        rw [List.map_map]
        rfl
      rw [er] at cr
      have gg := gc_ints S1 (fnL (i + 1) fun j => G p (i + 1) (j + 1))
      have ad : ∀ S, binD S .add (.lv [.int 1]) (.lv (intsD (fnL (i + 1) fun j => G p (i + 1) (j + 1)))) = some (.lv (intsD (fnL (i + 2) (G p (i + 1))))) := fun S => by
        rw [add_lv, if_pos (by simp [fnL_len]; omega)]
        congr 2
        show .int 1 :: intsD (fnL (i + 1) fun j => G p (i + 1) (j + 1)) = _
        unfold fnL
        rw [List.range_succ_eq_map (n := i + 1)]
        simp [intsD]
      have st : rowsD p (i + 1) ++ [.lv (intsD (fnL (i + 2) (G p (i + 1))))] = rowsD p (i + 2) := by
        unfold rowsD
        rw [List.range_succ (n := i + 1)]
        simp
      have lt : i + 1 < 1000000 := by omega
      have le : i + 1 ≤ 1000000 := by omega
      have E1 : evalS T (.set 4 (.bin false .add (.idx (.var 2) (.neg (.int 1))) (.lst false (.cons (.int 0) .nil)))) [some (.lv (intsD (fnL P (pw p)))), some (.int n), some (.ref S.length), some (.int (1 + (i : Int))), none, none] S1 = some (.nx, v, S1) := by
        rw [hv, hS1]
        simp [g, la]
      have wv' : wipeE v [5] = v := by rw [hv]; rfl
      have E2 : evalE T (.comp false [5] (.rng (.cons (.int 1) (.cons (.bin false .add (.var 3) (.int 1)) .nil))) (.nm 5) .no (.bin false .add (.idx (.var 4) (.bin false .sub (.var 5) (.int 1))) (.bin false .mul (.idx (.var 0) (.var 5)) (.idx (.var 4) (.var 5))))) v S1 = some (.lv (intsD (fnL (i + 1) fun j => G p (i + 1) (j + 1))), S1) := by
        have : evalE T (.rng (.cons (.int 1) (.cons (.bin false .add (.var 3) (.int 1)) .nil))) v S1 = some (.tup ((List.range (i + 1)).map fun k => .int (1 + (k : Nat))), S1) := by
          rw [hv]
          simp [r2]
        rw [e_comp, this, bd_some, wv']
        show (itemsOf S1 _).bd _ = _
        rw [it_tup', bd_some, if_pos (by simp; omega)]
        show (compL _ _ _ _ _ _ _ _ _).bd _ = _
        rw [cr, bd_some]
        exact gg
      have E3 : evalE T (.bin false .add (.lst false (.cons (.int 1) .nil)) (.comp false [5] (.rng (.cons (.int 1) (.cons (.bin false .add (.var 3) (.int 1)) .nil))) (.nm 5) .no (.bin false .add (.idx (.var 4) (.bin false .sub (.var 5) (.int 1))) (.bin false .mul (.idx (.var 0) (.var 5)) (.idx (.var 4) (.var 5)))))) v S1 = some (.lv (intsD (fnL (i + 2) (G p (i + 1)))), S1) := by
        have a : evalE T (.lst false (.cons (.int 1) .nil)) v S1 = some (.lv [.int 1], S1) := by simp
        rw [e_bin, a, bd_some]
        show (evalE T (.comp _ _ _ _ _ _) v S1).bd _ = _
        rw [E2, bd_some]
        show (binD S1 _ _ _).map _ = _
        rw [ad]
        rfl
      have E4 : evalS T (.ex (.app (.var 2) (.bin false .add (.lst false (.cons (.int 1) .nil)) (.comp false [5] (.rng (.cons (.int 1) (.cons (.bin false .add (.var 3) (.int 1)) .nil))) (.nm 5) .no (.bin false .add (.idx (.var 4) (.bin false .sub (.var 5) (.int 1))) (.bin false .mul (.idx (.var 0) (.var 5)) (.idx (.var 4) (.var 5)))))))) v S1 = some (.nx, v, S ++ [.lst (rowsD p (i + 2))]) := by
        have a : evalE T (.var 2) v S1 = some (.ref S.length, S1) := by rw [hv]; simp
        have b : isL S1 (.ref S.length) = true := by rw [hS1]; simp
        rw [s_ex, e_app, a, bd_some]
        show Option.map _ (if isL S1 (.ref S.length) = true then _ else none) = _
        rw [if_pos b]
        show Option.map _ (Option.bd (evalE T _ v S1) _) = _
        rw [E3, bd_some]
        show Option.map _ (appS (.ref S.length) _ S1) = _
        rw [hS1]
        simp [rows_len, lt, st]
      rw [← hS1]
      exact ⟨_, v, rfl, seq_nx E1 E4, by rw [hv]; rfl⟩
    · intro j d hd acc
      obtain ⟨hj, rfl⟩ := rng_get hd
      rw [Nat.zero_add, hv]
      have c1 : 1 + (j : Int) - 1 = j := by omega
      have g1 : (intsD (fnL (i + 2) (G p i)))[j]? = some (.int (G p i j)) := fnL_get (by omega)
      have g2 : atI (intsD (fnL (i + 2) (G p i))) (1 + (j : Int)) = some (.int (G p i (j + 1))) := by
        rw [show 1 + (j : Int) = ((j + 1 : Nat) : Int) by omega, at_nat, fnL_get (by omega)]
      have g3 : atI (intsD (fnL P (pw p))) (1 + (j : Int)) = some (.int (pw p (j + 1))) := by
        rw [show 1 + (j : Int) = ((j + 1 : Nat) : Int) by omega, at_nat, fnL_get (by omega)]
      have m : mulOk (pw p (j + 1)) (G p i (j + 1)) := (pow_mu h1 h2 (show j + 1 ≤ 40000 by omega)).mul (G_mu h1 h2 (by omega))
      have v : G p i j + pw p (j + 1) * G p i (j + 1) = G p (i + 1) (j + 1) := rfl
      exact ⟨_, rfl, rfl, by simp [c1, g1, g2, g3, m, v]⟩
end
end K32
/-! K32S: what is due, of the pairs that commute. -/
namespace K32
open Eng Kit31
theorem ex_all : (List.range 21).all (fun n => (List.range (n + 1)).all fun k => Nat.ble (ex k) (n * n + 20)) = true := by decide +kernel
theorem ex_le2 {n k : Nat} (hn : n ≤ 20) (hk : k ≤ n) : ex k < n * n + 20 + 1 := by
  have h := List.all_eq_true.mp ex_all n (List.mem_range.mpr (by omega))
  exact Nat.lt_succ_of_le (Nat.le_of_ble_eq_true (List.all_eq_true.mp h k (List.mem_range.mpr (by omega))))
def Rl (p : Int) (n a : Nat) : Store := .lst (intsD (fnL (n + 1) (Lq p))) :: (List.range (a + 1)).map fun b => .lst (intsD (fnL (n + 1) (ser p b)))
theorem at_ge {l : List Int} {f : Nat → Int} {n t : Nat} {z : Int} (h : z = t) (ht : t < n) : atI (intsD (fnL n f)) z = some (.int (f t)) := by
  rw [h, at_nat, fnL_get ht]
theorem at_fn {f : Nat → Int} {n t : Nat} {z : Int} (h : z = t) (ht : t < n) : atI (intsD (fnL n f)) z = some (.int (f t)) := by
  rw [h, at_nat, fnL_get ht]
section
variable {p : Int} (h1 : 2 ≤ p) (h2 : p < 1024)
include h1 h2
theorem lows_ok {T : Nat → Fn} {n P : Nat} {x1 : Option D} {vs : Env} (hn : n ≤ 20) (hP : n < P) (S : Store) : evalS T (.for_ [4] (.nm 4) (.rng (.cons (.int 1) (.cons (.bin false .add (.var 2) (.int 1)) .nil)))
    (.ex (.app (.var 3) (.bin false .mul (.idx (.var 3) (.neg (.int 1))) (.bin false .sub (.idx (.var 0) (.var 4)) (.int 1))))))
    (some (.lv (intsD (fnL P (pw p)))) :: x1 :: some (.int n) :: some (.ref S.length) :: none :: vs) (S ++ [.lst [.int 1]]) = some (.nx, some (.lv (intsD (fnL P (pw p)))) :: x1 :: some (.int n) :: some (.ref S.length) :: none :: vs, S ++ [.lst (intsD (fnL (n + 1) (Lq p)))]) := by
  have r := rng2 (a := 1) (b := (n : Int) + 1) (by omega) (by omega) (by omega) (by omega)
  rw [show ((n : Int) + 1 - 1).toNat = n by omega] at r
  have run := forL_run (body := evalS T (.ex (.app (.var 3) (.bin false .mul (.idx (.var 3) (.neg (.int 1))) (.bin false .sub (.idx (.var 0) (.var 4)) (.int 1))))))
    (src := .tup ((List.range n).map fun i => .int (1 + (i : Nat)))) (all := (List.range n).map fun i => .int (1 + (i : Nat))) (tg := .nm 4) (w := [4])
    (fun _ => some (.lv (intsD (fnL P (pw p)))) :: x1 :: some (.int n) :: some (.ref S.length) :: none :: vs) (fun i => S ++ [.lst (intsD (fnL (i + 1) (Lq p)))]) (fun _ => trivial) ((List.range n).map fun i => .int (1 + (i : Nat))) 0 ?_
  · simp only [List.length_map, List.length_range, Nat.zero_add] at run
    have e0 : intsD (fnL 1 (Lq p)) = [.int 1] := by simp [fnL, intsD]
    rw [e0] at run
    simp [s_for, r, run, -Option.map_bind]
  · intro i d hd
    obtain ⟨hi, rfl⟩ := rng_get hd
    rw [Nat.zero_add]
    have g := at_m1 i (Lq p)
    have g3 : atI (intsD (fnL P (pw p))) (1 + (i : Int)) = some (.int (pw p (i + 1))) := at_fn (by omega) (by omega)
    have l := Lq_pos h1 i
    have q := sq20 (a := i) (b := i) h1 (by omega) (by omega)
    have m : mulOk (Lq p i) (pw p (i + 1) - 1) := (Mu.of (by omega) h2 (Int.le_of_lt l.1) l.2 (by omega)).mul (by
      have := dif_mu (p := p) h1 h2 (n := i + 1) (i := 0) (by omega) (by omega)
      rwa [Int.pow_zero] at this)
    have v : Lq p i * (pw p (i + 1) - 1) = Lq p (i + 1) := rfl
    have st := fnL_app (i + 1) (Lq p)
    have lt : i + 1 < 1000000 := by omega
    exact ⟨_, _, rfl, (by simp [g, g3, m, v, fnL_len, lt, st]; rfl), by simp⟩
/-- one number of the later series -/
theorem ser_in {T : Nat → Fn} {n m a L0 L1 : Nat} {x7 : Option D} (hn : n ≤ 20) (ha : a < n) (hm : m ≤ n) (S : Store) (hl : S[L0]? = some (.lst (intsD (fnL (n + 1) (Lq p))))) (hs : S[L1]? = some (.lst (intsD (fnL (n + 1) (ser p a))))) :
    evalS T (.for_ [10, 11] (.nm 10) (.rng (.cons (.bin false .add (.bin false .fdiv (.var 8) (.var 6)) (.int 1)) .nil))
          (.seq (.set 11 (.bin false .mul (.idx (.var 0) (.bin false .add (.var 10) (.bin false .fdiv (.bin false .mul (.var 10) (.bin false .add (.var 10) (.int 1))) (.int 2)))) (.bin false .fdiv (.idx (.var 3) (.bin false .mul (.var 6) (.var 10))) (.idx (.var 3) (.var 10))))) <|
           .set 9 (.bin false .add (.var 9) (.bin false .mul (.bin false .mul (.idx (.var 5) (.bin false .sub (.var 8) (.bin false .mul (.var 6) (.var 10)))) (.var 11)) (.idx (.idx (.var 1) (.var 8)) (.bin false .mul (.var 6) (.var 10)))))))
      [some (.lv (intsD (fnL (n * n + 20 + 1) (pw p)))), some (.lv (rowsD p (n + 1))), some (.int n), some (.ref L0), none, some (.ref L1), some (.int (1 + (a : Int))), x7, some (.int m), some (.int 0), none, none] S =
    some (.nx, [some (.lv (intsD (fnL (n * n + 20 + 1) (pw p)))), some (.lv (rowsD p (n + 1))), some (.int n), some (.ref L0), none, some (.ref L1), some (.int (1 + (a : Int))), x7, some (.int m), some (.int (ser p (a + 1) m)), none, none], S) := by
  obtain ⟨q, hq⟩ : ∃ q, q = m / (a + 1) := ⟨_, rfl⟩
  have hqn : q ≤ m := by
    rw [hq]
    exact Nat.div_le_self m (a + 1)
  have cq : (m : Int) / (1 + (a : Int)) = (q : Int) := by
    rw [hq]
    push_cast
    rw [Int.add_comm]
  have dq : divOk (m : Int) (1 + (a : Int)) := divOk_small (by omega) (by omega)
  have r2 : rngL [.int ((q : Int) + 1)] = some ((List.range (q + 1)).map fun i => .int (i : Nat)) := rng1 (b := q + 1) (by omega)
  have run := forL_run (body := evalS T (.seq (.set 11 (.bin false .mul (.idx (.var 0) (.bin false .add (.var 10) (.bin false .fdiv (.bin false .mul (.var 10) (.bin false .add (.var 10) (.int 1))) (.int 2)))) (.bin false .fdiv (.idx (.var 3) (.bin false .mul (.var 6) (.var 10))) (.idx (.var 3) (.var 10))))) <|
           .set 9 (.bin false .add (.var 9) (.bin false .mul (.bin false .mul (.idx (.var 5) (.bin false .sub (.var 8) (.bin false .mul (.var 6) (.var 10)))) (.var 11)) (.idx (.idx (.var 1) (.var 8)) (.bin false .mul (.var 6) (.var 10)))))))
    (src := .tup ((List.range (q + 1)).map fun i => .int (i : Nat))) (all := (List.range (q + 1)).map fun i => .int (i : Nat)) (tg := .nm 10) (w := [10, 11])
    (fun k => [some (.lv (intsD (fnL (n * n + 20 + 1) (pw p)))), some (.lv (rowsD p (n + 1))), some (.int n), some (.ref L0), none, some (.ref L1), some (.int (1 + (a : Int))), x7, some (.int m), some (.int (sm (fun k => ser p a (m - (a + 1) * k) * trm p (a + 1) k * G p m ((a + 1) * k)) k)), none, none])
    (fun _ => S) (fun _ => trivial) ((List.range (q + 1)).map fun i => .int (i : Nat)) 0 ?_
  · simp only [List.length_map, List.length_range, Nat.zero_add, sm_zero] at run
    have es : ser p (a + 1) m = sm (fun k => ser p a (m - (a + 1) * k) * trm p (a + 1) k * G p m ((a + 1) * k)) (q + 1) := by rw [hq]; rfl
    rw [es]
    simp [s_for, dq, cq, r2, run, -Option.map_bind]
  · intro k d hd
    obtain ⟨hk, rfl⟩ := rng_get hd
    rw [Nat.zero_add]
    have hik : (a + 1) * k ≤ m := by
      rw [hq] at hk
      exact le_div (by omega) hk
    have hkk : k ≤ (a + 1) * k := le_mul1 (by omega)
    have ca : (1 + (a : Int)) * k = (((a + 1) * k : Nat) : Int) := by
      push_cast
      rw [Int.add_comm]
    have m1 : mulOk (k : Int) ((k : Int) + 1) := (Mu.small (by omega) (by omega)).mul (Mu.small (by omega) (by omega))
    have m2 : mulOk (1 + (a : Int)) (k : Int) := (Mu.small (by omega) (by omega)).mul (Mu.small (by omega) (by omega))
    have d2 : divOk ((k : Int) * ((k : Int) + 1)) 2 := divOk_small (by decide) (by decide)
    have g1 : atI (intsD (fnL (n * n + 20 + 1) (pw p))) ((k : Int) + (k : Int) * ((k : Int) + 1) / 2) = some (.int (pw p (ex k))) := at_fn (ex_cast k).symm (ex_le2 hn (by omega))
    have g2 : atI (intsD (fnL (n + 1) (Lq p))) ((1 + (a : Int)) * k) = some (.int (Lq p ((a + 1) * k))) := at_fn ca (by omega)
    have g3 : (intsD (fnL (n + 1) (Lq p)))[k]? = some (.int (Lq p k)) := fnL_get (by omega)
    have g4 : atI (intsD (fnL (n + 1) (ser p a))) ((m : Int) - (1 + (a : Int)) * k) = some (.int (ser p a (m - (a + 1) * k))) := at_fn (by rw [ca]; omega) (by omega)
    have g5 : (rowsD p (n + 1))[m]? = some (.lv (intsD (fnL (m + 1) (G p m)))) := rows_get (by omega)
    have g6 : atI (intsD (fnL (m + 1) (G p m))) ((1 + (a : Int)) * k) = some (.int (G p m ((a + 1) * k))) := at_fn ca (by omega)
    have l := Lq_pos h1 k
    have s4 := sq20 (a := k) (b := k) h1 (by omega) (by omega)
    have d1 : divOk (Lq p ((a + 1) * k)) (Lq p k) := div_p (by omega) h2 l.1 l.2 (by omega)
    have tl := trm_le h1 (i := a + 1) (k := k) (by omega) (by omega)
    have te : pw p (ex k) * (Lq p ((a + 1) * k) / Lq p k) = trm p (a + 1) k := rfl
    have f2 := fl_pos h1 k ((a + 1) * k - k)
    have f3 := sq20 (a := (a + 1) * k - k) (b := k + ((a + 1) * k - k)) h1 (by omega) (by omega)
    have qe := Lq_quot h1 hkk
    have m3 : mulOk (pw p (ex k)) (Lq p ((a + 1) * k) / Lq p k) := by
      rw [qe]
      exact (pow_mu h1 h2 (by have := ex_le (show k ≤ 20 by omega); omega)).mul (Mu.of (by omega) h2 (Int.le_of_lt f2.1) f2.2 (by omega))
    have sl := ser_le h1 a (by omega) (m - (a + 1) * k) (by omega)
    have m4 : mulOk (ser p a (m - (a + 1) * k)) (trm p (a + 1) k) := (Mu.of (by omega) h2 sl.1 sl.2 (by omega)).mul (Mu.of (by omega) h2 tl.1 tl.2 (by omega))
    have st := mul_pp h1 sl.1 sl.2 tl.1 tl.2
    have m5 : mulOk (ser p a (m - (a + 1) * k) * trm p (a + 1) k) (G p m ((a + 1) * k)) := (Mu.of (by omega) h2 st.1 st.2 (by omega)).mul (G_mu h1 h2 (by omega))
    exact ⟨_, _, rfl, (by simp [m1, m2, d2, g1, hl, g2, g3, d1, te, m3, hs, g4, m4, g5, g6, m5, -Option.map_bind]; rfl), by simp [sm]⟩
theorem mser_in {T : Nat → Fn} {n a L0 L1 : Nat} (hn : n ≤ 20) (ha : a < n) (S : Store) (hl : S[L0]? = some (.lst (intsD (fnL (n + 1) (Lq p))))) (hs : S[L1]? = some (.lst (intsD (fnL (n + 1) (ser p a))))) :
    evalS T (.for_ [8, 9, 10, 11] (.nm 8) (.rng (.cons (.bin false .add (.var 2) (.int 1)) .nil))
       (.seq (.set 9 (.int 0)) <|
        .seq (.for_ [10, 11] (.nm 10) (.rng (.cons (.bin false .add (.bin false .fdiv (.var 8) (.var 6)) (.int 1)) .nil))
          (.seq (.set 11 (.bin false .mul (.idx (.var 0) (.bin false .add (.var 10) (.bin false .fdiv (.bin false .mul (.var 10) (.bin false .add (.var 10) (.int 1))) (.int 2)))) (.bin false .fdiv (.idx (.var 3) (.bin false .mul (.var 6) (.var 10))) (.idx (.var 3) (.var 10))))) <|
           .set 9 (.bin false .add (.var 9) (.bin false .mul (.bin false .mul (.idx (.var 5) (.bin false .sub (.var 8) (.bin false .mul (.var 6) (.var 10)))) (.var 11)) (.idx (.idx (.var 1) (.var 8)) (.bin false .mul (.var 6) (.var 10))))))) <|
        .ex (.app (.var 7) (.var 9))))
      [some (.lv (intsD (fnL (n * n + 20 + 1) (pw p)))), some (.lv (rowsD p (n + 1))), some (.int n), some (.ref L0), none, some (.ref L1), some (.int (1 + (a : Int))), some (.ref S.length), none, none, none, none] (S ++ [.lst []]) =
    some (.nx, [some (.lv (intsD (fnL (n * n + 20 + 1) (pw p)))), some (.lv (rowsD p (n + 1))), some (.int n), some (.ref L0), none, some (.ref L1), some (.int (1 + (a : Int))), some (.ref S.length), none, none, none, none], S ++ [.lst (intsD (fnL (n + 1) (ser p (a + 1))))]) := by
  have r : rngL [.int ((n : Int) + 1)] = some ((List.range (n + 1)).map fun i => .int (i : Nat)) := rng1 (b := n + 1) (by omega)
  have run := forL_run (body := evalS T (.seq (.set 9 (.int 0)) <|
        .seq (.for_ [10, 11] (.nm 10) (.rng (.cons (.bin false .add (.bin false .fdiv (.var 8) (.var 6)) (.int 1)) .nil))
          (.seq (.set 11 (.bin false .mul (.idx (.var 0) (.bin false .add (.var 10) (.bin false .fdiv (.bin false .mul (.var 10) (.bin false .add (.var 10) (.int 1))) (.int 2)))) (.bin false .fdiv (.idx (.var 3) (.bin false .mul (.var 6) (.var 10))) (.idx (.var 3) (.var 10))))) <|
           .set 9 (.bin false .add (.var 9) (.bin false .mul (.bin false .mul (.idx (.var 5) (.bin false .sub (.var 8) (.bin false .mul (.var 6) (.var 10)))) (.var 11)) (.idx (.idx (.var 1) (.var 8)) (.bin false .mul (.var 6) (.var 10))))))) <|
        .ex (.app (.var 7) (.var 9))))
    (src := .tup ((List.range (n + 1)).map fun i => .int (i : Nat))) (all := (List.range (n + 1)).map fun i => .int (i : Nat)) (tg := .nm 8) (w := [8, 9, 10, 11])
    (fun _ => [some (.lv (intsD (fnL (n * n + 20 + 1) (pw p)))), some (.lv (rowsD p (n + 1))), some (.int n), some (.ref L0), none, some (.ref L1), some (.int (1 + (a : Int))), some (.ref S.length), none, none, none, none])
    (fun m => S ++ [.lst (intsD (fnL m (ser p (a + 1))))]) (fun _ => trivial) ((List.range (n + 1)).map fun i => .int (i : Nat)) 0 ?_
  · simp only [List.length_map, List.length_range, Nat.zero_add] at run
    have e0 : intsD (fnL 0 (ser p (a + 1))) = [] := rfl
    rw [e0] at run
    simp [s_for, r, run, -Option.map_bind]
  · intro m d hd
    obtain ⟨hm, rfl⟩ := rng_get hd
    rw [Nat.zero_add]
    have ll : L0 < S.length := (List.getElem?_eq_some_iff.mp hl).1
    have ls : L1 < S.length := (List.getElem?_eq_some_iff.mp hs).1
    have k := ser_in h1 h2 (T := T) (m := m) (x7 := some (.ref S.length)) hn ha (by omega) (S ++ [.lst (intsD (fnL m (ser p (a + 1))))]) (by rw [List.getElem?_append_left ll]; exact hl) (by rw [List.getElem?_append_left ls]; exact hs)
    have st := fnL_app m (ser p (a + 1))
    have lt : m < 1000000 := by omega
    exact ⟨_, _, rfl, seq_nx (by simp) (seq_nx k (by simp [fnL_len, lt, st]; rfl)), rfl⟩
theorem tri_cast (n : Nat) : (n : Int) * ((n : Int) - 1) / 2 = ((tri n : Nat) : Int) := by
  rw [← tri_eq]
  cases n with
  | zero => rfl
  | succ m =>
    push_cast
    rw [show ((m : Int) + 1 - 1) = m by omega]
theorem mul_sm {x y : Int} (hx : x.natAbs < 2 ^ 64) (hy : y.natAbs < 2 ^ 64) : mulOk x y := mulOk_of hx hy (by decide) (by decide) (by decide)
theorem lcom_ok {n : Nat} (hn : n ≤ 20) (S : Store) : F_l_commuting [.lv (intsD (fnL (n * n + 20 + 1) (pw p))), .lv (rowsD p (n + 1)), .int n] S = some (.int (p ^ tri n * ser p n n), S) := by
  obtain ⟨T, hT⟩ : ∃ T, T = tb [F_power_of, F_group_size, F_series_times, F_kinds_number, F_invertible_kinds_number, F_falls, F_commuting_number, F_nought_pairs_number, F_l_bag, F_l_draw, F_l_pick, F_l_prime, F_l_powers, F_l_lots] := ⟨_, rfl⟩
  have r := rng2 (a := 1) (b := (n : Int) + 1) (by omega) (by omega) (by omega) (by omega)
  rw [show ((n : Int) + 1 - 1).toNat = n by omega] at r
  have run := forL_run (body := evalS T (.seq (.set 7 (.lst true .nil)) <|
     .seq (.for_ [8, 9, 10, 11] (.nm 8) (.rng (.cons (.bin false .add (.var 2) (.int 1)) .nil))
       (.seq (.set 9 (.int 0)) <|
        .seq (.for_ [10, 11] (.nm 10) (.rng (.cons (.bin false .add (.bin false .fdiv (.var 8) (.var 6)) (.int 1)) .nil))
          (.seq (.set 11 (.bin false .mul (.idx (.var 0) (.bin false .add (.var 10) (.bin false .fdiv (.bin false .mul (.var 10) (.bin false .add (.var 10) (.int 1))) (.int 2)))) (.bin false .fdiv (.idx (.var 3) (.bin false .mul (.var 6) (.var 10))) (.idx (.var 3) (.var 10))))) <|
           .set 9 (.bin false .add (.var 9) (.bin false .mul (.bin false .mul (.idx (.var 5) (.bin false .sub (.var 8) (.bin false .mul (.var 6) (.var 10)))) (.var 11)) (.idx (.idx (.var 1) (.var 8)) (.bin false .mul (.var 6) (.var 10))))))) <|
        .ex (.app (.var 7) (.var 9)))) <|
     .set 5 (.var 7)))
    (src := .tup ((List.range n).map fun i => .int (1 + (i : Nat)))) (all := (List.range n).map fun i => .int (1 + (i : Nat))) (tg := .nm 6) (w := [6, 7, 8, 9, 10, 11])
    (fun a => [some (.lv (intsD (fnL (n * n + 20 + 1) (pw p)))), some (.lv (rowsD p (n + 1))), some (.int n), some (.ref S.length), none, some (.ref (S.length + 1 + a)), none, none, none, none, none, none])
    (fun a => S ++ Rl p n a) (fun _ => trivial) ((List.range n).map fun i => .int (1 + (i : Nat))) 0 ?_
  · simp only [List.length_map, List.length_range, Nat.zero_add, Nat.add_zero] at run
    have e0 : S ++ Rl p n 0 = S ++ [.lst (intsD (fnL (n + 1) (Lq p)))] ++ [.lst (intsD (fnL (n + 1) one0))] := by
      simp [Rl]
      rfl
    rw [e0] at run
    have E1 : evalS T (.set 3 (.lst true (.cons (.int 1) .nil))) [some (.lv (intsD (fnL (n * n + 20 + 1) (pw p)))), some (.lv (rowsD p (n + 1))), some (.int n), none, none, none, none, none, none, none, none, none] S = some (.nx, [some (.lv (intsD (fnL (n * n + 20 + 1) (pw p)))), some (.lv (rowsD p (n + 1))), some (.int n), some (.ref S.length), none, none, none, none, none, none, none, none], S ++ [.lst [.int 1]]) := by simp
    have hP : n < n * n + 20 + 1 := by
      have : n ≤ n * n + 20 := by
        have := Nat.le_mul_self n
        omega
      omega
    have E2 := lows_ok h1 h2 (T := T) (x1 := some (.lv (rowsD p (n + 1)))) (vs := [none, none, none, none, none, none, none]) hn hP S
    have E3 : evalS T (.set 5 (.bin true .add (.lst false (.cons (.int 1) .nil)) (.bin false .mul (.lst false (.cons (.int 0) .nil)) (.var 2)))) [some (.lv (intsD (fnL (n * n + 20 + 1) (pw p)))), some (.lv (rowsD p (n + 1))), some (.int n), some (.ref S.length), none, none, none, none, none, none, none, none] (S ++ [.lst (intsD (fnL (n + 1) (Lq p)))]) = some (.nx, [some (.lv (intsD (fnL (n * n + 20 + 1) (pw p)))), some (.lv (rowsD p (n + 1))), some (.int n), some (.ref S.length), none, some (.ref (S.length + 1)), none, none, none, none, none, none], S ++ [.lst (intsD (fnL (n + 1) (Lq p)))] ++ [.lst (intsD (fnL (n + 1) one0))]) := by
      have := s_set_of (i := 5) (e_init (T := T) (m := true) (e := .var 2) (v := [some (.lv (intsD (fnL (n * n + 20 + 1) (pw p)))), some (.lv (rowsD p (n + 1))), some (.int n), some (.ref S.length), none, none, none, none, none, none, none, none]) (S := S ++ [.lst (intsD (fnL (n + 1) (Lq p)))]) (N := n) (by omega) (x := (n : Int)) (by simp) rfl)
      simpa using this
    have g1 : atI (intsD (fnL (n * n + 20 + 1) (pw p))) ((n : Int) * ((n : Int) - 1) / 2) = some (.int (pw p (tri n))) := at_fn (tri_cast h1 h2 n) (by
      have e := tri_eq n
      have : n * (n - 1) ≤ n * n := Nat.mul_le_mul_left n (by omega)
      omega)
    have g2 : (S ++ Rl p n n)[S.length + 1 + n]? = some (.lst (intsD (fnL (n + 1) (ser p n)))) := by
      rw [List.getElem?_append_right (by omega), show S.length + 1 + n - S.length = n + 1 by omega]
      show ((List.range (n + 1)).map _)[n]? = _
      rw [List.getElem?_map, List.getElem?_range (by omega)]
      rfl
    have g3 : (intsD (fnL (n + 1) (ser p n)))[n]? = some (.int (ser p n n)) := fnL_get (by omega)
    have m1 : mulOk (n : Int) ((n : Int) - 1) := mul_sm h1 h2 (by omega) (by omega)
    have d1 : divOk ((n : Int) * ((n : Int) - 1)) 2 := divOk_small (by decide) (by decide)
    have sl := ser_le h1 n hn n hn
    have m2 : mulOk (pw p (tri n)) (ser p n n) := (pow_mu h1 h2 (k := tri n) (by
      have e := tri_eq n
      have : n * (n - 1) ≤ n * n := Nat.mul_le_mul_left n (by omega)
      have := sq20 h1 hn hn
      omega)).mul (Mu.of (by omega) h2 sl.1 sl.2 (by omega))
    have pe : pw p (tri n) = p ^ tri n := rfl
    rw [pe] at m2
    refine run_gc rfl ⟨[some (.lv (intsD (fnL (n * n + 20 + 1) (pw p)))), some (.lv (rowsD p (n + 1))), some (.int n), some (.ref S.length), none, some (.ref (S.length + 1 + n)), none, none, none, none, none, none], ?_⟩ (gc_drop S (Rl p n n) (.int (p ^ tri n * ser p n n)) rfl)
    rw [← hT]
    refine seq_nx E1 (seq_nx E2 (seq_nx E3 (seq_nx (S1 := S ++ Rl p n n) (v1 := [some (.lv (intsD (fnL (n * n + 20 + 1) (pw p)))), some (.lv (rowsD p (n + 1))), some (.int n), some (.ref S.length), none, some (.ref (S.length + 1 + n)), none, none, none, none, none, none]) ?_ ?_)))
    · simp only [List.append_assoc, List.cons_append, List.nil_append] at run
      simp [s_for, r, run, -Option.map_bind]
    · simp [m1, d1, g1, g2, g3, m2, pe]
  · intro a d hd
    obtain ⟨ha, rfl⟩ := rng_get hd
    rw [Nat.zero_add]
    obtain ⟨S1, hS1⟩ : ∃ S1, S1 = S ++ Rl p n a := ⟨_, rfl⟩
    have hl1 : S1.length = S.length + 1 + (a + 1) := by rw [hS1]; simp [Rl]; omega
    have hS2 : S ++ Rl p n (a + 1) = S1 ++ [.lst (intsD (fnL (n + 1) (ser p (a + 1))))] := by
      rw [hS1]
      unfold Rl
      rw [List.range_succ (n := a + 1)]
      simp
    have hl : S1[S.length]? = some (.lst (intsD (fnL (n + 1) (Lq p)))) := by
      rw [hS1, List.getElem?_append_right (Nat.le_refl _), Nat.sub_self]
      rfl
    have hs : S1[S.length + 1 + a]? = some (.lst (intsD (fnL (n + 1) (ser p a)))) := by
      rw [hS1, List.getElem?_append_right (by omega), show S.length + 1 + a - S.length = a + 1 by omega]
      show ((List.range (a + 1)).map _)[a]? = _
      rw [List.getElem?_map, List.getElem?_range (by omega)]
      rfl
    have k := mser_in h1 h2 (T := T) hn ha S1 hl hs
    rw [hS2, ← hS1]
    exact ⟨_, _, rfl, seq_nx (by simp) (seq_nx k (by simp; rfl)), by rw [hl1]; rfl⟩
end
end K32
/-! K32T: what is due, all four; what is told. -/
namespace K32
open Eng Kit31
def due (p : Int) (n : Nat) : List Int := [p ^ tri n * ser p n n, nouV p n, Wk p n n, Dk (Wk p n) n n]
section
variable {p : Int} (h1 : 2 ≤ p) (h2 : p < 1024)
include h1 h2
theorem lnou_ok {n : Nat} (hn : n ≤ 20) (S : Store) : F_l_nought_pairs [.lv (intsD (fnL (n * n + 20 + 1) (pw p))), .lv (rowsD p (n + 1)), .int n] S = some (.int (nouV p n), S) := by
  obtain ⟨T, hT⟩ : ∃ T, T = tb [F_power_of, F_group_size, F_series_times, F_kinds_number, F_invertible_kinds_number, F_falls, F_commuting_number, F_nought_pairs_number, F_l_bag, F_l_draw, F_l_pick, F_l_prime, F_l_powers, F_l_lots, F_l_commuting] := ⟨_, rfl⟩
  have r : rngL [.int ((n : Int) + 1)] = some ((List.range (n + 1)).map fun i => .int (i : Nat)) := rng1 (b := n + 1) (by omega)
  have run := forL_run (body := evalS T (.seq (.set 4 (.bin false .add (.var 4) (.bin false .mul (.bin false .mul (.idx (.idx (.var 1) (.var 2)) (.var 3)) (.var 5)) (.idx (.var 0) (.bin false .mul (.var 2) (.bin false .sub (.var 2) (.var 3))))))) <|
     .set 5 (.bin false .mul (.var 5) (.bin false .sub (.idx (.var 0) (.var 2)) (.idx (.var 0) (.var 3))))))
    (src := .tup ((List.range (n + 1)).map fun i => .int (i : Nat))) (all := (List.range (n + 1)).map fun i => .int (i : Nat)) (tg := .nm 3) (w := [3])
    (fun i => [some (.lv (intsD (fnL (n * n + 20 + 1) (pw p)))), some (.lv (rowsD p (n + 1))), some (.int n), none, some (.int (sm (fun r => G p n r * gsz p n r * p ^ (n * (n - r))) i)), some (.int (gsz p n i))]) (fun _ => S) (fun _ => trivial) ((List.range (n + 1)).map fun i => .int (i : Nat)) 0 ?_
  · simp only [List.length_map, List.length_range, Nat.zero_add, sm_zero, gsz_zero] at run
    exact run_keep rfl ⟨_, by rw [← hT]; simp [b_l_nought_pairs, s_for, r, run, nouV, -Option.map_bind]; rfl⟩
  · intro i d hd
    obtain ⟨hi, rfl⟩ := rng_get hd
    rw [Nat.zero_add]
    have g1 : (rowsD p (n + 1))[n]? = some (.lv (intsD (fnL (n + 1) (G p n)))) := rows_get (by omega)
    have g2 : (intsD (fnL (n + 1) (G p n)))[i]? = some (.int (G p n i)) := fnL_get hi
    have nn := Nat.le_mul_self n
    have m3 : mulOk (n : Int) ((n : Int) - i) := (Mu.small (by omega) (by omega)).mul (Mu.small (by omega) (by omega))
    have c : (n : Int) * ((n : Int) - i) = ((n * (n - i) : Nat) : Int) := by
      push_cast
      rw [Int.ofNat_sub (by omega)]
    have nl : n * (n - i) ≤ n * n := Nat.mul_le_mul_left n (by omega)
    have g3 : atI (intsD (fnL (n * n + 20 + 1) (pw p))) ((n : Int) * ((n : Int) - i)) = some (.int (p ^ (n * (n - i)))) := at_fn c (by omega)
    have g4 : (intsD (fnL (n * n + 20 + 1) (pw p)))[n]? = some (.int (p ^ n)) := fnL_get (by omega)
    have g5 : (intsD (fnL (n * n + 20 + 1) (pw p)))[i]? = some (.int (p ^ i)) := fnL_get (by omega)
    have gm := gsz_mu h1 h2 hn (show i ≤ n by omega)
    have m1 := (G_mu h1 h2 (k := i) hn).mul gm
    have q4 := sq20 h1 hn hn
    have m2 := (Gg_mu h1 h2 hn (show i ≤ n by omega)).mul (pow_mu h1 h2 (show n * (n - i) ≤ 40000 by omega))
    have m4 := gm.mul (dif_mu h1 h2 hn (show i ≤ n by omega))
    exact ⟨_, _, rfl, (by simp [g1, g2, m3, g3, g4, g5, m1, m2, m4, -Option.map_bind]; rfl), by simp [sm, gsz]⟩
theorem lkin_up {T : Nat → Fn} {n i e : Nat} {f : Nat → Int} (hn : n ≤ 20) (hi : 0 < i) (hin : i ≤ n) (he : e ≤ 100) (hf : Bd p e f) (S : Store) : 
    evalS T (.for_ [5] (.nm 5) (.rng (.cons (.var 3) (.cons (.bin false .add (.var 1) (.int 1)) .nil)))
       (.six (.var 2) (.var 5) (.bin false .add (.idx (.var 2) (.var 5)) (.bin false .mul (.var 0) (.idx (.var 2) (.bin false .sub (.var 5) (.var 3)))))))
      [some (.int p), some (.int n), some (.ref S.length), some (.int i), none, none, none] (S ++ [.lst (intsD (fnL (n + 1) f))]) = some (.nx, [some (.int p), some (.int n), some (.ref S.length), some (.int i), none, none, none], S ++ [.lst (intsD (fnL (n + 1) (up p i f)))]) := by
  have r := rng2 (a := (i : Int)) (b := (n : Int) + 1) (by omega) (by omega) (by omega) (by omega)
  rw [show ((n : Int) + 1 - i).toNat = n + 1 - i by omega] at r
  have run := forL_run (body := evalS T (.six (.var 2) (.var 5) (.bin false .add (.idx (.var 2) (.var 5)) (.bin false .mul (.var 0) (.idx (.var 2) (.bin false .sub (.var 5) (.var 3)))))))
    (src := .tup ((List.range (n + 1 - i)).map fun k => .int ((i : Int) + (k : Nat)))) (all := (List.range (n + 1 - i)).map fun k => .int ((i : Int) + (k : Nat))) (tg := .nm 5) (w := [5])
    (fun _ => [some (.int p), some (.int n), some (.ref S.length), some (.int i), none, none, none]) (fun k => S ++ [.lst (intsD (fnL (n + 1) (uf p i f k)))]) (fun _ => trivial) ((List.range (n + 1 - i)).map fun k => .int ((i : Int) + (k : Nat))) 0 ?_
  · simp only [List.length_map, List.length_range, Nat.zero_add] at run
    rw [uf_0 h1 h2, uf_n h1 h2 hin] at run
    simp [s_for, r, run, -Option.map_bind]
  · intro k d hd
    obtain ⟨hk, rfl⟩ := rng_get hd
    rw [Nat.zero_add]
    have g1 : atI (intsD (fnL (n + 1) (uf p i f k))) ((i : Int) + k) = some (.int (uf p i f k (i + k))) := at_fn (by omega) (by omega)
    have c2 : (i : Int) + k - i = k := by omega
    have g2 : (intsD (fnL (n + 1) (uf p i f k)))[k]? = some (.int (uf p i f k k)) := fnL_get (by omega)
    have gx : ixN (n + 1) ((i : Int) + k) = some (i + k) := by rw [show (i : Int) + k = ((i + k : Nat) : Int) by omega, ix_nat, if_pos (by omega)]
    have m := uf_mul h1 h2 hn hi (show k ≤ n by omega) he hf
    have st := fnL_set (n + 1) (uf p i f k) (i + k) (up p i f (i + k))
    rw [up_upF h1 h2] at st
    have v := up_val h1 h2 (k := k) (f := f) hi
    exact ⟨_, _, rfl, (by simp [g1, c2, g2, m, gx, fnL_len, v, st]; rfl), by simp⟩
theorem less_in {T : Nat → Fn} {n i : Nat} {f : Nat → Int} {x0 x2 : Option D} (hn : n ≤ 20) (S : Store) :
    evalS T (.set 4 (.comp false [6] (.rng (.cons (.bin false .add (.var 1) (.int 1)) .nil)) (.nm 6) .no (.bin false .sub (.idx (.var 4) (.var 6)) (.ite (.cmp .ge (.var 6) (.var 3)) (.idx (.var 4) (.bin false .sub (.var 6) (.var 3))) (.int 0)))))
      [x0, some (.int n), x2, some (.int (1 + (i : Int))), some (.lv (intsD (fnL (n + 1) f))), none, none] S = some (.nx, [x0, some (.int n), x2, some (.int (1 + (i : Int))), some (.lv (intsD (fnL (n + 1) (dn (i + 1) f)))), none, none], S) := by
  have r : rngL [.int ((n : Int) + 1)] = some ((List.range (n + 1)).map fun i => .int (i : Nat)) := rng1 (b := n + 1) (by omega)
  have cr := compL_run (src := .tup ((List.range (n + 1)).map fun k => .int (k : Nat))) (all := (List.range (n + 1)).map fun k => .int (k : Nat)) (tg := .nm 6) (v := [x0, some (.int n), x2, some (.int (1 + (i : Int))), some (.lv (intsD (fnL (n + 1) f))), none, none]) (S := S) (c := evalE T .no)
    (e := evalE T (.bin false .sub (.idx (.var 4) (.var 6)) (.ite (.cmp .ge (.var 6) (.var 3)) (.idx (.var 4) (.bin false .sub (.var 6) (.var 3))) (.int 0))))
    (fun k => .int (dn (i + 1) f k)) (fun _ => trivial) ((List.range (n + 1)).map fun k => .int (k : Nat)) 0 [] (by simp; omega) ?_
  · simp only [List.length_map, List.length_range, Nat.zero_add, List.nil_append] at cr
    have er : (List.range (n + 1)).map (fun k => D.int (dn (i + 1) f k)) = intsD (fnL (n + 1) (dn (i + 1) f)) := by
      unfold intsD fnL
      rw [List.map_map]
      rfl
    rw [er] at cr
    have gg := gc_ints S (fnL (n + 1) (dn (i + 1) f))
    have lt : n + 1 ≤ 1000000 := by omega
    simp [e_comp, r, cr, gg, lt, -Option.map_bind]
  · intro k d hd acc
    obtain ⟨hk, rfl⟩ := rng_get hd
    rw [Nat.zero_add]
    have g1 : (intsD (fnL (n + 1) f))[k]? = some (.int (f k)) := fnL_get hk
    by_cases h : i + 1 ≤ k
    · have g2 : atI (intsD (fnL (n + 1) f)) ((k : Int) - (1 + (i : Int))) = some (.int (f (k - (i + 1)))) := at_fn (by omega) (by omega)
      have c : 1 + (i : Int) ≤ k := by omega
      exact ⟨_, rfl, rfl, by simp [g1, c, g2, dn, h]⟩
    · have c : ¬ 1 + (i : Int) ≤ k := by omega
      exact ⟨_, rfl, rfl, by simp [g1, c, dn, h]⟩
theorem lkin_ok {n : Nat} (hn : n ≤ 20) (S : Store) : F_l_kinds [.int p, .int n] S = some (.lv [.int (Wk p n n), .int (Dk (Wk p n) n n)], S) := by
  obtain ⟨T, hT⟩ : ∃ T, T = tb [F_power_of, F_group_size, F_series_times, F_kinds_number, F_invertible_kinds_number, F_falls, F_commuting_number, F_nought_pairs_number, F_l_bag, F_l_draw, F_l_pick, F_l_prime, F_l_powers, F_l_lots, F_l_commuting, F_l_nought_pairs] := ⟨_, rfl⟩
  have r := rng2 (a := 1) (b := (n : Int) + 1) (by omega) (by omega) (by omega) (by omega)
  rw [show ((n : Int) + 1 - 1).toNat = n by omega] at r
  have run1 := forL_run (body := evalS T (.for_ [5] (.nm 5) (.rng (.cons (.var 3) (.cons (.bin false .add (.var 1) (.int 1)) .nil)))
       (.six (.var 2) (.var 5) (.bin false .add (.idx (.var 2) (.var 5)) (.bin false .mul (.var 0) (.idx (.var 2) (.bin false .sub (.var 5) (.var 3))))))))
    (src := .tup ((List.range n).map fun i => .int (1 + (i : Nat)))) (all := (List.range n).map fun i => .int (1 + (i : Nat))) (tg := .nm 3) (w := [3, 5])
    (fun _ => [some (.int p), some (.int n), some (.ref S.length), none, none, none, none]) (fun i => S ++ [.lst (intsD (fnL (n + 1) (Wk p i)))]) (fun _ => trivial) ((List.range n).map fun i => .int (1 + (i : Nat))) 0 ?_
  have run2 := forL_run (body := evalS T (.set 4 (.comp false [6] (.rng (.cons (.bin false .add (.var 1) (.int 1)) .nil)) (.nm 6) .no (.bin false .sub (.idx (.var 4) (.var 6)) (.ite (.cmp .ge (.var 6) (.var 3)) (.idx (.var 4) (.bin false .sub (.var 6) (.var 3))) (.int 0))))))
    (src := .tup ((List.range n).map fun i => .int (1 + (i : Nat)))) (all := (List.range n).map fun i => .int (1 + (i : Nat))) (tg := .nm 3) (w := [3])
    (fun i => [some (.int p), some (.int n), some (.ref S.length), none, some (.lv (intsD (fnL (n + 1) (Dk (Wk p n) i)))), none, none]) (fun _ => S ++ [.lst (intsD (fnL (n + 1) (Wk p n)))]) (fun _ => trivial) ((List.range n).map fun i => .int (1 + (i : Nat))) 0 ?_
  · simp only [List.length_map, List.length_range, Nat.zero_add] at run1 run2
    have e1 : intsD (fnL (n + 1) (Wk p 0)) = intsD (fnL (n + 1) one0) := rfl
    have e2 : intsD (fnL (n + 1) (Dk (Wk p n) 0)) = intsD (fnL (n + 1) (Wk p n)) := rfl
    rw [e1] at run1
    rw [e2] at run2
    have g1 : (intsD (fnL (n + 1) (Wk p n)))[n]? = some (.int (Wk p n n)) := fnL_get (by omega)
    have g2 : (intsD (fnL (n + 1) (Dk (Wk p n) n)))[n]? = some (.int (Dk (Wk p n) n n)) := fnL_get (by omega)
    refine run_gc rfl ⟨[some (.int p), some (.int n), some (.ref S.length), none, some (.lv (intsD (fnL (n + 1) (Dk (Wk p n) n)))), none, none], ?_⟩ (gc_drop S [.lst (intsD (fnL (n + 1) (Wk p n)))] (.lv [.int (Wk p n n), .int (Dk (Wk p n) n n)]) rfl)
    rw [← hT]
    exact seq_nx (s_set_of (e_init (N := n) (by omega) (x := (n : Int)) (by simp) rfl)) (by simp [s_for, r, run1, run2, g1, g2, -Option.map_bind])
  · intro i d hd
    obtain ⟨hi, rfl⟩ := rng_get hd
    rw [Nat.zero_add]
    exact ⟨_, _, rfl, less_in h1 h2 hn _, rfl⟩
  · intro i d hd
    obtain ⟨hi, rfl⟩ := rng_get hd
    rw [Nat.zero_add]
    have k := lkin_up h1 h2 (T := T) (n := n) (i := i + 1) (e := i) (f := Wk p i) hn (by omega) (by omega) (by omega) (Bd_Wk h1 i) S
    rw [show ((i + 1 : Nat) : Int) = 1 + (i : Int) by omega] at k
    exact ⟨_, _, rfl, k, rfl⟩
theorem dues_ok {n : Nat} (hn : n ≤ 20) (S : Store) : F_l_dues [.int p, .int n] S = some (.lv (intsD (due p n)), S) := by
  obtain ⟨T, hT⟩ : ∃ T, T = tb [F_power_of, F_group_size, F_series_times, F_kinds_number, F_invertible_kinds_number, F_falls, F_commuting_number, F_nought_pairs_number, F_l_bag, F_l_draw, F_l_pick, F_l_prime, F_l_powers, F_l_lots, F_l_commuting, F_l_nought_pairs, F_l_kinds] := ⟨_, rfl⟩
  have t12 : T 12 = F_l_powers := by rw [hT]; rfl
  have t13 : T 13 = F_l_lots := by rw [hT]; rfl
  have t14 : T 14 = F_l_commuting := by rw [hT]; rfl
  have t15 : T 15 = F_l_nought_pairs := by rw [hT]; rfl
  have t16 : T 16 = F_l_kinds := by rw [hT]; rfl
  have q4 := sq20 h1 hn hn
  have nn := Nat.le_mul_self n
  have e1 : F_l_powers [.int p, .int ((n : Int) * n + 20)] S = some (.lv (intsD (fnL (n * n + 20 + 1) (pw p))), S) := by
    have := lpw_ok h1 h2 (k := n * n + 20) (by omega) S
    have c : ((n * n + 20 : Nat) : Int) = (n : Int) * n + 20 := by simp
    rwa [c] at this
  have e2 := llots_ok h1 h2 (P := n * n + 20 + 1) hn (by omega) S
  have e3 := lcom_ok h1 h2 hn S
  have e4 := lnou_ok h1 h2 hn S
  have e5 := lkin_ok h1 h2 hn S
  have m : mulOk (n : Int) (n : Int) := (Mu.small (by omega) (by omega)).mul (Mu.small (by omega) (by omega))
  exact run_keep rfl ⟨_, by rw [← hT]; simp [b_l_dues, t12, t13, t14, t15, t16, m, e1, e2, e3, e4, e5, add_lv, due, -Option.map_bind]; rfl⟩
theorem told_ok {n : Nat} (hn : n ≤ 20) (b : Bool) (S : Store) : F_l_told [.int p, .int n, .bl b] S = some (.lv (intsD (due p n)), S) := by
  obtain ⟨T, hT⟩ : ∃ T, T = tb [F_power_of, F_group_size, F_series_times, F_kinds_number, F_invertible_kinds_number, F_falls, F_commuting_number, F_nought_pairs_number, F_l_bag, F_l_draw, F_l_pick, F_l_prime, F_l_powers, F_l_lots, F_l_commuting, F_l_nought_pairs, F_l_kinds, F_l_dues, F_l_through_one, F_l_through_two, F_l_gone_through] := ⟨_, rfl⟩
  have t3 : T 3 = F_kinds_number := by rw [hT]; rfl
  have t4 : T 4 = F_invertible_kinds_number := by rw [hT]; rfl
  have t6 : T 6 = F_commuting_number := by rw [hT]; rfl
  have t7 : T 7 = F_nought_pairs_number := by rw [hT]; rfl
  have e1 := com_ok h1 h2 hn S
  rw [com_eq h1] at e1
  have e2 := nou_ok h1 h2 hn S
  have e3 := kin_ok h1 h2 hn S
  have e4 := inv_ok h1 h2 hn S
  rw [Ik_Dk] at e4
  cases b with
  | true => exact run_keep rfl ⟨_, by rw [← hT]; simp [b_l_told, permD, t3, t4, t6, t7, e1, e2, e3, e4, due]; rfl⟩
  | false => exact run_keep rfl ⟨_, by rw [← hT]; simp [b_l_told, t3, t4, t6, t7, e1, e2, e3, e4, due]; rfl⟩
omit h1 h2 in
theorem same_ok (a b c d : Int) (S : Store) : F_l_are_same [.lv (intsD [a, b, c, d]), .lv (intsD [a, b, c, d])] S = some (.bl true, S) := by
  have r : rngL [.int 4] = some [.int 0, .int 1, .int 2, .int 3] := rng1 (b := 4) (by decide)
  exact run_keep rfl ⟨_, by simp [b_l_are_same, s_for, r]; rfl⟩
end
end K32
/-! KitF: comprehensions that keep some of a list; counts. -/
namespace Eng
open Kit31
theorem compL_filter {α : Type} {src : D} {all : List D} {tg : Tg} {v : Env} {S : Store} {c e : Env → Store → Option (D × Store)} (emb : α → D) (P : α → Bool) (hs : ∀ acc, stays src all (S ++ [.lst acc])) : ∀ (items : List α) (acc : List D), acc.length + items.length ≤ 1000000 →
    (∀ y, y ∈ items → ∀ acc, ∃ v1, bindT tg (emb y) v = some v1 ∧ c v1 (S ++ [.lst acc]) = some (.bl (P y), S ++ [.lst acc]) ∧ e v1 (S ++ [.lst acc]) = some (emb y, S ++ [.lst acc])) →
    compL src all tg v S.length c e (items.map emb) (S ++ [.lst acc]) = some (S ++ [.lst (acc ++ (items.filter P).map emb)])
  | [], acc, _, _ => by
    simp only [compL, List.map_nil]
    rw [if_pos (hs acc)]
    simp
  | d :: r, acc, hl, step => by
    obtain ⟨v1, h1, h2, h3⟩ := step d (by simp) acc
    have next : ∀ acc, acc.length + r.length ≤ 1000000 → compL src all tg v S.length c e (r.map emb) (S ++ [.lst acc]) = some (S ++ [.lst (acc ++ (r.filter P).map emb)]) := fun acc hl => compL_filter emb P hs r acc hl fun y hy => step y (by simp [hy])
    simp only [compL, List.map_cons]
    rw [if_pos (hs acc), h1]
    simp only [Option.bind_some]
    rw [h2]
    simp only [Option.bind_some]
    cases hp : P d with
    | false =>
      simp only
      rw [next acc (by simp at hl; omega), List.filter_cons_of_neg (by simp [hp])]
    | true =>
      simp only
      rw [h3]
      simp only [Option.bind_some]
      have e0 : (S ++ [O.lst acc])[S.length]? = some (.lst acc) := by
        rw [List.getElem?_append_right (Nat.le_refl _), Nat.sub_self]
        rfl
      rw [e0]
      simp only
      have hl' : acc.length < lenLine := by
        simp only [List.length_cons] at hl
        show acc.length < 1000000
        omega
      rw [if_pos hl']
      have e1 : (S ++ [O.lst acc]).set S.length (.lst (acc ++ [emb d])) = S ++ [.lst (acc ++ [emb d])] := by
        rw [List.set_append_right _ _ (Nat.le_refl _), Nat.sub_self]
        rfl
      rw [e1, next (acc ++ [emb d]) (by simp at hl ⊢; omega), List.filter_cons_of_pos hp]
      simp
theorem cloL_of {m : Nat} : ∀ {l : List D}, (∀ d ∈ l, clo m d = true) → cloL m l = true
  | [], _ => rfl
  | d :: l, h => by
    show (clo m d && cloL m l) = true
    rw [h d (by simp), cloL_of fun d hd => h d (by simp [hd])]
    rfl
/-- [x for x in .. if ..] -/
theorem comp_filter {T : Nat → Fn} {α : Type} (emb : α → D) (P : α → Bool) {own : List Nat} {it c : IE} {k : Nat} {v : Env} {S : Store} {src : D} {items : List α}
    (hemb : ∀ y m, clo m (emb y) = true) (hit : evalE T it v S = some (src, S)) (hi : itemsOf S src = some (items.map emb)) (hw : wipeE v own = v) (hl : items.length ≤ 1000000) (hk : k < v.length)
    (hs : ∀ acc, stays src (items.map emb) (S ++ [.lst acc]))
    (hc : ∀ y, y ∈ items → ∀ acc, evalE T c (v.set k (some (emb y))) (S ++ [.lst acc]) = some (.bl (P y), S ++ [.lst acc])) :
    evalE T (.comp false own it (.nm k) c (.var k)) v S = some (.lv ((items.filter P).map emb), S) := by
  have cr := compL_filter (src := src) (all := items.map emb) (tg := .nm k) (v := v) (S := S) (c := evalE T c) (e := evalE T (.var k)) emb P hs items [] (by simpa using hl) fun y hy acc =>
    ⟨v.set k (some (emb y)), rfl, hc y hy acc, by simp [hk]⟩
  rw [e_comp, hit, bd_some]
  show (itemsOf S src).bd _ = _
  rw [hi, bd_some, if_pos (by simpa using hl), hw]
  show (compL _ _ _ _ _ _ _ _ _).bd _ = _
  rw [cr, bd_some, List.nil_append]
  exact gc_new S _ (cloL_of fun d hd => by
    obtain ⟨y, _, rfl⟩ := List.mem_map.mp hd
    exact hemb y _)
theorem seq_nx {T : Nat → Fn} {a b : IS} {v v1 : Env} {S S1 : Store} {r : Option (Fl × Env × Store)} (ha : evalS T a v S = some (.nx, v1, S1)) (hb : evalS T b v1 S1 = r) : evalS T (.seq a b) v S = r := by
  rw [s_seq, ha]
  exact hb
theorem s_set_of {T : Nat → Fn} {i : Nat} {e : IE} {v : Env} {S S1 : Store} {d : D} (h : evalE T e v S = some (d, S1)) : evalS T (.set i e) v S = some (.nx, v.set i (some d), S1) := by
  rw [s_set, h]
  rfl
theorem s_setc_of {T : Nat → Fn} {i : Nat} {e : IE} {v : Env} {S S1 : Store} {d : D} (h : evalE T e v S = some (d, S1)) : evalS T (.setc i e) v S = some (.nx, v.set i (some d), S1) := by
  rw [s_setc, h]
  rfl
/-- small numbers -/
def Sml (x : Int) : Prop := 0 ≤ x ∧ x < 1000
theorem Sml.mul {x y : Int} (h1 : Sml x) (h2 : Sml y) : mulOk x y := (Fits.small (x := x) h1.1 (by have := h1.2; omega)).mul (Fits.small (x := y) h2.1 (by have := h2.2; omega))
/-! ### counts by the kernel -/
def cN (g : Nat → Bool) (n : Nat) : Nat := Nat.rec (motive := fun _ => Nat) 0 (fun i r => cond (g i) (Nat.succ r) r) n
theorem cN_s (g : Nat → Bool) (n : Nat) : cN g (n + 1) = cond (g n) (Nat.succ (cN g n)) (cN g n) := rfl
theorem len_filter (g : Nat → Bool) : ∀ n, ((List.range n).filter g).length = cN g n
  | 0 => rfl
  | n + 1 => by
    rw [List.range_succ, List.filter_append, List.length_append, len_filter g n, cN_s]
    cases h : g n <;> simp [h]
def sN (f : Nat → Nat) (n : Nat) : Nat := Nat.rec (motive := fun _ => Nat) 0 (fun i r => r + f i) n
theorem sN_s (f : Nat → Nat) (n : Nat) : sN f (n + 1) = sN f n + f n := rfl
theorem sm_sN (f : Nat → Int) (g : Nat → Nat) (h : ∀ i, f i = (g i : Int)) : ∀ n, sm f n = (sN g n : Int)
  | 0 => rfl
  | n + 1 => by
    show sm f n + f n = _
    rw [sm_sN f g h n, h n, sN_s]
    simp
/-- primes, by the kernel -/
def prN (p : Nat) : Bool := (List.range 30).all fun i => !(Nat.blt (2 + i) p) || !(Nat.beq (p % (2 + i)) 0)
theorem prN_of {p : Nat} (h : isPr p = true) : prN p = true := by
  unfold isPr at h
  unfold prN
  rw [List.all_eq_true] at h ⊢
  intro i hi
  by_cases hlt : 2 + i < p
  · have := h (decide ((p : Int) % (2 + (i : Nat)) ≠ 0)) (List.mem_filterMap.mpr ⟨i, hi, by rw [if_pos (by omega)]⟩)
    have h2 : (p : Int) % (2 + (i : Nat)) ≠ 0 := by simpa using this
    have h3 : p % (2 + i) ≠ 0 := by
      intro z
      apply h2
      have : ((p % (2 + i) : Nat) : Int) = 0 := by rw [z]; rfl
      simpa using this
    have e : Nat.beq (p % (2 + i)) 0 = false := Bool.eq_false_iff.mpr fun z => h3 (Nat.eq_of_beq_eq_true z)
    rw [e]
    simp
  · have e : Nat.blt (2 + i) p = false := Bool.eq_false_iff.mpr fun z => hlt (by simpa [Nat.blt_eq] using z)
    rw [e]
    simp
end Eng
/-! K32U: what is gone through. -/
namespace K32
open Eng Kit31
/-! ### one row -/
def ys (p : Nat) (x : Nat) : List Nat := (List.range p).filter fun y => beqI ((x : Int) * y % p) 0
def c1 (p x : Nat) : Int := ((ys p x).length : Int)
theorem one_ok {p : Nat} (h1 : 2 ≤ p) (h2 : p < 1000) (S : Store) : F_l_through_one [.int p] S = some (.lv [.int ((p : Int) * p), .int (sm (c1 p) p), .int p, .int ((p : Int) - 1)], S) := by
  obtain ⟨T, hT⟩ : ∃ T, T = tb [F_power_of, F_group_size, F_series_times, F_kinds_number, F_invertible_kinds_number, F_falls, F_commuting_number, F_nought_pairs_number, F_l_bag, F_l_draw, F_l_pick, F_l_prime, F_l_powers, F_l_lots, F_l_commuting, F_l_nought_pairs, F_l_kinds, F_l_dues] := ⟨_, rfl⟩
  have r := rng1 (show p < 2 ^ 62 by omega)
  have sp : Sml (p : Int) := ⟨by omega, by omega⟩
  have run := forL_run (body := evalS T (.set 1 (.bin false .add (.var 1) (.blt false .len (.cons (.comp false [3] (.rng (.cons (.var 0) .nil)) (.nm 3) (.cmp .eq (.bin false .mod (.blt false .int (.cons (.bin false .mul (.var 2) (.var 3)) .nil)) (.var 0)) (.int 0)) (.var 3)) .nil)))))
    (src := .tup ((List.range p).map fun i => .int (i : Nat))) (all := (List.range p).map fun i => .int (i : Nat)) (tg := .nm 2) (w := [2])
    (fun i => [some (.int p), some (.int (sm (c1 p) i)), none, none]) (fun _ => S) (fun _ => trivial) ((List.range p).map fun i => .int (i : Nat)) 0 ?_
  · simp only [List.length_map, List.length_range, Nat.zero_add, sm_zero] at run
    exact run_keep rfl ⟨_, by rw [← hT]; simp [b_l_through_one, s_for, r, run, sp.mul sp, -Option.map_bind]; rfl⟩
  · intro x d hd
    obtain ⟨hx, rfl⟩ := rng_get hd
    rw [Nat.zero_add]
    have cf := comp_filter (T := T) (fun y : Nat => D.int (y : Int)) (fun y => beqI ((x : Int) * y % p) 0) (own := [3]) (it := .rng (.cons (.var 0) .nil)) (c := .cmp .eq (.bin false .mod (.blt false .int (.cons (.bin false .mul (.var 2) (.var 3)) .nil)) (.var 0)) (.int 0)) (k := 3)
      (v := [some (.int p), some (.int (sm (c1 p) x)), some (.int x), none]) (S := S) (src := .tup ((List.range p).map fun i => .int (i : Nat))) (items := List.range p)
      (fun _ _ => rfl) (by simp [r]) rfl rfl (by simp; omega) (by simp) (fun _ => trivial) (fun y hy acc => by
        have hy' := List.mem_range.mp hy
        have m : mulOk (x : Int) (y : Int) := Sml.mul ⟨by omega, by omega⟩ ⟨by omega, by omega⟩
        have hp : 0 < p := by omega
        simp [m, hp, c_eq', -c_eq])
    refine ⟨_, _, rfl, s_set_of (d := .int (sm (c1 p) (x + 1))) ?_, rfl⟩
    rw [e_bin, e_var]
    show (some (D.int (sm (c1 p) x), S)).bd _ = _
    rw [bd_some]
    show (evalE T (.blt false .len (.cons _ .nil)) [some (.int p), some (.int (sm (c1 p) x)), some (.int x), none] S).bd _ = _
    rw [e_blt, e_cons, cf, bd_some]
    simp
    rfl
/-! ### two rows -/
abbrev Q : Type := Int × Int × Int × Int
def q2D (y : Q) : D := .tup [.int y.1, .int y.2.1, .int y.2.2.1, .int y.2.2.2]
def u2D (u : Int × Int) : D := .tup [.int u.1, .int u.2]
def tq (p i : Nat) : Q := ((i : Int) % p, (i : Int) / p % p, (i : Int) / ((p : Int) * p) % p, (i : Int) / ((p : Int) * p * p))
def uq (p i : Nat) : Int × Int := ((i : Int) % p, (i : Int) / p)
def tabs (p : Nat) : List Q := (List.range (p * p * p * p)).map (tq p)
def cols (p : Nat) : List (Int × Int) := (List.range (p * p)).map (uq p)
def isG (p : Nat) (y : Q) : Bool := !(beqI ((y.1 * y.2.2.2 - y.2.1 * y.2.2.1) % p) 0)
def pA (p : Nat) (x y : Q) : Bool := beqI ((x.2.1 * y.2.2.1 - x.2.2.1 * y.2.1) % p) 0
def pB (p : Nat) (x y : Q) : Bool := beqI ((x.1 * y.2.1 + x.2.1 * y.2.2.2 - y.1 * x.2.1 - y.2.1 * x.2.2.2) % p) 0
def pC (p : Nat) (x y : Q) : Bool := beqI ((x.2.2.1 * y.1 + x.2.2.2 * y.2.2.1 - y.2.2.1 * x.1 - y.2.2.2 * x.2.2.1) % p) 0
def pL (p : Nat) (x : Q) (u : Int × Int) : Bool := beqI ((x.1 * u.1 + x.2.1 * u.2) % p) 0 && beqI ((x.2.2.1 * u.1 + x.2.2.2 * u.2) % p) 0
def same (p : Nat) (x : Q) : List Q := ((((tabs p).filter (pA p x)).filter (pB p x)).filter (pC p x))
def lost (p : Nat) (x : Q) : List (Int × Int) := (cols p).filter (pL p x)
def able (p : Nat) (x : Q) : List Q := (same p x).filter (isG p)
def f0 (p i : Nat) : Int := ((same p (tq p i)).length : Int)
def f1 (p i : Nat) : Int := ((lost p (tq p i)).length : Int) * ((lost p (tq p i)).length : Int)
def f2 (p i : Nat) : Int := ((able p (tq p i)).length : Int)
def f3 (p i : Nat) : Int := if isG p (tq p i) then ((able p (tq p i)).length : Int) else 0
structure QS (y : Q) : Prop where
  a : Sml y.1
  b : Sml y.2.1
  c : Sml y.2.2.1
  d : Sml y.2.2.2
theorem e_lenC {T : Nat → Fn} {v : Env} {S : Store} {e : IE} {l : List D} (h : evalE T e v S = some (.lv l, S)) : evalE T (.blt false .len (.cons e .nil)) v S = some (.int l.length, S) := by
  rw [e_blt, e_cons, h, bd_some]
  simp
section
variable {p : Nat} (h1 : 2 ≤ p) (h2 : p < 4)
include h1 h2
theorem p4 : p * p * p * p ≤ 81 := by
  have : p = 2 ∨ p = 3 := by omega
  rcases this with rfl | rfl <;> decide
theorem tq_s {i : Nat} (hi : i < 81) : QS (tq p i) := by
  have z2 : (0 : Int) < (p : Int) * p := Int.mul_pos (by omega) (by omega)
  have z3 : (0 : Int) < (p : Int) * p * p := Int.mul_pos z2 (by omega)
  have a := Int.emod_lt_of_pos (i : Int) (show (0 : Int) < p by omega)
  have b := Int.emod_lt_of_pos ((i : Int) / p) (show (0 : Int) < p by omega)
  have c := Int.emod_lt_of_pos ((i : Int) / ((p : Int) * p)) (show (0 : Int) < p by omega)
  have d : (i : Int) / ((p : Int) * p * p) ≤ i := Int.ediv_le_self _ (by omega)
  exact ⟨⟨Int.emod_nonneg _ (by omega), by show (i : Int) % p < 1000; omega⟩, ⟨Int.emod_nonneg _ (by omega), by show (i : Int) / p % p < 1000; omega⟩, ⟨Int.emod_nonneg _ (by omega), by show (i : Int) / ((p : Int) * p) % p < 1000; omega⟩, ⟨Int.ediv_nonneg (by omega) (by omega), by show (i : Int) / ((p : Int) * p * p) < 1000; omega⟩⟩
theorem tabs_s {y : Q} (h : y ∈ tabs p) : QS y := by
  unfold tabs at h
  obtain ⟨i, hi, rfl⟩ := List.mem_map.mp h
  have := p4 h1 h2
  exact tq_s h1 h2 (by have := List.mem_range.mp hi; omega)
theorem cols_s {u : Int × Int} (h : u ∈ cols p) : Sml u.1 ∧ Sml u.2 := by
  unfold cols at h
  obtain ⟨i, hi, rfl⟩ := List.mem_map.mp h
  have hi := List.mem_range.mp hi
  have q2 : p * p ≤ 9 := by
    have : p = 2 ∨ p = 3 := by omega
    rcases this with rfl | rfl <;> decide
  have a := Int.emod_lt_of_pos (i : Int) (show (0 : Int) < p by omega)
  have d : (i : Int) / p ≤ i := Int.ediv_le_self _ (by omega)
  exact ⟨⟨Int.emod_nonneg _ (by omega), by show (i : Int) % p < 1000; omega⟩, ⟨Int.ediv_nonneg (by omega) (by omega), by show (i : Int) / p < 1000; omega⟩⟩
theorem tabs_len : (tabs p).length ≤ 81 := by
  have := p4 h1 h2
  simpa [tabs] using this
theorem cols_len : (cols p).length ≤ 81 := by
  have : p = 2 ∨ p = 3 := by omega
  rcases this with rfl | rfl <;> decide
/-- one turn of the great loop -/
theorem two_in {T : Nat → Fn} {x1 g : Option D} {L0 L1 : Nat} {x : Q} {a0 a1 a2 a3 : Int} (hx : QS x) (S : Store) (hl : L0 ≠ L1) (ht : S[L0]? = some (.lst ((tabs p).map q2D))) (hf : S[L1]? = some (.lst (intsD [a0, a1, a2, a3]))) :
    evalS T (.seq (.setc 10 (.comp false [15] (.itv (.var 4)) (.nm 15) (.cmp .eq (.bin false .mod (.blt false .int (.cons (.bin false .sub (.bin false .mul (.var 7) (.idx (.var 15) (.int 2))) (.bin false .mul (.var 8) (.idx (.var 15) (.int 1)))) .nil)) (.var 0)) (.int 0)) (.var 15))) <|
     .seq (.setc 10 (.comp false [15] (.itv (.var 10)) (.nm 15) (.cmp .eq (.bin false .mod (.blt false .int (.cons (.bin false .sub (.bin false .sub (.bin false .add (.bin false .mul (.var 6) (.idx (.var 15) (.int 1))) (.bin false .mul (.var 7) (.idx (.var 15) (.int 3)))) (.bin false .mul (.idx (.var 15) (.int 0)) (.var 7))) (.bin false .mul (.idx (.var 15) (.int 1)) (.var 9))) .nil)) (.var 0)) (.int 0)) (.var 15))) <|
     .seq (.setc 10 (.comp false [15] (.itv (.var 10)) (.nm 15) (.cmp .eq (.bin false .mod (.blt false .int (.cons (.bin false .sub (.bin false .sub (.bin false .add (.bin false .mul (.var 8) (.idx (.var 15) (.int 0))) (.bin false .mul (.var 9) (.idx (.var 15) (.int 2)))) (.bin false .mul (.idx (.var 15) (.int 2)) (.var 6))) (.bin false .mul (.idx (.var 15) (.int 3)) (.var 8))) .nil)) (.var 0)) (.int 0)) (.var 15))) <|
     .seq (.setc 11 (.comp false [16] (.itv (.var 2)) (.nm 16) (.and (.cmp .eq (.bin false .mod (.blt false .int (.cons (.bin false .add (.bin false .mul (.var 6) (.idx (.var 16) (.int 0))) (.bin false .mul (.var 7) (.idx (.var 16) (.int 1)))) .nil)) (.var 0)) (.int 0)) (.cmp .eq (.bin false .mod (.blt false .int (.cons (.bin false .add (.bin false .mul (.var 8) (.idx (.var 16) (.int 0))) (.bin false .mul (.var 9) (.idx (.var 16) (.int 1)))) .nil)) (.var 0)) (.int 0))) (.var 16))) <|
     .seq (.set 12 (.blt false .len (.cons (.comp false [15] (.itv (.var 10)) (.nm 15) (.cmp .ne (.bin false .mod (.blt false .int (.cons (.bin false .sub (.bin false .mul (.idx (.var 15) (.int 0)) (.idx (.var 15) (.int 3))) (.bin false .mul (.idx (.var 15) (.int 1)) (.idx (.var 15) (.int 2)))) .nil)) (.var 0)) (.int 0)) (.var 15)) .nil))) <|
     .seq (.sixs (.cons (.var 5) (.cons (.var 5) (.cons (.var 5) .nil))) (.cons (.int 0) (.cons (.int 1) (.cons (.int 2) .nil))) (.cons (.bin false .add (.idx (.var 5) (.int 0)) (.blt false .len (.cons (.var 10) .nil))) (.cons (.bin false .add (.idx (.var 5) (.int 1)) (.bin false .mul (.blt false .len (.cons (.var 11) .nil)) (.blt false .len (.cons (.var 11) .nil)))) (.cons (.bin false .add (.idx (.var 5) (.int 2)) (.var 12)) .nil)))) <|
     .six (.var 5) (.int 3) (.bin false .add (.idx (.var 5) (.int 3)) (.ite (.cmp .ne (.bin false .mod (.blt false .int (.cons (.bin false .sub (.bin false .mul (.var 6) (.var 9)) (.bin false .mul (.var 7) (.var 8))) .nil)) (.var 0)) (.int 0)) (.var 12) (.int 0))))
      [some (.int p), x1, some (.lv ((cols p).map u2D)), g, some (.ref L0), some (.ref L1), some (.int x.1), some (.int x.2.1), some (.int x.2.2.1), some (.int x.2.2.2), none, none, none, none, none, none, none] S =
    some (.nx, [some (.int p), x1, some (.lv ((cols p).map u2D)), g, some (.ref L0), some (.ref L1), some (.int x.1), some (.int x.2.1), some (.int x.2.2.1), some (.int x.2.2.2), some (.lv ((same p x).map q2D)), some (.lv ((lost p x).map u2D)), some (.int (able p x).length), none, none, none, none],
      S.set L1 (.lst (intsD [a0 + (same p x).length, a1 + ((lost p x).length : Int) * (lost p x).length, a2 + (able p x).length, a3 + if isG p x then ((able p x).length : Int) else 0]))) := by
  have tl := tabs_len h1 h2
  have l0 : L0 < S.length := (List.getElem?_eq_some_iff.mp ht).1
  have l1 : L1 < S.length := (List.getElem?_eq_some_iff.mp hf).1
  have hp : 0 < p := by omega
  have xa := hx.a
  have xb := hx.b
  have xc := hx.c
  have xd := hx.d
  have E1 : evalS T (.setc 10 (.comp false [15] (.itv (.var 4)) (.nm 15) (.cmp .eq (.bin false .mod (.blt false .int (.cons (.bin false .sub (.bin false .mul (.var 7) (.idx (.var 15) (.int 2))) (.bin false .mul (.var 8) (.idx (.var 15) (.int 1)))) .nil)) (.var 0)) (.int 0)) (.var 15)))
      [some (.int p), x1, some (.lv ((cols p).map u2D)), g, some (.ref L0), some (.ref L1), some (.int x.1), some (.int x.2.1), some (.int x.2.2.1), some (.int x.2.2.2), none, none, none, none, none, none, none] S = _ :=
    s_setc_of (comp_filter q2D (pA p x) (items := tabs p) (src := .ref L0) (fun _ _ => rfl) (by simp) (by simp [ht]) rfl (by omega) (by simp) (fun acc => by show (S ++ [_])[L0]? = _; rw [List.getElem?_append_left l0]; exact ht) (fun y hy acc => by
      have ys := tabs_s h1 h2 hy
      have ya := ys.a
      have yb := ys.b
      have yc := ys.c
      have yd := ys.d
      simp [q2D, pA, Sml.mul, xa, xb, xc, xd, ya, yb, yc, yd, hp, c_eq', -c_eq]))
  have E2 : evalS T (.setc 10 (.comp false [15] (.itv (.var 10)) (.nm 15) (.cmp .eq (.bin false .mod (.blt false .int (.cons (.bin false .sub (.bin false .sub (.bin false .add (.bin false .mul (.var 6) (.idx (.var 15) (.int 1))) (.bin false .mul (.var 7) (.idx (.var 15) (.int 3)))) (.bin false .mul (.idx (.var 15) (.int 0)) (.var 7))) (.bin false .mul (.idx (.var 15) (.int 1)) (.var 9))) .nil)) (.var 0)) (.int 0)) (.var 15)))
      [some (.int p), x1, some (.lv ((cols p).map u2D)), g, some (.ref L0), some (.ref L1), some (.int x.1), some (.int x.2.1), some (.int x.2.2.1), some (.int x.2.2.2), some (.lv (((tabs p).filter (pA p x)).map q2D)), none, none, none, none, none, none] S = _ :=
    s_setc_of (comp_filter q2D (pB p x) (items := (tabs p).filter (pA p x)) (src := .lv (((tabs p).filter (pA p x)).map q2D)) (fun _ _ => rfl) (by simp) rfl rfl (by have := List.length_filter_le (pA p x) (tabs p); omega) (by simp) (fun acc => trivial) (fun y hy acc => by
      have ys := tabs_s h1 h2 (List.mem_filter.mp hy).1
      have ya := ys.a
      have yb := ys.b
      have yc := ys.c
      have yd := ys.d
      simp [q2D, pB, Sml.mul, xa, xb, xc, xd, ya, yb, yc, yd, hp, c_eq', -c_eq]))
  have E3 : evalS T (.setc 10 (.comp false [15] (.itv (.var 10)) (.nm 15) (.cmp .eq (.bin false .mod (.blt false .int (.cons (.bin false .sub (.bin false .sub (.bin false .add (.bin false .mul (.var 8) (.idx (.var 15) (.int 0))) (.bin false .mul (.var 9) (.idx (.var 15) (.int 2)))) (.bin false .mul (.idx (.var 15) (.int 2)) (.var 6))) (.bin false .mul (.idx (.var 15) (.int 3)) (.var 8))) .nil)) (.var 0)) (.int 0)) (.var 15)))
      [some (.int p), x1, some (.lv ((cols p).map u2D)), g, some (.ref L0), some (.ref L1), some (.int x.1), some (.int x.2.1), some (.int x.2.2.1), some (.int x.2.2.2), some (.lv ((((tabs p).filter (pA p x)).filter (pB p x)).map q2D)), none, none, none, none, none, none] S = _ :=
    s_setc_of (comp_filter q2D (pC p x) (items := ((tabs p).filter (pA p x)).filter (pB p x)) (src := .lv ((((tabs p).filter (pA p x)).filter (pB p x)).map q2D)) (fun _ _ => rfl) (by simp) rfl rfl (by have := List.length_filter_le (pA p x) (tabs p); have := List.length_filter_le (pB p x) ((tabs p).filter (pA p x)); omega) (by simp) (fun acc => trivial) (fun y hy acc => by
      have ys := tabs_s h1 h2 (List.mem_filter.mp (List.mem_filter.mp hy).1).1
      have ya := ys.a
      have yb := ys.b
      have yc := ys.c
      have yd := ys.d
      simp [q2D, pC, Sml.mul, xa, xb, xc, xd, ya, yb, yc, yd, hp, c_eq', -c_eq]))
  have E4 : evalS T (.setc 11 (.comp false [16] (.itv (.var 2)) (.nm 16) (.and (.cmp .eq (.bin false .mod (.blt false .int (.cons (.bin false .add (.bin false .mul (.var 6) (.idx (.var 16) (.int 0))) (.bin false .mul (.var 7) (.idx (.var 16) (.int 1)))) .nil)) (.var 0)) (.int 0)) (.cmp .eq (.bin false .mod (.blt false .int (.cons (.bin false .add (.bin false .mul (.var 8) (.idx (.var 16) (.int 0))) (.bin false .mul (.var 9) (.idx (.var 16) (.int 1)))) .nil)) (.var 0)) (.int 0))) (.var 16)))
      [some (.int p), x1, some (.lv ((cols p).map u2D)), g, some (.ref L0), some (.ref L1), some (.int x.1), some (.int x.2.1), some (.int x.2.2.1), some (.int x.2.2.2), some (.lv ((same p x).map q2D)), none, none, none, none, none, none] S = _ :=
    s_setc_of (comp_filter u2D (pL p x) (items := cols p) (src := .lv ((cols p).map u2D)) (fun _ _ => rfl) (by simp) rfl rfl (by have := cols_len h1 h2; omega) (by simp) (fun acc => trivial) (fun u hu acc => by
      obtain ⟨ua, ub⟩ := cols_s h1 h2 hu
      unfold pL
      cases t1 : beqI ((x.1 * u.1 + x.2.1 * u.2) % p) 0 <;> cases t2 : beqI ((x.2.2.1 * u.1 + x.2.2.2 * u.2) % p) 0 <;>
        simp [u2D, t1, t2, Sml.mul, xa, xb, xc, xd, ua, ub, hp, c_eq', -c_eq]))
  have E5 : evalS T (.set 12 (.blt false .len (.cons (.comp false [15] (.itv (.var 10)) (.nm 15) (.cmp .ne (.bin false .mod (.blt false .int (.cons (.bin false .sub (.bin false .mul (.idx (.var 15) (.int 0)) (.idx (.var 15) (.int 3))) (.bin false .mul (.idx (.var 15) (.int 1)) (.idx (.var 15) (.int 2)))) .nil)) (.var 0)) (.int 0)) (.var 15)) .nil)))
      [some (.int p), x1, some (.lv ((cols p).map u2D)), g, some (.ref L0), some (.ref L1), some (.int x.1), some (.int x.2.1), some (.int x.2.2.1), some (.int x.2.2.2), some (.lv ((same p x).map q2D)), some (.lv ((lost p x).map u2D)), none, none, none, none, none] S = _ :=
    s_set_of (e_lenC (comp_filter q2D (isG p) (items := same p x) (src := .lv ((same p x).map q2D)) (fun _ _ => rfl) (by simp) rfl rfl (by have := List.length_filter_le (pA p x) (tabs p); have := List.length_filter_le (pB p x) ((tabs p).filter (pA p x)); have := List.length_filter_le (pC p x) (((tabs p).filter (pA p x)).filter (pB p x)); unfold same; omega) (by simp) (fun acc => trivial) (fun y hy acc => by
      have ys := tabs_s h1 h2 (List.mem_filter.mp (List.mem_filter.mp (List.mem_filter.mp hy).1).1).1
      have ya := ys.a
      have yb := ys.b
      have yc := ys.c
      have yd := ys.d
      simp [q2D, isG, beqI, Sml.mul, xa, xb, xc, xd, ya, yb, yc, yd, hp])))
  refine seq_nx E1 (seq_nx E2 (seq_nx E3 (seq_nx E4 (seq_nx E5 ?_))))
  have ea : (((same p x).filter (isG p)).map q2D).length = (able p x).length := by simp [able]
  rw [ea]
  have lc : (lost p x).length ≤ 81 := by
    have a := cols_len h1 h2
    have b := List.length_filter_le (pL p x) (cols p)
    unfold lost
    omega
  have eS : ((same p x).map q2D).length = (same p x).length := by simp
  have eL : ((lost p x).map u2D).length = (lost p x).length := by simp
  have hG : isG p x = !(beqI ((x.1 * x.2.2.2 - x.2.1 * x.2.2.1) % p) 0) := rfl
  obtain ⟨ls, hls⟩ : ∃ ls, ls = (same p x).length := ⟨_, rfl⟩
  obtain ⟨ll, hll⟩ : ∃ ll, ll = (lost p x).length := ⟨_, rfl⟩
  have ml : mulOk (ll : Int) (ll : Int) := Sml.mul ⟨by omega, by omega⟩ ⟨by omega, by omega⟩
  obtain ⟨la, hla⟩ : ∃ la, la = (able p x).length := ⟨_, rfl⟩
  simp only [List.set_cons_succ, List.set_cons_zero]
  show evalS T _ [some (.int p), x1, some (.lv ((cols p).map u2D)), g, some (.ref L0), some (.ref L1), some (.int x.1), some (.int x.2.1), some (.int x.2.2.1), some (.int x.2.2.2), some (.lv ((same p x).map q2D)), some (.lv ((lost p x).map u2D)), some (.int (able p x).length), none, none, none, none] S = _
  have hf' : S[L1] = .lst [.int a0, .int a1, .int a2, .int a3] := (List.getElem?_eq_some_iff.mp hf).2
  generalize (same p x).map q2D = Ls at *
  generalize (lost p x).map u2D = Ll at *
  rw [← hls] at eS
  rw [← hll] at eL
  rw [← hls, ← hll, ← hla]
  cases hg : beqI ((x.1 * x.2.2.2 - x.2.1 * x.2.2.1) % p) 0 with
  | true =>
    rw [hg] at hG
    have hg' : (x.1 * x.2.2.2 - x.2.1 * x.2.2.1) % p = 0 := of_decide_eq_true hg
    simp [hG, hg', eS, eL, ml, hf', l1, Sml.mul, xa, xb, xc, xd, hp, sixL, -Option.map_bind]
  | false =>
    rw [hg] at hG
    have hg' : ¬ (x.1 * x.2.2.2 - x.2.1 * x.2.2.1) % p = 0 := of_decide_eq_false hg
    simp [hG, hg', eS, eL, ml, hf', l1, Sml.mul, xa, xb, xc, xd, hp, sixL, -Option.map_bind]
end
end K32
/-! K32V: what is gone through, told in numbers. -/
namespace K32
open Eng Kit31
def grp (p : Nat) : Int := (((tabs p).filter (isG p)).length : Int)
def four (p i : Nat) : List Int := [sm (f0 p) i, sm (f1 p) i, sm (f2 p) i, sm (f3 p) i]
section
variable {p : Nat} (h1 : 2 ≤ p) (h2 : p < 4)
include h1 h2
theorem grp_pos : 0 < grp p ∧ grp p ≤ 81 := by
  have : p = 2 ∨ p = 3 := by omega
  rcases this with rfl | rfl <;> decide +kernel
theorem fill_ok {T : Nat → Fn} {n : Nat} (hn : n = p * p * p * p) (S : Store) : forL (evalS T (.ex (.app (.var 4) (.tup (.cons (.bin false .mod (.blt false .int (.cons (.var 1) .nil)) (.var 0)) (.cons (.bin false .mod (.blt false .int (.cons (.bin false .fdiv (.var 1) (.var 0)) .nil)) (.var 0)) (.cons (.bin false .mod (.blt false .int (.cons (.bin false .fdiv (.var 1) (.bin false .mul (.var 0) (.var 0))) .nil)) (.var 0)) (.cons (.bin false .fdiv (.var 1) (.bin false .mul (.bin false .mul (.var 0) (.var 0)) (.var 0))) .nil))))))))
    (.tup ((List.range n).map fun i => .int (i : Nat))) ((List.range n).map fun i => .int (i : Nat)) (.nm 1) [1] ((List.range n).map fun i => .int (i : Nat))
    [some (.int p), none, none, none, some (.ref S.length), some (.ref (S.length + 1)), none, none, none, none, none, none, none, none, none, none, none] (S ++ [.lst [], .lst (intsD (four p 0))]) = some (.nx, [some (.int p), none, none, none, some (.ref S.length), some (.ref (S.length + 1)), none, none, none, none, none, none, none, none, none, none, none], S ++ [.lst ((tabs p).map q2D), .lst (intsD (four p 0))]) := by
  have n4 := p4 h1 h2
  rw [← hn] at n4
  have run := forL_run (body := evalS T (.ex (.app (.var 4) (.tup (.cons (.bin false .mod (.blt false .int (.cons (.var 1) .nil)) (.var 0)) (.cons (.bin false .mod (.blt false .int (.cons (.bin false .fdiv (.var 1) (.var 0)) .nil)) (.var 0)) (.cons (.bin false .mod (.blt false .int (.cons (.bin false .fdiv (.var 1) (.bin false .mul (.var 0) (.var 0))) .nil)) (.var 0)) (.cons (.bin false .fdiv (.var 1) (.bin false .mul (.bin false .mul (.var 0) (.var 0)) (.var 0))) .nil))))))))
    (src := .tup ((List.range n).map fun i => .int (i : Nat))) (all := (List.range n).map fun i => .int (i : Nat)) (tg := .nm 1) (w := [1])
    (fun _ => [some (.int p), none, none, none, some (.ref S.length), some (.ref (S.length + 1)), none, none, none, none, none, none, none, none, none, none, none]) (fun i => S ++ [.lst (((List.range i).map (tq p)).map q2D), .lst (intsD (four p 0))]) (fun _ => trivial) ((List.range n).map fun i => .int (i : Nat)) 0 ?_
  · simp only [List.length_map, List.length_range, Nat.zero_add] at run
    rw [hn] at run ⊢
    exact run
  · intro i d hd
    obtain ⟨hi, rfl⟩ := rng_get hd
    rw [Nat.zero_add]
    have hp : (0 : Int) < p := by omega
    have hp' : 0 < p := by omega
    have sp : Sml (p : Int) := ⟨by omega, by omega⟩
    have z2 : (0 : Int) < (p : Int) * p := Int.mul_pos hp hp
    have z3 : (0 : Int) < (p : Int) * p * p := Int.mul_pos z2 hp
    have e2 : ((p : Int) * p) < 10 := by
      have : p = 2 ∨ p = 3 := by omega
      rcases this with rfl | rfl <;> decide
    have e3 : ((p : Int) * p * p) < 28 := by
      have : p = 2 ∨ p = 3 := by omega
      rcases this with rfl | rfl <;> decide
    have m1 := sp.mul sp
    have m2 : mulOk ((p : Int) * p) p := Sml.mul ⟨by omega, by omega⟩ sp
    have d1 : divOk (i : Int) p := divOk_small hp (by omega)
    have d2 : divOk (i : Int) ((p : Int) * p) := divOk_small z2 (by omega)
    have d3 : divOk (i : Int) ((p : Int) * p * p) := divOk_small z3 (by omega)
    have st : ((List.range i).map (tq p)).map q2D ++ [.tup [.int ((i : Int) % p), .int ((i : Int) / p % p), .int ((i : Int) / ((p : Int) * p) % p), .int ((i : Int) / ((p : Int) * p * p))]] = ((List.range (i + 1)).map (tq p)).map q2D := by
      rw [List.range_succ]
      simp [q2D, tq]
    have g : (S ++ [O.lst (((List.range i).map (tq p)).map q2D), .lst (intsD (four p 0))])[S.length]? = some (.lst (((List.range i).map (tq p)).map q2D)) := by
      rw [List.getElem?_append_right (Nat.le_refl _), Nat.sub_self]
      rfl
    have s : ∀ o, (S ++ [O.lst (((List.range i).map (tq p)).map q2D), .lst (intsD (four p 0))]).set S.length o = S ++ [o, .lst (intsD (four p 0))] := fun o => by
      rw [List.set_append_right _ _ (Nat.le_refl _), Nat.sub_self]
      rfl
    have lt : (((List.range i).map (tq p)).map q2D).length < 1000000 := by simp; omega
    generalize hS1 : S ++ [O.lst (((List.range i).map (tq p)).map q2D), .lst (intsD (four p 0))] = S1 at *
    generalize ((List.range i).map (tq p)).map q2D = L1 at *
    generalize ((List.range (i + 1)).map (tq p)).map q2D = L2 at *
    exact ⟨_, _, rfl, (by simp [g, hp, hp', m1, m2, d1, d2, d3, s, lt, st, -Option.map_bind]; rfl), by simp⟩
theorem two_ok (S : Store) : F_l_through_two [.int p] S = some (.lv [.int (sm (f0 p) (p * p * p * p)), .int (sm (f1 p) (p * p * p * p)), .int (sm (f2 p) (p * p * p * p) / grp p), .int (sm (f3 p) (p * p * p * p) / grp p)], S) := by
  obtain ⟨T, hT⟩ : ∃ T, T = tb [F_power_of, F_group_size, F_series_times, F_kinds_number, F_invertible_kinds_number, F_falls, F_commuting_number, F_nought_pairs_number, F_l_bag, F_l_draw, F_l_pick, F_l_prime, F_l_powers, F_l_lots, F_l_commuting, F_l_nought_pairs, F_l_kinds, F_l_dues, F_l_through_one] := ⟨_, rfl⟩
  have n4 := p4 h1 h2
  have hp : (0 : Int) < p := by omega
  have hp' : 0 < p := by omega
  have sp : Sml (p : Int) := ⟨by omega, by omega⟩
  have z2 : (0 : Int) < (p : Int) * p := Int.mul_pos hp hp
  have z3 : (0 : Int) < (p : Int) * p * p := Int.mul_pos z2 hp
  have e2 : ((p : Int) * p) < 10 := by
    have : p = 2 ∨ p = 3 := by omega
    rcases this with rfl | rfl <;> decide
  have e3 : ((p : Int) * p * p) < 28 := by
    have : p = 2 ∨ p = 3 := by omega
    rcases this with rfl | rfl <;> decide
  have p2 : p * p ≤ 9 := by
    have : p = 2 ∨ p = 3 := by omega
    rcases this with rfl | rfl <;> decide
  have m1 := sp.mul sp
  have m2 : mulOk ((p : Int) * p) p := Sml.mul ⟨by omega, by omega⟩ sp
  have m3 : mulOk ((p : Int) * p * p) p := Sml.mul ⟨by omega, by omega⟩ sp
  obtain ⟨n, hn⟩ : ∃ n, n = p * p * p * p := ⟨_, rfl⟩
  have r : rngL [.int ((p : Int) * p * p * p)] = some ((List.range n).map fun i => .int (i : Nat)) := by
    have := rng1 (show n < 2 ^ 62 by omega)
    rw [hn] at this ⊢
    push_cast at this
    exact this
  have r2 : rngL [.int ((p : Int) * p)] = some ((List.range (p * p)).map fun i => .int (i : Nat)) := by
    have := rng1 (show p * p < 2 ^ 62 by omega)
    push_cast at this
    exact this
  rw [← hn] at n4 ⊢
  have fill := fill_ok h1 h2 (T := T) hn S
  obtain ⟨S1, hS1⟩ : ∃ S1, S1 = S ++ [.lst ((tabs p).map q2D), .lst (intsD (four p 0))] := ⟨_, rfl⟩
  rw [← hS1] at fill
  have g0 : S1[S.length]? = some (.lst ((tabs p).map q2D)) := by
    rw [hS1, List.getElem?_append_right (Nat.le_refl _), Nat.sub_self]
    rfl
  have l0 : S.length < S1.length := by rw [hS1]; simp
  have tl := tabs_len h1 h2
  -- the columns
  have cr := compL_run (src := .tup ((List.range (p * p)).map fun i => .int (i : Nat))) (all := (List.range (p * p)).map fun i => .int (i : Nat)) (tg := .nm 13) (v := [some (.int p), none, none, none, some (.ref S.length), some (.ref (S.length + 1)), none, none, none, none, none, none, none, none, none, none, none]) (S := S1) (c := evalE T .no)
    (e := evalE T (.tup (.cons (.bin false .mod (.blt false .int (.cons (.var 13) .nil)) (.var 0)) (.cons (.bin false .fdiv (.var 13) (.var 0)) .nil))))
    (fun i => u2D (uq p i)) (fun _ => trivial) ((List.range (p * p)).map fun i => .int (i : Nat)) 0 [] (by simp; omega) ?_
  · simp only [List.length_map, List.length_range, Nat.zero_add, List.nil_append] at cr
    have ec : (List.range (p * p)).map (fun i => u2D (uq p i)) = (cols p).map u2D := by
      unfold cols
      rw [List.map_map]
      rfl
    rw [ec] at cr
    have gg := gc_new S1 ((cols p).map u2D) (cloL_of fun d hd => by
      obtain ⟨y, _, rfl⟩ := List.mem_map.mp hd
      rfl)
    have cl : p * p ≤ 1000000 := by omega
    -- the group
    have cg := comp_filter (T := T) q2D (isG p) (own := [14]) (it := .itv (.var 4)) (c := .cmp .ne (.bin false .mod (.blt false .int (.cons (.bin false .sub (.bin false .mul (.idx (.var 14) (.int 0)) (.idx (.var 14) (.int 3))) (.bin false .mul (.idx (.var 14) (.int 1)) (.idx (.var 14) (.int 2)))) .nil)) (.var 0)) (.int 0)) (k := 14)
      (v := [some (.int p), none, some (.lv ((cols p).map u2D)), none, some (.ref S.length), some (.ref (S.length + 1)), none, none, none, none, none, none, none, none, none, none, none]) (S := S1)
      (items := tabs p) (src := .ref S.length) (fun _ _ => rfl) (by simp) (by simp [g0]) rfl (by omega) (by simp) (fun acc => by show (S1 ++ [_])[S.length]? = _; rw [List.getElem?_append_left l0]; exact g0) (fun y hy acc => by
        have ys := tabs_s h1 h2 hy
        have ya := ys.a
        have yb := ys.b
        have yc := ys.c
        have yd := ys.d
        simp [q2D, isG, beqI, Sml.mul, ya, yb, yc, yd, hp'])
    -- the great loop
    have run := forL_run (body := evalS T (.seq (.setc 10 (.comp false [15] (.itv (.var 4)) (.nm 15) (.cmp .eq (.bin false .mod (.blt false .int (.cons (.bin false .sub (.bin false .mul (.var 7) (.idx (.var 15) (.int 2))) (.bin false .mul (.var 8) (.idx (.var 15) (.int 1)))) .nil)) (.var 0)) (.int 0)) (.var 15))) <|
     .seq (.setc 10 (.comp false [15] (.itv (.var 10)) (.nm 15) (.cmp .eq (.bin false .mod (.blt false .int (.cons (.bin false .sub (.bin false .sub (.bin false .add (.bin false .mul (.var 6) (.idx (.var 15) (.int 1))) (.bin false .mul (.var 7) (.idx (.var 15) (.int 3)))) (.bin false .mul (.idx (.var 15) (.int 0)) (.var 7))) (.bin false .mul (.idx (.var 15) (.int 1)) (.var 9))) .nil)) (.var 0)) (.int 0)) (.var 15))) <|
     .seq (.setc 10 (.comp false [15] (.itv (.var 10)) (.nm 15) (.cmp .eq (.bin false .mod (.blt false .int (.cons (.bin false .sub (.bin false .sub (.bin false .add (.bin false .mul (.var 8) (.idx (.var 15) (.int 0))) (.bin false .mul (.var 9) (.idx (.var 15) (.int 2)))) (.bin false .mul (.idx (.var 15) (.int 2)) (.var 6))) (.bin false .mul (.idx (.var 15) (.int 3)) (.var 8))) .nil)) (.var 0)) (.int 0)) (.var 15))) <|
     .seq (.setc 11 (.comp false [16] (.itv (.var 2)) (.nm 16) (.and (.cmp .eq (.bin false .mod (.blt false .int (.cons (.bin false .add (.bin false .mul (.var 6) (.idx (.var 16) (.int 0))) (.bin false .mul (.var 7) (.idx (.var 16) (.int 1)))) .nil)) (.var 0)) (.int 0)) (.cmp .eq (.bin false .mod (.blt false .int (.cons (.bin false .add (.bin false .mul (.var 8) (.idx (.var 16) (.int 0))) (.bin false .mul (.var 9) (.idx (.var 16) (.int 1)))) .nil)) (.var 0)) (.int 0))) (.var 16))) <|
     .seq (.set 12 (.blt false .len (.cons (.comp false [15] (.itv (.var 10)) (.nm 15) (.cmp .ne (.bin false .mod (.blt false .int (.cons (.bin false .sub (.bin false .mul (.idx (.var 15) (.int 0)) (.idx (.var 15) (.int 3))) (.bin false .mul (.idx (.var 15) (.int 1)) (.idx (.var 15) (.int 2)))) .nil)) (.var 0)) (.int 0)) (.var 15)) .nil))) <|
     .seq (.sixs (.cons (.var 5) (.cons (.var 5) (.cons (.var 5) .nil))) (.cons (.int 0) (.cons (.int 1) (.cons (.int 2) .nil))) (.cons (.bin false .add (.idx (.var 5) (.int 0)) (.blt false .len (.cons (.var 10) .nil))) (.cons (.bin false .add (.idx (.var 5) (.int 1)) (.bin false .mul (.blt false .len (.cons (.var 11) .nil)) (.blt false .len (.cons (.var 11) .nil)))) (.cons (.bin false .add (.idx (.var 5) (.int 2)) (.var 12)) .nil)))) <|
     .six (.var 5) (.int 3) (.bin false .add (.idx (.var 5) (.int 3)) (.ite (.cmp .ne (.bin false .mod (.blt false .int (.cons (.bin false .sub (.bin false .mul (.var 6) (.var 9)) (.bin false .mul (.var 7) (.var 8))) .nil)) (.var 0)) (.int 0)) (.var 12) (.int 0)))))
      (src := .ref S.length) (all := (tabs p).map q2D) (tg := .tup (.cons (.nm 6) (.cons (.nm 7) (.cons (.nm 8) (.cons (.nm 9) .nil))))) (w := [6, 7, 8, 9, 10, 11, 12])
      (fun _ => [some (.int p), none, some (.lv ((cols p).map u2D)), some (.lv (((tabs p).filter (isG p)).map q2D)), some (.ref S.length), some (.ref (S.length + 1)), none, none, none, none, none, none, none, none, none, none, none]) (fun i => S ++ [.lst ((tabs p).map q2D), .lst (intsD (four p i))]) (fun i => by
        show (S ++ [_, _])[S.length]? = _
        rw [List.getElem?_append_right (Nat.le_refl _), Nat.sub_self]
        rfl) ((tabs p).map q2D) 0 ?_
    · rw [← hS1, Nat.zero_add] at run
      have ln : ((tabs p).map q2D).length = n := by simp [tabs, hn]
      rw [ln] at run
      obtain ⟨S2, hS2⟩ : ∃ S2, S2 = S ++ [.lst ((tabs p).map q2D), .lst (intsD (four p n))] := ⟨_, rfl⟩
      have hf : S2[S.length + 1]? = some (.lst (intsD (four p n))) := by
        rw [hS2, List.getElem?_append_right (by omega), show S.length + 1 - S.length = 1 by omega]
        rfl
      rw [← hS2] at run
      have gp := grp_pos h1 h2
      have d2 : divOk (sm (f2 p) n) (grp p) := divOk_small gp.1 (by have := gp.2; omega)
      have d3 : divOk (sm (f3 p) n) (grp p) := divOk_small gp.1 (by have := gp.2; omega)
      have gl : ((((tabs p).filter (isG p)).map q2D).length : Int) = grp p := by simp [grp]
      refine run_gc rfl ⟨[some (.int p), none, some (.lv ((cols p).map u2D)), some (.lv (((tabs p).filter (isG p)).map q2D)), some (.ref S.length), some (.ref (S.length + 1)), none, none, none, none, none, none, none, none, none, none, none], ?_⟩ (gc_drop S [.lst ((tabs p).map q2D), .lst (intsD (four p n))] _ rfl)
      rw [← hT, ← hS2]
      have z4 : intsD (four p 0) = [.int 0, .int 0, .int 0, .int 0] := rfl
      rw [z4] at fill hS1
      have E1 : evalS T (.par [4, 5] (.cons (.lst true .nil) (.cons (.lst true (.cons (.int 0) (.cons (.int 0) (.cons (.int 0) (.cons (.int 0) .nil))))) .nil))) [some (.int p), none, none, none, none, none, none, none, none, none, none, none, none, none, none, none, none] S = some (.nx, [some (.int p), none, none, none, some (.ref S.length), some (.ref (S.length + 1)), none, none, none, none, none, none, none, none, none, none, none], S ++ [.lst [], .lst [.int 0, .int 0, .int 0, .int 0]]) := by simp
      have E3 : evalS T (.setc 2 (.comp false [13] (.rng (.cons (.bin false .mul (.var 0) (.var 0)) .nil)) (.nm 13) .no (.tup (.cons (.bin false .mod (.blt false .int (.cons (.var 13) .nil)) (.var 0)) (.cons (.bin false .fdiv (.var 13) (.var 0)) .nil)))))
          [some (.int p), none, none, none, some (.ref S.length), some (.ref (S.length + 1)), none, none, none, none, none, none, none, none, none, none, none] S1 = some (.nx, [some (.int p), none, some (.lv ((cols p).map u2D)), none, some (.ref S.length), some (.ref (S.length + 1)), none, none, none, none, none, none, none, none, none, none, none], S1) := by
        simp [e_comp, m1, r2, cl, cr, gg, -Option.map_bind]
      refine seq_nx E1 (seq_nx (v1 := [some (.int p), none, none, none, some (.ref S.length), some (.ref (S.length + 1)), none, none, none, none, none, none, none, none, none, none, none]) (S1 := S1) ?_ (seq_nx E3 (seq_nx (s_setc_of cg) ?_)))
      · simp [s_for, m1, m2, m3, r, fill, -Option.map_bind]
      · simp only [List.set_cons_succ, List.set_cons_zero]
        have q0 : (intsD (four p n)) = [.int (sm (f0 p) n), .int (sm (f1 p) n), .int (sm (f2 p) n), .int (sm (f3 p) n)] := rfl
        rw [q0] at hf
        generalize hgl : ((tabs p).filter (isG p)).map q2D = Lg at *
        simp [s_for, g0, run, hf, gl, d2, d3, -Option.map_bind]
    · intro i d hd
      rw [Nat.zero_add]
      obtain ⟨hi, rfl⟩ : i < n ∧ d = q2D (tq p i) := by
        unfold tabs at hd
        rw [← hn, List.map_map] at hd
        exact rng_get hd
      have k := two_in h1 h2 (T := T) (x1 := none) (g := some (.lv (((tabs p).filter (isG p)).map q2D))) (L0 := S.length) (L1 := S.length + 1) (tq_s h1 h2 (show i < 81 by omega)) (S ++ [.lst ((tabs p).map q2D), .lst (intsD (four p i))]) (by omega)
        (by rw [List.getElem?_append_right (Nat.le_refl _), Nat.sub_self]; rfl) (by rw [List.getElem?_append_right (by omega), show S.length + 1 - S.length = 1 by omega]; rfl)
      have s : ∀ o, (S ++ [O.lst ((tabs p).map q2D), O.lst (intsD (four p i))]).set (S.length + 1) o = S ++ [.lst ((tabs p).map q2D), o] := fun o => by
        rw [List.set_append_right _ _ (by omega), show S.length + 1 - S.length = 1 by omega]
        rfl
      rw [s] at k
      exact ⟨_, _, rfl, k, rfl⟩
  · intro i d hd acc
    obtain ⟨hi, rfl⟩ := rng_get hd
    rw [Nat.zero_add]
    have d1 : divOk (i : Int) p := divOk_small hp (by omega)
    exact ⟨_, rfl, rfl, by simp [hp', d1, u2D, uq, -Option.map_bind]⟩
end
end K32
/-! K32X: the counts are the program's numbers. -/
namespace K32
open Eng Kit31
theorem Wk1_0 (p : Int) : Wk p 1 0 = 1 := by
  show up p 1 one0 0 = 1
  rw [up_lt _ (by omega)]
  rfl
theorem Wk1_1 (p : Int) : Wk p 1 1 = p := by
  show up p 1 one0 1 = p
  rw [up_ge _ (by omega) (by omega), Nat.sub_self, up_lt _ (by omega)]
  simp [one0]
theorem Wk1_2 (p : Int) : Wk p 1 2 = p * p := by
  show up p 1 one0 2 = _
  rw [up_ge _ (by omega) (by omega)]
  have := Wk1_1 p
  have e : up p 1 one0 1 = p := this
  rw [show 2 - 1 = 1 from rfl, e]
  simp [one0]
theorem Wk2_0 (p : Int) : Wk p 2 0 = 1 := by
  show up p 2 (Wk p 1) 0 = 1
  rw [up_lt _ (by omega), Wk1_0]
theorem Wk2_1 (p : Int) : Wk p 2 1 = p := by
  show up p 2 (Wk p 1) 1 = p
  rw [up_lt _ (by omega), Wk1_1]
theorem Wk2_2 (p : Int) : Wk p 2 2 = p * p + p := by
  show up p 2 (Wk p 1) 2 = _
  rw [up_ge _ (by omega) (by omega), Nat.sub_self, up_lt _ (by omega), Wk1_2, Wk1_0, Int.mul_one]
theorem due0 (p : Int) : due p 0 = [1, 1, 1, 1] := by
  simp [due, tri, ser, one0, nouV, sm, gsz, Wk, Dk]
theorem due1 {p : Int} (h : 2 ≤ p) : due p 1 = [p * p, 2 * p - 1, p, p - 1] := by
  have e1 : p ^ tri 1 * ser p 1 1 = p * p := by
    have q : (p - 1) / (p - 1) = 1 := Int.ediv_self (by omega)
    have l : Lq p 1 = p - 1 := by
      show 1 * (p ^ 1 - 1) = _
      rw [Int.pow_one, Int.one_mul]
    have g : G p 1 1 = 1 := by
      rw [G_s, G_gt p 0 1 (by omega)]
      simp
    have t : trm p 1 1 = p * p := by
      unfold trm
      rw [Nat.mul_one, l, q]
      show p ^ 2 * 1 = _
      rw [Int.pow_succ, Int.pow_succ]
      simp
    show p ^ 0 * (sm _ (1 / 1 + 1)) = _
    show p ^ 0 * (0 + ser p 0 (1 - 1 * 0) * trm p 1 0 * G p 1 (1 * 0) + ser p 0 (1 - 1 * 1) * trm p 1 1 * G p 1 (1 * 1)) = _
    rw [Nat.mul_one, t, g]
    simp [ser, one0]
  have e2 : nouV p 1 = 2 * p - 1 := by
    have g : G p 1 1 = 1 := by
      rw [G_s, G_gt p 0 1 (by omega)]
      simp
    simp [nouV, sm, gsz, g]
    have e : p ^ 1 = p := Int.pow_one p
    omega
  have e3 : Dk (Wk p 1) 1 1 = p - 1 := by
    show Wk p 1 1 - (if 1 ≤ 1 then Wk p 1 (1 - 1) else 0) = _
    rw [if_pos (Nat.le_refl _), Nat.sub_self, Wk1_0, Wk1_1]
  unfold due
  rw [e1, e2, e3, Wk1_1]
theorem due2k (p : Int) : due p 2 = [p ^ tri 2 * ser p 2 2, nouV p 2, p * p + p, p * p - 1] := by
  have e3 : Dk (Wk p 2) 2 2 = p * p - 1 := by
    show (Wk p 2 2 - (if 1 ≤ 2 then Wk p 2 (2 - 1) else 0)) - (if 2 ≤ 2 then (Wk p 2 (2 - 2) - (if 1 ≤ 2 - 2 then Wk p 2 (2 - 2 - 1) else 0)) else 0) = _
    rw [if_pos (by omega), if_pos (by omega), if_neg (by omega), Wk2_2, Nat.sub_self, Wk2_0]
    rw [show 2 - 1 = 1 from rfl, Wk2_1]
    omega
  unfold due
  rw [Wk2_2, e3]
theorem cnt2 {p : Nat} (h : p = 2 ∨ p = 3) : [sm (f0 p) (p * p * p * p), sm (f1 p) (p * p * p * p), sm (f2 p) (p * p * p * p) / grp p, sm (f3 p) (p * p * p * p) / grp p] = due p 2 := by
  rw [due2k]
  rcases h with rfl | rfl
  · decide +kernel
  · decide +kernel
def tot (p : Nat) : Nat := sN (fun x => cN (fun y => Nat.beq (x * y % p) 0) p) p
def chk1 (p : Nat) : Bool := !(prN p) || Nat.beq (tot p) (2 * p - 1)
theorem chk1_all : (List.range 30).all (fun p => chk1 (p + 2)) = true := by decide +kernel
theorem cnt1 {p : Nat} (h1 : 2 ≤ p) (h2 : p < 32) (hp : isPr p = true) : [(p : Int) * p, sm (c1 p) p, (p : Int), (p : Int) - 1] = due p 1 := by
  have h := List.all_eq_true.mp chk1_all (p - 2) (List.mem_range.mpr (by omega))
  rw [show p - 2 + 2 = p by omega] at h
  unfold chk1 at h
  rw [prN_of hp] at h
  have t : tot p = 2 * p - 1 := Nat.eq_of_beq_eq_true (by simpa using h)
  have cast : ∀ (x y : Nat), beqI ((x : Int) * y % p) 0 = Nat.beq (x * y % p) 0 := fun x y => by
    unfold beqI
    have : ((x : Int) * y % p) = ((x * y % p : Nat) : Int) := by simp
    rw [this]
    rw [Bool.eq_iff_iff]
    simp only [decide_eq_true_eq, Nat.beq_eq]
    exact Int.ofNat_inj (n := 0)
  have s : sm (c1 p) p = (tot p : Int) := sm_sN _ _ (fun x => by
    show ((ys p x).length : Int) = _
    unfold ys
    rw [show (fun y : Nat => beqI ((x : Int) * y % p) 0) = fun y => Nat.beq (x * y % p) 0 from funext fun y => cast x y, len_filter]) p
  rw [due1 (by omega), s, t]
  have : ((2 * p - 1 : Nat) : Int) = 2 * (p : Int) - 1 := by omega
  rw [this]
end K32
/-! K32Y: the law. -/
namespace K32
open Eng Kit31
noncomputable def Tl : Nat → Fn := tb [F_power_of, F_group_size, F_series_times, F_kinds_number, F_invertible_kinds_number, F_falls, F_commuting_number, F_nought_pairs_number, F_l_bag, F_l_draw, F_l_pick, F_l_prime, F_l_powers, F_l_lots, F_l_commuting, F_l_nought_pairs, F_l_kinds, F_l_dues, F_l_through_one, F_l_through_two, F_l_gone_through, F_l_told, F_l_are_same]
theorem draw_k {cells : List Int} {s m below : Int} {R : Store} (B : Bag cells s m) (hb : 0 < below) (hb2 : below < 2 ^ 64) :
    ∃ r cells' s' m', F_l_draw [.ref 1, .int below] (St cells s m R) = some (.int r, St cells' s' m' R) ∧ 0 ≤ r ∧ r < below ∧ Bag cells' s' m' := draw_ok (tb [F_power_of, F_group_size, F_series_times, F_kinds_number, F_invertible_kinds_number, F_falls, F_commuting_number, F_nought_pairs_number, F_l_bag]) B hb hb2
theorem pick_k {cells : List Int} {s m : Int} {R : Store} (B : Bag cells s m) (l : List Int) (hl : l ≠ []) (hl2 : l.length < 1000) :
    ∃ x cells' s' m', F_l_pick [.ref 1, .lv (intsD l)] (St cells s m R) = some (.int x, St cells' s' m' R) ∧ x ∈ l ∧ Bag cells' s' m' := by
  have hp : 0 < l.length := List.length_pos_iff.mpr hl
  obtain ⟨r, c', s', m', e, h0, h1, B'⟩ := draw_k (below := (l.length : Int)) (R := R) B (by omega) (by omega)
  obtain ⟨k, rfl⟩ := Int.eq_ofNat_of_zero_le h0
  have hk : k < l.length := by omega
  obtain ⟨T, hT⟩ : ∃ T, T = tb [F_power_of, F_group_size, F_series_times, F_kinds_number, F_invertible_kinds_number, F_falls, F_commuting_number, F_nought_pairs_number, F_l_bag, F_l_draw] := ⟨_, rfl⟩
  have t9 : T 9 = F_l_draw := by rw [hT]; rfl
  have g : (intsD l)[k]? = some (.int l[k]) := by simp [intsD, hk]
  exact ⟨l[k], c', s', m', run_keep rfl ⟨_, by rw [← hT]; simp [b_l_pick, t9, e, g]; rfl⟩, List.getElem_mem hk, B'⟩
theorem bag_k (ns : List Int) (hn : ns.length ≤ 63) : ∃ cells m, F_l_bag [.scr ns] [] = some (.ref 1, St cells 0 m []) ∧ Bag cells 0 m := bag_ok (tb [F_power_of, F_group_size, F_series_times, F_kinds_number, F_invertible_kinds_number, F_falls, F_commuting_number, F_nought_pairs_number]) ns hn
theorem prime_k {most : Int} (h1 : 2 ≤ most) (h2 : most < 1024) (S : Store) : ∃ q, F_l_prime [.int most] S = some (.int q, S) ∧ 2 ≤ q ∧ q ≤ most ∧ isPr q = true := prime_ok (tb [F_power_of, F_group_size, F_series_times, F_kinds_number, F_invertible_kinds_number, F_falls, F_commuting_number, F_nought_pairs_number, F_l_bag, F_l_draw, F_l_pick]) h1 h2 S
theorem gone_ok {cells : List Int} {s m many : Int} {R : Store} (B : Bag cells s m) :
    ∃ (q : Int) (n : Nat) (cells' : List Int) (s' m' : Int), F_l_gone_through [.ref 1, .int many] (St cells s m R) = some (.tup [.int q, .int n, .lv (intsD (due q n))], St cells' s' m' R) ∧ 2 ≤ q ∧ q < 1024 ∧ n ≤ 20 ∧ Bag cells' s' m' := by
  obtain ⟨T, hT⟩ : ∃ T, T = tb [F_power_of, F_group_size, F_series_times, F_kinds_number, F_invertible_kinds_number, F_falls, F_commuting_number, F_nought_pairs_number, F_l_bag, F_l_draw, F_l_pick, F_l_prime, F_l_powers, F_l_lots, F_l_commuting, F_l_nought_pairs, F_l_kinds, F_l_dues, F_l_through_one, F_l_through_two] := ⟨_, rfl⟩
  have t9 : T 9 = F_l_draw := by rw [hT]; rfl
  have t11 : T 11 = F_l_prime := by rw [hT]; rfl
  have t18 : T 18 = F_l_through_one := by rw [hT]; rfl
  have t19 : T 19 = F_l_through_two := by rw [hT]; rfl
  obtain ⟨w, c1, s1, m1, e1, w0, w8, B1⟩ := draw_k (below := 6) (R := R) B (by decide) (by decide)
  obtain ⟨r, c2, s2, m2, e2, r0, r1, B2⟩ := draw_k (below := 30) (R := R) B1 (by decide) (by decide)
  obtain ⟨q, e3, q2, qm, hq⟩ := prime_k (most := 2 + r) (by omega) (by omega) (St c2 s2 m2 R)
  have E1 : evalS T (.par [2, 3] (.cons (.call 9 (.cons (.var 0) (.cons (.int 6) .nil))) (.cons (.call 11 (.cons (.bin false .add (.int 2) (.call 9 (.cons (.var 0) (.cons (.int 30) .nil)))) .nil)) .nil))) [some (.ref 1), some (.int many), none, none] (St cells s m R) = some (.nx, [some (.ref 1), some (.int many), some (.int w), some (.int q)], St c2 s2 m2 R) := by
    simp [t9, t11, e1, e2, e3, -Option.map_bind]
  by_cases h0 : w = 0 ∧ many < 50
  · have e4 := two_ok (p := 3) (by omega) (by omega) (St c2 s2 m2 R)
    have c := cnt2 (p := 3) (by omega)
    have e4' : F_l_through_two [.int 3] (St c2 s2 m2 R) = some (.lv (intsD (due 3 2)), St c2 s2 m2 R) := by
      have c' : due ((3 : Nat) : Int) 2 = due 3 2 := rfl
      rw [← c', ← c]
      exact e4
    obtain ⟨rfl, hm⟩ := h0
    exact ⟨3, 2, c2, s2, m2, run_keep rfl ⟨_, by rw [← hT]; exact seq_nx E1 (by simp [t19, e4', hm, -Option.map_bind]; rfl)⟩, by decide, by decide, by decide, B2⟩
  have h00 : w = 0 → ¬ many < 50 := fun a b => h0 ⟨a, b⟩
  by_cases h1 : w = 1
  · subst h1
    have e4 := due0 q
    exact ⟨q, 0, c2, s2, m2, run_keep rfl ⟨_, by rw [← hT, e4]; exact seq_nx E1 (by simp [-Option.map_bind]; rfl)⟩, q2, by omega, by decide, B2⟩
  by_cases h4 : w < 4
  · obtain ⟨k, rfl⟩ := Int.eq_ofNat_of_zero_le (show 0 ≤ q by omega)
    have e4 := one_ok (p := k) (by omega) (by omega) (St c2 s2 m2 R)
    have c := cnt1 (p := k) (by omega) (by omega) hq
    have e4' : F_l_through_one [.int k] (St c2 s2 m2 R) = some (.lv (intsD (due k 1)), St c2 s2 m2 R) := by
      rw [← c]
      exact e4
    refine ⟨k, 1, c2, s2, m2, run_keep rfl ⟨[some (.ref 1), some (.int many), some (.int w), some (.int (k : Int))], ?_⟩, by omega, by omega, by decide, B2⟩
    rw [← hT]
    refine seq_nx E1 ?_
    by_cases hw : w = 0
    · have := h00 hw
      subst hw
      simp [t18, e4', this, -Option.map_bind]
    · simp [t18, e4', h1, h4, hw, -Option.map_bind]
  · have e4 := two_ok (p := 2) (by omega) (by omega) (St c2 s2 m2 R)
    have c := cnt2 (p := 2) (by omega)
    have e4' : F_l_through_two [.int 2] (St c2 s2 m2 R) = some (.lv (intsD (due 2 2)), St c2 s2 m2 R) := by
      have c' : due ((2 : Nat) : Int) 2 = due 2 2 := rfl
      rw [← c', ← c]
      exact e4
    have hw : ¬ w = 0 := by omega
    exact ⟨2, 2, c2, s2, m2, run_keep rfl ⟨_, by rw [← hT]; exact seq_nx E1 (by simp [t19, e4', h1, h4, hw, -Option.map_bind]; rfl)⟩, by decide, by decide, by decide, B2⟩
/-- what is asked -/
def Ask (d : D) : Prop := ∃ (q : Int) (n : Nat), d = .tup [.int q, .int n] ∧ 2 ≤ q ∧ q < 1024 ∧ n ≤ 20
def Cas (d : D) : Prop := ∃ (q : Int) (n : Nat), d = .tup [.int q, .int n, .lv (intsD (due q n))] ∧ 2 ≤ q ∧ q < 1024 ∧ n ≤ 20
def dueD : D → D
  | .tup [.int q, .int n] => .tup [.int q, .int n, .lv (intsD (due q n.toNat))]
  | d => d
theorem dueD_ok {d : D} (h : Ask d) : Cas (dueD d) := by
  obtain ⟨q, n, rfl, h⟩ := h
  exact ⟨q, n, by simp [dueD], h⟩
theorem t8 : Tl 8 = F_l_bag := rfl
theorem t9 : Tl 9 = F_l_draw := rfl
theorem t10 : Tl 10 = F_l_pick := rfl
theorem t11 : Tl 11 = F_l_prime := rfl
theorem t17 : Tl 17 = F_l_dues := rfl
theorem t20 : Tl 20 = F_l_gone_through := rfl
theorem t21 : Tl 21 = F_l_told := rfl
theorem t22 : Tl 22 = F_l_are_same := rfl
/-- one turn of either loop -/
theorem turn {d : D} (h : Cas d) (b : Bool) (a0 a1 a2 a3 a4 a8 a9 : Option D) (S : Store) : ∃ v1 v2, bindT (.tup (.cons (.nm 5) (.cons (.nm 6) (.cons (.nm 7) .nil)))) d [a0, a1, a2, a3, a4, none, none, none, a8, a9] = some v1 ∧
    evalS Tl (.ite (.not (.call 22 (.cons (.call 21 (.cons (.var 5) (.cons (.var 6) (.cons (.bl b) .nil)))) (.cons (.var 7) .nil))))
       (.ret (.bl false))
       (.skip)) v1 S = some (.nx, v2, S) ∧ wipeE v2 [5, 6, 7] = [a0, a1, a2, a3, a4, none, none, none, a8, a9] := by
  obtain ⟨q, n, rfl, q2, q3, hn⟩ := h
  have e1 := told_ok q2 q3 hn b S
  have e2 := same_ok (q ^ tri n * ser q n n) (nouV q n) (Wk q n n) (Dk (Wk q n) n n) S
  have ed : due q n = [q ^ tri n * ser q n n, nouV q n, Wk q n n, Dk (Wk q n) n n] := rfl
  rw [← ed] at e2
  exact ⟨_, _, rfl, (by simp [t21, t22, e1, e2, -Option.map_bind]; rfl), by simp⟩
theorem main (ns : List Int) (h : ns.length ≤ 63) : ∃ S, F_law [.scr ns] [] = some (.bl true, S) := by
  obtain ⟨cs0, m0, e0, B0⟩ := bag_k ns h
  -- what is asked
  obtain ⟨r1, c1, s1, m1, e1, r10, r11, B1⟩ := draw_k (below := 996) (R := []) B0 (by decide) (by decide)
  obtain ⟨q1, p1, q12, q1m, _⟩ := prime_k (most := 2 + r1) (by omega) (by omega) (St c1 s1 m1 [])
  obtain ⟨r2, c2, s2, m2, e2, r20, r21, B2⟩ := draw_k (below := 21) (R := []) B1 (by decide) (by decide)
  obtain ⟨r3, c3, s3, m3, e3, r30, r31, B3⟩ := draw_k (below := 21) (R := []) B2 (by decide) (by decide)
  obtain ⟨A1, hA1⟩ : ∃ A : List D, A = [.tup [.int q1, .int r2], .tup [.int 2, .int r3]] := ⟨_, rfl⟩
  obtain ⟨x4, c4, s4, m4, e4, x4m, B4⟩ := pick_k (R := [.lst A1]) B3 [3, 5, 7, 11] (by simp) (by simp)
  obtain ⟨r5, c5, s5, m5, e5, r50, r51, B5⟩ := draw_k (below := 21) (R := [.lst A1]) B4 (by decide) (by decide)
  obtain ⟨A2, hA2⟩ : ∃ A : List D, A = A1 ++ [.tup [.int x4, .int r5]] := ⟨_, rfl⟩
  obtain ⟨x6, c6, s6, m6, e6, x6m, B6⟩ := pick_k (R := [.lst A2]) B5 [2, 3, 991, 997] (by simp) (by simp)
  obtain ⟨x7, c7, s7, m7, e7, x7m, B7⟩ := pick_k (R := [.lst A2]) B6 [0, 1, 2, 19, 20] (by simp) (by simp)
  obtain ⟨A3, hA3⟩ : ∃ A : List D, A = A2 ++ [.tup [.int x6, .int x7]] := ⟨_, rfl⟩
  have l1 : A1.length = 2 := by rw [hA1]; rfl
  have l2 : A2.length = 3 := by rw [hA2]; simp [l1]
  have l3 : A3.length = 4 := by rw [hA3]; simp [l2]
  have hA : A3 = [.tup [.int q1, .int r2], .tup [.int 2, .int r3], .tup [.int x4, .int r5], .tup [.int x6, .int x7]] := by
    rw [hA3, hA2, hA1]
    rfl
  have ask : ∀ d ∈ A3, Ask d := by
    have x4b : 2 ≤ x4 ∧ x4 < 1024 := by
      simp at x4m
      omega
    have x6b : 2 ≤ x6 ∧ x6 < 1024 := by
      simp at x6m
      omega
    have x7b : 0 ≤ x7 ∧ x7 ≤ 20 := by
      simp at x7m
      omega
    obtain ⟨k2, rfl⟩ := Int.eq_ofNat_of_zero_le r20
    obtain ⟨k3, rfl⟩ := Int.eq_ofNat_of_zero_le r30
    obtain ⟨k5, rfl⟩ := Int.eq_ofNat_of_zero_le r50
    obtain ⟨k7, rfl⟩ := Int.eq_ofNat_of_zero_le x7b.1
    rw [hA]
    intro d hd
    simp at hd
    rcases hd with rfl | rfl | rfl | rfl
    · exact ⟨q1, k2, rfl, by omega, by omega, by omega⟩
    · exact ⟨2, k3, rfl, by omega, by omega, by omega⟩
    · exact ⟨x4, k5, rfl, by omega, by omega, by omega⟩
    · exact ⟨x6, k7, rfl, by omega, by omega, by omega⟩
  -- the cases
  obtain ⟨C1, hC1⟩ : ∃ C : List D, C = A3.map dueD := ⟨_, rfl⟩
  have lc1 : C1.length = 4 := by rw [hC1]; simpa using l3
  have cas1 : ∀ d ∈ C1, Cas d := by
    intro d hd
    rw [hC1] at hd
    obtain ⟨a, ha, rfl⟩ := List.mem_map.mp hd
    exact dueD_ok (ask a ha)
  have cr := compL_run (src := .ref 2) (all := A3) (tg := .tup (.cons (.nm 8) (.cons (.nm 9) .nil))) (v := [some (.scr ns), some (.ref 1), some (.ref 2), none, none, none, none, none, none, none]) (S := St c7 s7 m7 [.lst A3]) (c := evalE Tl .no)
    (e := evalE Tl (.tup (.cons (.var 8) (.cons (.var 9) (.cons (.call 17 (.cons (.var 8) (.cons (.var 9) .nil))) .nil))))) (fun i => dueD (A3.getD i .non)) (fun acc => rfl) A3 0 [] (by simp; omega) ?_
  · have er : (List.range A3.length).map (fun i => dueD (A3.getD (0 + i) .non)) = C1 := by
      rw [hC1]
      apply List.ext_getElem?
      intro i
      rw [List.getElem?_map, List.getElem?_map]
      by_cases hi : i < A3.length
      · rw [List.getElem?_range hi, List.getElem?_eq_getElem hi]
        simp [hi]
      · rw [List.getElem?_eq_none (by simpa using hi), List.getElem?_eq_none (by simpa using hi)]
        rfl
    rw [er] at cr
    simp only [List.nil_append, St_app, St_len, List.length_singleton, List.cons_append, Nat.reduceAdd] at cr
    -- how many rows there are
    have cr2 := compL_run (src := .ref 2) (all := A3) (tg := .tup (.cons (.nm 8) (.cons (.nm 9) .nil))) (v := [some (.scr ns), some (.ref 1), some (.ref 2), some (.ref 3), none, none, none, none, none, none]) (S := St c7 s7 m7 [.lst A3, .lst C1]) (c := evalE Tl .no)
      (e := evalE Tl (.var 9)) (fun i => .int ([r2, r3, r5, x7].getD i 0)) (fun acc => rfl) A3 0 [] (by simp; omega) ?_
    · have er2 : ([] : List D) ++ (List.range A3.length).map (fun i => D.int ([r2, r3, r5, x7].getD (0 + i) 0)) = intsD [r2, r3, r5, x7] := by
        rw [l3]
        rfl
      rw [er2] at cr2
      have gg := gc_ints (St c7 s7 m7 [.lst A3, .lst C1]) [r2, r3, r5, x7]
      simp only [List.nil_append, St_app, St_len, List.length_cons, List.length_nil, List.cons_append, Nat.reduceAdd] at cr2 gg
      have is := intsOf_ints [r2, r3, r5, x7]
      obtain ⟨IL, hIL⟩ : ∃ L, L = intsD [r2, r3, r5, x7] := ⟨_, rfl⟩
      rw [← hIL] at cr2 gg is
      obtain ⟨many, hmany⟩ : ∃ s, s = [r2, r3, r5, x7].sum := ⟨_, rfl⟩
      obtain ⟨gq, gn, c8, s8, m8, e8, g2, g3, g4, B8⟩ := gone_ok (many := many) (R := [.lst A3, .lst C1]) B7
      obtain ⟨C2, hC2⟩ : ∃ C : List D, C = C1 ++ [.tup [.int gq, .int gn, .lv (intsD (due gq gn))]] := ⟨_, rfl⟩
      have lc2 : C2.length = 5 := by rw [hC2]; simp [lc1]
      have cas2 : ∀ d ∈ C2, Cas d := by
        intro d hd
        rw [hC2] at hd
        rcases List.mem_append.mp hd with hd | hd
        · exact cas1 d hd
        · simp at hd
          exact ⟨gq, gn, hd, g2, g3, g4⟩
      obtain ⟨r9, c9, s9, m9, e9, r90, r91, B9⟩ := draw_k (below := 5) (R := [.lst A3, .lst C2]) B8 (by decide) (by decide)
      obtain ⟨C3, hC3⟩ : ∃ C : List D, C = cutV C2 (some r9) none ++ cutV C2 none (some r9) := ⟨_, rfl⟩
      have cl : (cutV C2 (some r9) none).length + (cutV C2 none (some r9)).length ≤ 1000000 := by
        have := cut_len C2 (some r9) none
        have := cut_len C2 none (some r9)
        omega
      have cas3 : ∀ d ∈ C3, Cas d := by
        intro d hd
        rw [hC3] at hd
        rcases List.mem_append.mp hd with hd | hd
        · exact cas2 d (cut_mem hd)
        · exact cas2 d (cut_mem hd)
      obtain ⟨S, hS⟩ : ∃ S, S = St c9 s9 m9 [.lst A3, .lst C2, .lst C3] := ⟨_, rfl⟩
      have run1 := forL_run (body := evalS Tl (.ite (.not (.call 22 (.cons (.call 21 (.cons (.var 5) (.cons (.var 6) (.cons (.bl false) .nil)))) (.cons (.var 7) .nil))))
       (.ret (.bl false))
       (.skip))) (src := .ref 4) (all := C3) (tg := .tup (.cons (.nm 5) (.cons (.nm 6) (.cons (.nm 7) .nil)))) (w := [5, 6, 7])
        (fun _ => [some (.scr ns), some (.ref 1), some (.ref 2), some (.ref 4), some (.int r9), none, none, none, none, none]) (fun _ => S) (fun _ => by rw [hS]; rfl) C3 0
        (fun i d hd => turn (cas3 d (List.mem_of_getElem? hd)) false _ _ _ _ _ _ _ S)
      have run2 := forL_run (body := evalS Tl (.ite (.not (.call 22 (.cons (.call 21 (.cons (.var 5) (.cons (.var 6) (.cons (.bl true) .nil)))) (.cons (.var 7) .nil))))
       (.ret (.bl false))
       (.skip))) (src := .tup C3.reverse) (all := C3.reverse) (tg := .tup (.cons (.nm 5) (.cons (.nm 6) (.cons (.nm 7) .nil)))) (w := [5, 6, 7])
        (fun _ => [some (.scr ns), some (.ref 1), some (.ref 2), some (.ref 4), some (.int r9), none, none, none, none, none]) (fun _ => S) (fun _ => trivial) C3.reverse 0
        (fun i d hd => turn (cas3 d (by simpa using List.mem_of_getElem? hd)) true _ _ _ _ _ _ _ S)
      simp only [intsD_cons, intsD_nil] at e4 e6 e7
      rw [hS] at run1 run2
      refine ⟨[], run_gc rfl ⟨[some (.scr ns), some (.ref 1), some (.ref 2), some (.ref 4), some (.int r9), none, none, none, none, none], ?_⟩ (gc_drop [] (St c9 s9 m9 [.lst A3, .lst C2, .lst C3]) (.bl true) rfl)⟩
      show evalS Tl b_law _ _ = _
      simp [b_law, s_for, e_comp, t8, t9, t10, t11, t17, t20, e0, e1, p1, e2, e3, ← hA1, e4, e5, l1, ← hA2, e6, e7, l2, ← hA3, l3, cr, cr2, gg, is, -List.sum_cons, ← hmany, e8, lc1, ← hC2, e9, sl_ref, partD, isNon, add_lv, cl, ← hC3, run1, run2, stay1, -Option.map_bind]
    · intro i d hd acc
      rw [Nat.zero_add]
      rw [hA] at hd
      match i, hd with
      | 0, hd => cases hd; exact ⟨_, rfl, rfl, rfl⟩
      | 1, hd => cases hd; exact ⟨_, rfl, rfl, rfl⟩
      | 2, hd => cases hd; exact ⟨_, rfl, rfl, rfl⟩
      | 3, hd => cases hd; exact ⟨_, rfl, rfl, rfl⟩
      | k + 4, hd => simp at hd
  · intro i d hd acc
    rw [Nat.zero_add]
    have hi : i < A3.length := (List.getElem?_eq_some_iff.mp hd).1
    have ed : A3.getD i .non = d := by
      rw [List.getD_eq_getElem?_getD, hd]
      rfl
    obtain ⟨q, n, rfl, q2, q3, hn⟩ := ask d (List.mem_of_getElem? hd)
    have e1 := dues_ok q2 q3 hn (St c7 s7 m7 [.lst A3] ++ [.lst acc])
    rw [ed]
    exact ⟨_, rfl, rfl, by simp only [St_app, List.cons_append, List.nil_append] at e1 ⊢; simp [t17, e1, dueD]⟩
end K32

/-! K32W: the walk of law_k32_whole_main_pairs_and_kinds (written by gen.py). -/
namespace K32W
open PySem L2 Eng K32
def top (i : Nat) : Stmt := PySem.Challenge.pw_allofonekind_k32_whole_main_pairs_and_ki.main.body.getD i (.Pass ⟨0, 0, 0, 0⟩)
abbrev s0 : Stmt := top 1
abbrev s1 : Stmt := top 3
abbrev s2 : Stmt := top 5
abbrev s3 : Stmt := top 6
abbrev s4 : Stmt := top 7
abbrev s5 : Stmt := top 8
abbrev s6 : Stmt := top 9
abbrev s7 : Stmt := top 10
abbrev s8 : Stmt := top 12
abbrev s9 : Stmt := top 13
abbrev s10 : Stmt := top 14
abbrev s11 : Stmt := top 15
abbrev s12 : Stmt := top 16
abbrev s13 : Stmt := top 17
abbrev s14 : Stmt := top 18
abbrev s15 : Stmt := top 19
abbrev s16 : Stmt := top 20
abbrev s17 : Stmt := top 21
abbrev s18 : Stmt := top 22
abbrev s19 : Stmt := top 23
abbrev s20 : Stmt := top 24
abbrev s21 : Stmt := top 25
abbrev s22 : Stmt := top 26
abbrev s23 : Stmt := top 27
def txt : Txts where
  nm := [("power_of", ["base", "k"]), ("group_size", ["p", "n"]), ("series_times", ["one", "other"]), ("kinds_number", ["p", "n"]), ("invertible_kinds_number", ["p", "n"]), ("falls", ["p", "k", "most"]), ("commuting_number", ["p", "n"]), ("nought_pairs_number", ["p", "n"]), ("_law_bag", ["script"]), ("_law_draw", ["bag", "below"]), ("_law_pick", ["bag", "some"]), ("_law_prime", ["most"]), ("_law_powers", ["p", "most"]), ("_law_lots", ["powers", "n"]), ("_law_commuting", ["powers", "lots", "n"]), ("_law_nought_pairs", ["powers", "lots", "n"]), ("_law_kinds", ["p", "n"]), ("_law_dues", ["p", "n"]), ("_law_through_one", ["p"]), ("_law_through_two", ["p"]), ("_law_gone_through", ["bag", "many"]), ("_law_told", ["p", "n", "named"]), ("_law_are_same", ["told", "dues"]), ("law", ["script"])]
  kw := [(6, 0, [1, 0], ["n", "p"]), (7, 0, [0, 1], ["p", "n"]), (3, 0, [1, 0], ["n", "p"]), (4, 0, [0, 1], ["p", "n"])]
  bs := ["abs", "all", "bool", "enumerate", "int", "isinstance", "len", "list", "range", "reversed", "sum"]
def n0 : List PySem.Str := ["base", "k", "found", "own", "left"]
theorem a0 : scB n0 ["base", "k"] (defScope s0) = true := by decide +kernel
theorem c0 : ms (txt.C 0 (tb [])) n0 b_power_of false (defScope s0) (defBody s0) = true := by decide +kernel
def n1 : List PySem.Str := ["p", "n", "found", "i"]
theorem a1 : scB n1 ["p", "n"] (defScope s1) = true := by decide +kernel
theorem c1 : ms (txt.C 1 (tb [F_power_of])) n1 b_group_size false (defScope s1) (defBody s1) = true := by decide +kernel
def n2 : List PySem.Str := ["one", "other", "found", "i", "item", "j", "own"]
theorem a2 : scB n2 ["one", "other"] (defScope s2) = true := by decide +kernel
theorem c2 : ms (txt.C 2 (tb [F_power_of, F_group_size])) n2 b_series_times false (defScope s2) (defBody s2) = true := by decide +kernel
def n3 : List PySem.Str := ["p", "n", "found", "i", "place"]
theorem a3 : scB n3 ["p", "n"] (defScope s3) = true := by decide +kernel
theorem c3 : ms (txt.C 3 (tb [F_power_of, F_group_size, F_series_times])) n3 b_kinds_number false (defScope s3) (defBody s3) = true := by decide +kernel
def n4 : List PySem.Str := ["p", "n", "found", "i", "place"]
theorem a4 : scB n4 ["p", "n"] (defScope s4) = true := by decide +kernel
theorem c4 : ms (txt.C 4 (tb [F_power_of, F_group_size, F_series_times, F_kinds_number])) n4 b_invertible_kinds_number false (defScope s4) (defBody s4) = true := by decide +kernel
def n5 : List PySem.Str := ["p", "k", "most", "found", "power"]
theorem a5 : scB n5 ["p", "k", "most"] (defScope s5) = true := by decide +kernel
theorem c5 : ms (txt.C 5 (tb [F_power_of, F_group_size, F_series_times, F_kinds_number, F_invertible_kinds_number])) n5 b_falls false (defScope s5) (defBody s5) = true := by decide +kernel
def n6 : List PySem.Str := ["p", "n", "i", "found", "share", "most", "other", "k"]
theorem a6 : scB n6 ["p", "n"] (defScope s6) = true := by decide +kernel
theorem c6 : ms (txt.C 6 (tb [F_power_of, F_group_size, F_series_times, F_kinds_number, F_invertible_kinds_number, F_falls])) n6 b_commuting_number false (defScope s6) (defBody s6) = true := by decide +kernel
def n7 : List PySem.Str := ["p", "n", "found", "r", "i", "lots", "whole"]
theorem a7 : scB n7 ["p", "n"] (defScope s7) = true := by decide +kernel
theorem c7 : ms (txt.C 7 (tb [F_power_of, F_group_size, F_series_times, F_kinds_number, F_invertible_kinds_number, F_falls, F_commuting_number])) n7 b_nought_pairs_number false (defScope s7) (defBody s7) = true := by decide +kernel
def n8 : List PySem.Str := ["script", "cells", "mixed", "cell", "number"]
theorem a8 : scB n8 ["script"] (defScope s8) = true := by decide +kernel
theorem c8 : ms (txt.C 8 (tb [F_power_of, F_group_size, F_series_times, F_kinds_number, F_invertible_kinds_number, F_falls, F_commuting_number, F_nought_pairs_number])) n8 b_l_bag false (defScope s8) (defBody s8) = true := by decide +kernel
def n9 : List PySem.Str := ["bag", "below", "cell", "found"]
theorem a9 : scB n9 ["bag", "below"] (defScope s9) = true := by decide +kernel
theorem c9 : ms (txt.C 9 (tb [F_power_of, F_group_size, F_series_times, F_kinds_number, F_invertible_kinds_number, F_falls, F_commuting_number, F_nought_pairs_number, F_l_bag])) n9 b_l_draw false (defScope s9) (defBody s9) = true := by decide +kernel
def n10 : List PySem.Str := ["bag", "some"]
theorem a10 : scB n10 ["bag", "some"] (defScope s10) = true := by decide +kernel
theorem c10 : ms (txt.C 10 (tb [F_power_of, F_group_size, F_series_times, F_kinds_number, F_invertible_kinds_number, F_falls, F_commuting_number, F_nought_pairs_number, F_l_bag, F_l_draw])) n10 b_l_pick false (defScope s10) (defBody s10) = true := by decide +kernel
def n11 : List PySem.Str := ["most", "found", "part"]
theorem a11 : scB n11 ["most"] (defScope s11) = true := by decide +kernel
theorem c11 : ms (txt.C 11 (tb [F_power_of, F_group_size, F_series_times, F_kinds_number, F_invertible_kinds_number, F_falls, F_commuting_number, F_nought_pairs_number, F_l_bag, F_l_draw, F_l_pick])) n11 b_l_prime false (defScope s11) (defBody s11) = true := by decide +kernel
def n12 : List PySem.Str := ["p", "most", "found", "turn"]
theorem a12 : scB n12 ["p", "most"] (defScope s12) = true := by decide +kernel
theorem c12 : ms (txt.C 12 (tb [F_power_of, F_group_size, F_series_times, F_kinds_number, F_invertible_kinds_number, F_falls, F_commuting_number, F_nought_pairs_number, F_l_bag, F_l_draw, F_l_pick, F_l_prime])) n12 b_l_powers false (defScope s12) (defBody s12) = true := by decide +kernel
def n13 : List PySem.Str := ["powers", "n", "found", "m", "last", "k"]
theorem a13 : scB n13 ["powers", "n"] (defScope s13) = true := by decide +kernel
theorem c13 : ms (txt.C 13 (tb [F_power_of, F_group_size, F_series_times, F_kinds_number, F_invertible_kinds_number, F_falls, F_commuting_number, F_nought_pairs_number, F_l_bag, F_l_draw, F_l_pick, F_l_prime, F_l_powers])) n13 b_l_lots false (defScope s13) (defBody s13) = true := by decide +kernel
def n14 : List PySem.Str := ["powers", "lots", "n", "lows", "j", "series", "i", "later", "m", "told", "k", "term"]
theorem a14 : scB n14 ["powers", "lots", "n"] (defScope s14) = true := by decide +kernel
theorem c14 : ms (txt.C 14 (tb [F_power_of, F_group_size, F_series_times, F_kinds_number, F_invertible_kinds_number, F_falls, F_commuting_number, F_nought_pairs_number, F_l_bag, F_l_draw, F_l_pick, F_l_prime, F_l_powers, F_l_lots])) n14 b_l_commuting false (defScope s14) (defBody s14) = true := by decide +kernel
def n15 : List PySem.Str := ["powers", "lots", "n", "rank", "found", "leads"]
theorem a15 : scB n15 ["powers", "lots", "n"] (defScope s15) = true := by decide +kernel
theorem c15 : ms (txt.C 15 (tb [F_power_of, F_group_size, F_series_times, F_kinds_number, F_invertible_kinds_number, F_falls, F_commuting_number, F_nought_pairs_number, F_l_bag, F_l_draw, F_l_pick, F_l_prime, F_l_powers, F_l_lots, F_l_commuting])) n15 b_l_nought_pairs false (defScope s15) (defBody s15) = true := by decide +kernel
def n16 : List PySem.Str := ["p", "n", "whole", "i", "less", "m", "k"]
theorem a16 : scB n16 ["p", "n"] (defScope s16) = true := by decide +kernel
theorem c16 : ms (txt.C 16 (tb [F_power_of, F_group_size, F_series_times, F_kinds_number, F_invertible_kinds_number, F_falls, F_commuting_number, F_nought_pairs_number, F_l_bag, F_l_draw, F_l_pick, F_l_prime, F_l_powers, F_l_lots, F_l_commuting, F_l_nought_pairs])) n16 b_l_kinds false (defScope s16) (defBody s16) = true := by decide +kernel
def n17 : List PySem.Str := ["p", "n", "powers", "lots"]
theorem a17 : scB n17 ["p", "n"] (defScope s17) = true := by decide +kernel
theorem c17 : ms (txt.C 17 (tb [F_power_of, F_group_size, F_series_times, F_kinds_number, F_invertible_kinds_number, F_falls, F_commuting_number, F_nought_pairs_number, F_l_bag, F_l_draw, F_l_pick, F_l_prime, F_l_powers, F_l_lots, F_l_commuting, F_l_nought_pairs, F_l_kinds])) n17 b_l_dues false (defScope s17) (defBody s17) = true := by decide +kernel
def n18 : List PySem.Str := ["p", "noughts", "x", "y"]
theorem a18 : scB n18 ["p"] (defScope s18) = true := by decide +kernel
theorem c18 : ms (txt.C 18 (tb [F_power_of, F_group_size, F_series_times, F_kinds_number, F_invertible_kinds_number, F_falls, F_commuting_number, F_nought_pairs_number, F_l_bag, F_l_draw, F_l_pick, F_l_prime, F_l_powers, F_l_lots, F_l_commuting, F_l_nought_pairs, F_l_kinds, F_l_dues])) n18 b_l_through_one false (defScope s18) (defBody s18) = true := by decide +kernel
def n19 : List PySem.Str := ["p", "code", "columns", "group", "tables", "found", "a", "b", "c", "d", "same", "lost", "able", "place", "x", "y", "u"]
theorem a19 : scB n19 ["p"] (defScope s19) = true := by decide +kernel
theorem c19 : ms (txt.C 19 (tb [F_power_of, F_group_size, F_series_times, F_kinds_number, F_invertible_kinds_number, F_falls, F_commuting_number, F_nought_pairs_number, F_l_bag, F_l_draw, F_l_pick, F_l_prime, F_l_powers, F_l_lots, F_l_commuting, F_l_nought_pairs, F_l_kinds, F_l_dues, F_l_through_one])) n19 b_l_through_two false (defScope s19) (defBody s19) = true := by decide +kernel
def n20 : List PySem.Str := ["bag", "many", "way", "p"]
theorem a20 : scB n20 ["bag", "many"] (defScope s20) = true := by decide +kernel
theorem c20 : ms (txt.C 20 (tb [F_power_of, F_group_size, F_series_times, F_kinds_number, F_invertible_kinds_number, F_falls, F_commuting_number, F_nought_pairs_number, F_l_bag, F_l_draw, F_l_pick, F_l_prime, F_l_powers, F_l_lots, F_l_commuting, F_l_nought_pairs, F_l_kinds, F_l_dues, F_l_through_one, F_l_through_two])) n20 b_l_gone_through false (defScope s20) (defBody s20) = true := by decide +kernel
def n21 : List PySem.Str := ["p", "n", "named"]
theorem a21 : scB n21 ["p", "n", "named"] (defScope s21) = true := by decide +kernel
theorem c21 : ms (txt.C 21 (tb [F_power_of, F_group_size, F_series_times, F_kinds_number, F_invertible_kinds_number, F_falls, F_commuting_number, F_nought_pairs_number, F_l_bag, F_l_draw, F_l_pick, F_l_prime, F_l_powers, F_l_lots, F_l_commuting, F_l_nought_pairs, F_l_kinds, F_l_dues, F_l_through_one, F_l_through_two, F_l_gone_through])) n21 b_l_told false (defScope s21) (defBody s21) = true := by decide +kernel
def n22 : List PySem.Str := ["told", "dues", "at"]
theorem a22 : scB n22 ["told", "dues"] (defScope s22) = true := by decide +kernel
theorem c22 : ms (txt.C 22 (tb [F_power_of, F_group_size, F_series_times, F_kinds_number, F_invertible_kinds_number, F_falls, F_commuting_number, F_nought_pairs_number, F_l_bag, F_l_draw, F_l_pick, F_l_prime, F_l_powers, F_l_lots, F_l_commuting, F_l_nought_pairs, F_l_kinds, F_l_dues, F_l_through_one, F_l_through_two, F_l_gone_through, F_l_told])) n22 b_l_are_same false (defScope s22) (defBody s22) = true := by decide +kernel
def n23 : List PySem.Str := ["script", "bag", "asked", "cases", "first", "p", "n", "dues", "prime", "rows"]
theorem a23 : scB n23 ["script"] (defScope s23) = true := by decide +kernel
theorem c23 : ms (txt.C 23 (tb [F_power_of, F_group_size, F_series_times, F_kinds_number, F_invertible_kinds_number, F_falls, F_commuting_number, F_nought_pairs_number, F_l_bag, F_l_draw, F_l_pick, F_l_prime, F_l_powers, F_l_lots, F_l_commuting, F_l_nought_pairs, F_l_kinds, F_l_dues, F_l_through_one, F_l_through_two, F_l_gone_through, F_l_told, F_l_are_same])) n23 b_law false (defScope s23) (defBody s23) = true := by decide +kernel
section
variable {P : Program} {w : World} {K : PySem.W.Frag} {mg : PySem.Str → Option Value} {base : Heap}
theorem kwB {x : PySem.Str} {st : Stmt} {f : Addr} {fd : FuncData} {us : List Value} {ks : List (PySem.Str × Value)} {b : List (PySem.Str × Value)} (F : Fun K x x st f fd)
    (h : ∀ (kV doc pm : Value) (an : Option Addr) (cdv ct : Value), bindArgs (PySem.W.fnOf x x (defArgs st) (defBody st) (defScope st) .none kV doc pm an cdv ct) ⟨us, ks⟩ = pure b) (s : Shared) : BindsTo s fd ⟨us, ks⟩ b := by
  obtain ⟨oc, od, kV, doc, pm, an, cdv, ct, osl, rfl, lk, hcd⟩ := F.ex
  exact .of_eq (h kV doc pm an cdv ct)
set_option maxHeartbeats 0 in
theorem tab (hb : ∀ x ∈ txt.bs, mg x = none) {f0 : Addr} {d0 : FuncData} (D0 : Fun K "power_of" "power_of" s0 f0 d0) (m0 : mg "power_of" = some (.ref f0)) {f1 : Addr} {d1 : FuncData} (D1 : Fun K "group_size" "group_size" s1 f1 d1) (m1 : mg "group_size" = some (.ref f1)) {f2 : Addr} {d2 : FuncData} (D2 : Fun K "series_times" "series_times" s2 f2 d2) (m2 : mg "series_times" = some (.ref f2)) {f3 : Addr} {d3 : FuncData} (D3 : Fun K "kinds_number" "kinds_number" s3 f3 d3) (m3 : mg "kinds_number" = some (.ref f3)) {f4 : Addr} {d4 : FuncData} (D4 : Fun K "invertible_kinds_number" "invertible_kinds_number" s4 f4 d4) (m4 : mg "invertible_kinds_number" = some (.ref f4)) {f5 : Addr} {d5 : FuncData} (D5 : Fun K "falls" "falls" s5 f5 d5) (m5 : mg "falls" = some (.ref f5)) {f6 : Addr} {d6 : FuncData} (D6 : Fun K "commuting_number" "commuting_number" s6 f6 d6) (m6 : mg "commuting_number" = some (.ref f6)) {f7 : Addr} {d7 : FuncData} (D7 : Fun K "nought_pairs_number" "nought_pairs_number" s7 f7 d7) (m7 : mg "nought_pairs_number" = some (.ref f7)) {f8 : Addr} {d8 : FuncData} (D8 : Fun K "_law_bag" "_law_bag" s8 f8 d8) (m8 : mg "_law_bag" = some (.ref f8)) {f9 : Addr} {d9 : FuncData} (D9 : Fun K "_law_draw" "_law_draw" s9 f9 d9) (m9 : mg "_law_draw" = some (.ref f9)) {f10 : Addr} {d10 : FuncData} (D10 : Fun K "_law_pick" "_law_pick" s10 f10 d10) (m10 : mg "_law_pick" = some (.ref f10)) {f11 : Addr} {d11 : FuncData} (D11 : Fun K "_law_prime" "_law_prime" s11 f11 d11) (m11 : mg "_law_prime" = some (.ref f11)) {f12 : Addr} {d12 : FuncData} (D12 : Fun K "_law_powers" "_law_powers" s12 f12 d12) (m12 : mg "_law_powers" = some (.ref f12)) {f13 : Addr} {d13 : FuncData} (D13 : Fun K "_law_lots" "_law_lots" s13 f13 d13) (m13 : mg "_law_lots" = some (.ref f13)) {f14 : Addr} {d14 : FuncData} (D14 : Fun K "_law_commuting" "_law_commuting" s14 f14 d14) (m14 : mg "_law_commuting" = some (.ref f14)) {f15 : Addr} {d15 : FuncData} (D15 : Fun K "_law_nought_pairs" "_law_nought_pairs" s15 f15 d15) (m15 : mg "_law_nought_pairs" = some (.ref f15)) {f16 : Addr} {d16 : FuncData} (D16 : Fun K "_law_kinds" "_law_kinds" s16 f16 d16) (m16 : mg "_law_kinds" = some (.ref f16)) {f17 : Addr} {d17 : FuncData} (D17 : Fun K "_law_dues" "_law_dues" s17 f17 d17) (m17 : mg "_law_dues" = some (.ref f17)) {f18 : Addr} {d18 : FuncData} (D18 : Fun K "_law_through_one" "_law_through_one" s18 f18 d18) (m18 : mg "_law_through_one" = some (.ref f18)) {f19 : Addr} {d19 : FuncData} (D19 : Fun K "_law_through_two" "_law_through_two" s19 f19 d19) (m19 : mg "_law_through_two" = some (.ref f19)) {f20 : Addr} {d20 : FuncData} (D20 : Fun K "_law_gone_through" "_law_gone_through" s20 f20 d20) (m20 : mg "_law_gone_through" = some (.ref f20)) {f21 : Addr} {d21 : FuncData} (D21 : Fun K "_law_told" "_law_told" s21 f21 d21) (m21 : mg "_law_told" = some (.ref f21)) {f22 : Addr} {d22 : FuncData} (D22 : Fun K "_law_are_same" "_law_are_same" s22 f22 d22) (m22 : mg "_law_are_same" = some (.ref f22)) {f23 : Addr} {d23 : FuncData} (D23 : Fun K "law" "law" s23 f23 d23) (m23 : mg "law" = some (.ref f23)) :
    FnOk P w K mg base CX0 24 f23 d23 ["script"] (spF K F_law 1) := by
  have G0 : TabG P w K mg base 0 (txt.C 0 (tb [])) := tab_nil hb
  have G1 : TabG P w K mg base 1 (txt.C 1 (tb [F_power_of])) := TabG.step (Fl := []) (keep := true) G0 D0 m0 rfl a0 c0 (D0.binds fun _ _ _ _ _ _ us hl => match us, hl with | [_, _], _ => rfl)
    (fun n perm ks h => by simp [txt] at h)
  have G2 : TabG P w K mg base 2 (txt.C 2 (tb [F_power_of, F_group_size])) := TabG.step (Fl := [F_power_of]) (keep := true) G1 D1 m1 rfl a1 c1 (D1.binds fun _ _ _ _ _ _ us hl => match us, hl with | [_, _], _ => rfl)
    (fun n perm ks h => by simp [txt] at h)
  have G3 : TabG P w K mg base 3 (txt.C 3 (tb [F_power_of, F_group_size, F_series_times])) := TabG.step (Fl := [F_power_of, F_group_size]) (keep := false) G2 D2 m2 rfl a2 c2 (D2.binds fun _ _ _ _ _ _ us hl => match us, hl with | [_, _], _ => rfl)
    (fun n perm ks h => by simp [txt] at h)
  have G4 : TabG P w K mg base 4 (txt.C 4 (tb [F_power_of, F_group_size, F_series_times, F_kinds_number])) := TabG.step (Fl := [F_power_of, F_group_size, F_series_times]) (keep := false) G3 D3 m3 rfl a3 c3 (D3.binds fun _ _ _ _ _ _ us hl => match us, hl with | [_, _], _ => rfl)
    (fun n perm ks h us ws zs h1 h2 h3 s => by
      simp [txt] at h
      obtain ⟨rfl, rfl, rfl⟩ := h
      match us, ws, h1, h2, h3 with
      | [], [w0, w1], _, _, h3 =>
        cases h3
        exact kwB D3 (fun _ _ _ _ _ _ => rfl) s)
  have G5 : TabG P w K mg base 5 (txt.C 5 (tb [F_power_of, F_group_size, F_series_times, F_kinds_number, F_invertible_kinds_number])) := TabG.step (Fl := [F_power_of, F_group_size, F_series_times, F_kinds_number]) (keep := false) G4 D4 m4 rfl a4 c4 (D4.binds fun _ _ _ _ _ _ us hl => match us, hl with | [_, _], _ => rfl)
    (fun n perm ks h us ws zs h1 h2 h3 s => by
      simp [txt] at h
      obtain ⟨rfl, rfl, rfl⟩ := h
      match us, ws, h1, h2, h3 with
      | [], [w0, w1], _, _, h3 =>
        cases h3
        exact kwB D4 (fun _ _ _ _ _ _ => rfl) s)
  have G6 : TabG P w K mg base 6 (txt.C 6 (tb [F_power_of, F_group_size, F_series_times, F_kinds_number, F_invertible_kinds_number, F_falls])) := TabG.step (Fl := [F_power_of, F_group_size, F_series_times, F_kinds_number, F_invertible_kinds_number]) (keep := true) G5 D5 m5 rfl a5 c5 (D5.binds fun _ _ _ _ _ _ us hl => match us, hl with | [_, _, _], _ => rfl)
    (fun n perm ks h => by simp [txt] at h)
  have G7 : TabG P w K mg base 7 (txt.C 7 (tb [F_power_of, F_group_size, F_series_times, F_kinds_number, F_invertible_kinds_number, F_falls, F_commuting_number])) := TabG.step (Fl := [F_power_of, F_group_size, F_series_times, F_kinds_number, F_invertible_kinds_number, F_falls]) (keep := false) G6 D6 m6 rfl a6 c6 (D6.binds fun _ _ _ _ _ _ us hl => match us, hl with | [_, _], _ => rfl)
    (fun n perm ks h us ws zs h1 h2 h3 s => by
      simp [txt] at h
      obtain ⟨rfl, rfl, rfl⟩ := h
      match us, ws, h1, h2, h3 with
      | [], [w0, w1], _, _, h3 =>
        cases h3
        exact kwB D6 (fun _ _ _ _ _ _ => rfl) s)
  have G8 : TabG P w K mg base 8 (txt.C 8 (tb [F_power_of, F_group_size, F_series_times, F_kinds_number, F_invertible_kinds_number, F_falls, F_commuting_number, F_nought_pairs_number])) := TabG.step (Fl := [F_power_of, F_group_size, F_series_times, F_kinds_number, F_invertible_kinds_number, F_falls, F_commuting_number]) (keep := true) G7 D7 m7 rfl a7 c7 (D7.binds fun _ _ _ _ _ _ us hl => match us, hl with | [_, _], _ => rfl)
    (fun n perm ks h us ws zs h1 h2 h3 s => by
      simp [txt] at h
      obtain ⟨rfl, rfl, rfl⟩ := h
      match us, ws, h1, h2, h3 with
      | [], [w0, w1], _, _, h3 =>
        cases h3
        exact kwB D7 (fun _ _ _ _ _ _ => rfl) s)
  have G9 : TabG P w K mg base 9 (txt.C 9 (tb [F_power_of, F_group_size, F_series_times, F_kinds_number, F_invertible_kinds_number, F_falls, F_commuting_number, F_nought_pairs_number, F_l_bag])) := TabG.step (Fl := [F_power_of, F_group_size, F_series_times, F_kinds_number, F_invertible_kinds_number, F_falls, F_commuting_number, F_nought_pairs_number]) (keep := true) G8 D8 m8 rfl a8 c8 (D8.binds fun _ _ _ _ _ _ us hl => match us, hl with | [_], _ => rfl)
    (fun n perm ks h => by simp [txt] at h)
  have G10 : TabG P w K mg base 10 (txt.C 10 (tb [F_power_of, F_group_size, F_series_times, F_kinds_number, F_invertible_kinds_number, F_falls, F_commuting_number, F_nought_pairs_number, F_l_bag, F_l_draw])) := TabG.step (Fl := [F_power_of, F_group_size, F_series_times, F_kinds_number, F_invertible_kinds_number, F_falls, F_commuting_number, F_nought_pairs_number, F_l_bag]) (keep := true) G9 D9 m9 rfl a9 c9 (D9.binds fun _ _ _ _ _ _ us hl => match us, hl with | [_, _], _ => rfl)
    (fun n perm ks h => by simp [txt] at h)
  have G11 : TabG P w K mg base 11 (txt.C 11 (tb [F_power_of, F_group_size, F_series_times, F_kinds_number, F_invertible_kinds_number, F_falls, F_commuting_number, F_nought_pairs_number, F_l_bag, F_l_draw, F_l_pick])) := TabG.step (Fl := [F_power_of, F_group_size, F_series_times, F_kinds_number, F_invertible_kinds_number, F_falls, F_commuting_number, F_nought_pairs_number, F_l_bag, F_l_draw]) (keep := true) G10 D10 m10 rfl a10 c10 (D10.binds fun _ _ _ _ _ _ us hl => match us, hl with | [_, _], _ => rfl)
    (fun n perm ks h => by simp [txt] at h)
  have G12 : TabG P w K mg base 12 (txt.C 12 (tb [F_power_of, F_group_size, F_series_times, F_kinds_number, F_invertible_kinds_number, F_falls, F_commuting_number, F_nought_pairs_number, F_l_bag, F_l_draw, F_l_pick, F_l_prime])) := TabG.step (Fl := [F_power_of, F_group_size, F_series_times, F_kinds_number, F_invertible_kinds_number, F_falls, F_commuting_number, F_nought_pairs_number, F_l_bag, F_l_draw, F_l_pick]) (keep := true) G11 D11 m11 rfl a11 c11 (D11.binds fun _ _ _ _ _ _ us hl => match us, hl with | [_], _ => rfl)
    (fun n perm ks h => by simp [txt] at h)
  have G13 : TabG P w K mg base 13 (txt.C 13 (tb [F_power_of, F_group_size, F_series_times, F_kinds_number, F_invertible_kinds_number, F_falls, F_commuting_number, F_nought_pairs_number, F_l_bag, F_l_draw, F_l_pick, F_l_prime, F_l_powers])) := TabG.step (Fl := [F_power_of, F_group_size, F_series_times, F_kinds_number, F_invertible_kinds_number, F_falls, F_commuting_number, F_nought_pairs_number, F_l_bag, F_l_draw, F_l_pick, F_l_prime]) (keep := false) G12 D12 m12 rfl a12 c12 (D12.binds fun _ _ _ _ _ _ us hl => match us, hl with | [_, _], _ => rfl)
    (fun n perm ks h => by simp [txt] at h)
  have G14 : TabG P w K mg base 14 (txt.C 14 (tb [F_power_of, F_group_size, F_series_times, F_kinds_number, F_invertible_kinds_number, F_falls, F_commuting_number, F_nought_pairs_number, F_l_bag, F_l_draw, F_l_pick, F_l_prime, F_l_powers, F_l_lots])) := TabG.step (Fl := [F_power_of, F_group_size, F_series_times, F_kinds_number, F_invertible_kinds_number, F_falls, F_commuting_number, F_nought_pairs_number, F_l_bag, F_l_draw, F_l_pick, F_l_prime, F_l_powers]) (keep := false) G13 D13 m13 rfl a13 c13 (D13.binds fun _ _ _ _ _ _ us hl => match us, hl with | [_, _], _ => rfl)
    (fun n perm ks h => by simp [txt] at h)
  have G15 : TabG P w K mg base 15 (txt.C 15 (tb [F_power_of, F_group_size, F_series_times, F_kinds_number, F_invertible_kinds_number, F_falls, F_commuting_number, F_nought_pairs_number, F_l_bag, F_l_draw, F_l_pick, F_l_prime, F_l_powers, F_l_lots, F_l_commuting])) := TabG.step (Fl := [F_power_of, F_group_size, F_series_times, F_kinds_number, F_invertible_kinds_number, F_falls, F_commuting_number, F_nought_pairs_number, F_l_bag, F_l_draw, F_l_pick, F_l_prime, F_l_powers, F_l_lots]) (keep := false) G14 D14 m14 rfl a14 c14 (D14.binds fun _ _ _ _ _ _ us hl => match us, hl with | [_, _, _], _ => rfl)
    (fun n perm ks h => by simp [txt] at h)
  have G16 : TabG P w K mg base 16 (txt.C 16 (tb [F_power_of, F_group_size, F_series_times, F_kinds_number, F_invertible_kinds_number, F_falls, F_commuting_number, F_nought_pairs_number, F_l_bag, F_l_draw, F_l_pick, F_l_prime, F_l_powers, F_l_lots, F_l_commuting, F_l_nought_pairs])) := TabG.step (Fl := [F_power_of, F_group_size, F_series_times, F_kinds_number, F_invertible_kinds_number, F_falls, F_commuting_number, F_nought_pairs_number, F_l_bag, F_l_draw, F_l_pick, F_l_prime, F_l_powers, F_l_lots, F_l_commuting]) (keep := true) G15 D15 m15 rfl a15 c15 (D15.binds fun _ _ _ _ _ _ us hl => match us, hl with | [_, _, _], _ => rfl)
    (fun n perm ks h => by simp [txt] at h)
  have G17 : TabG P w K mg base 17 (txt.C 17 (tb [F_power_of, F_group_size, F_series_times, F_kinds_number, F_invertible_kinds_number, F_falls, F_commuting_number, F_nought_pairs_number, F_l_bag, F_l_draw, F_l_pick, F_l_prime, F_l_powers, F_l_lots, F_l_commuting, F_l_nought_pairs, F_l_kinds])) := TabG.step (Fl := [F_power_of, F_group_size, F_series_times, F_kinds_number, F_invertible_kinds_number, F_falls, F_commuting_number, F_nought_pairs_number, F_l_bag, F_l_draw, F_l_pick, F_l_prime, F_l_powers, F_l_lots, F_l_commuting, F_l_nought_pairs]) (keep := false) G16 D16 m16 rfl a16 c16 (D16.binds fun _ _ _ _ _ _ us hl => match us, hl with | [_, _], _ => rfl)
    (fun n perm ks h => by simp [txt] at h)
  have G18 : TabG P w K mg base 18 (txt.C 18 (tb [F_power_of, F_group_size, F_series_times, F_kinds_number, F_invertible_kinds_number, F_falls, F_commuting_number, F_nought_pairs_number, F_l_bag, F_l_draw, F_l_pick, F_l_prime, F_l_powers, F_l_lots, F_l_commuting, F_l_nought_pairs, F_l_kinds, F_l_dues])) := TabG.step (Fl := [F_power_of, F_group_size, F_series_times, F_kinds_number, F_invertible_kinds_number, F_falls, F_commuting_number, F_nought_pairs_number, F_l_bag, F_l_draw, F_l_pick, F_l_prime, F_l_powers, F_l_lots, F_l_commuting, F_l_nought_pairs, F_l_kinds]) (keep := true) G17 D17 m17 rfl a17 c17 (D17.binds fun _ _ _ _ _ _ us hl => match us, hl with | [_, _], _ => rfl)
    (fun n perm ks h => by simp [txt] at h)
  have G19 : TabG P w K mg base 19 (txt.C 19 (tb [F_power_of, F_group_size, F_series_times, F_kinds_number, F_invertible_kinds_number, F_falls, F_commuting_number, F_nought_pairs_number, F_l_bag, F_l_draw, F_l_pick, F_l_prime, F_l_powers, F_l_lots, F_l_commuting, F_l_nought_pairs, F_l_kinds, F_l_dues, F_l_through_one])) := TabG.step (Fl := [F_power_of, F_group_size, F_series_times, F_kinds_number, F_invertible_kinds_number, F_falls, F_commuting_number, F_nought_pairs_number, F_l_bag, F_l_draw, F_l_pick, F_l_prime, F_l_powers, F_l_lots, F_l_commuting, F_l_nought_pairs, F_l_kinds, F_l_dues]) (keep := true) G18 D18 m18 rfl a18 c18 (D18.binds fun _ _ _ _ _ _ us hl => match us, hl with | [_], _ => rfl)
    (fun n perm ks h => by simp [txt] at h)
  have G20 : TabG P w K mg base 20 (txt.C 20 (tb [F_power_of, F_group_size, F_series_times, F_kinds_number, F_invertible_kinds_number, F_falls, F_commuting_number, F_nought_pairs_number, F_l_bag, F_l_draw, F_l_pick, F_l_prime, F_l_powers, F_l_lots, F_l_commuting, F_l_nought_pairs, F_l_kinds, F_l_dues, F_l_through_one, F_l_through_two])) := TabG.step (Fl := [F_power_of, F_group_size, F_series_times, F_kinds_number, F_invertible_kinds_number, F_falls, F_commuting_number, F_nought_pairs_number, F_l_bag, F_l_draw, F_l_pick, F_l_prime, F_l_powers, F_l_lots, F_l_commuting, F_l_nought_pairs, F_l_kinds, F_l_dues, F_l_through_one]) (keep := false) G19 D19 m19 rfl a19 c19 (D19.binds fun _ _ _ _ _ _ us hl => match us, hl with | [_], _ => rfl)
    (fun n perm ks h => by simp [txt] at h)
  have G21 : TabG P w K mg base 21 (txt.C 21 (tb [F_power_of, F_group_size, F_series_times, F_kinds_number, F_invertible_kinds_number, F_falls, F_commuting_number, F_nought_pairs_number, F_l_bag, F_l_draw, F_l_pick, F_l_prime, F_l_powers, F_l_lots, F_l_commuting, F_l_nought_pairs, F_l_kinds, F_l_dues, F_l_through_one, F_l_through_two, F_l_gone_through])) := TabG.step (Fl := [F_power_of, F_group_size, F_series_times, F_kinds_number, F_invertible_kinds_number, F_falls, F_commuting_number, F_nought_pairs_number, F_l_bag, F_l_draw, F_l_pick, F_l_prime, F_l_powers, F_l_lots, F_l_commuting, F_l_nought_pairs, F_l_kinds, F_l_dues, F_l_through_one, F_l_through_two]) (keep := true) G20 D20 m20 rfl a20 c20 (D20.binds fun _ _ _ _ _ _ us hl => match us, hl with | [_, _], _ => rfl)
    (fun n perm ks h => by simp [txt] at h)
  have G22 : TabG P w K mg base 22 (txt.C 22 (tb [F_power_of, F_group_size, F_series_times, F_kinds_number, F_invertible_kinds_number, F_falls, F_commuting_number, F_nought_pairs_number, F_l_bag, F_l_draw, F_l_pick, F_l_prime, F_l_powers, F_l_lots, F_l_commuting, F_l_nought_pairs, F_l_kinds, F_l_dues, F_l_through_one, F_l_through_two, F_l_gone_through, F_l_told])) := TabG.step (Fl := [F_power_of, F_group_size, F_series_times, F_kinds_number, F_invertible_kinds_number, F_falls, F_commuting_number, F_nought_pairs_number, F_l_bag, F_l_draw, F_l_pick, F_l_prime, F_l_powers, F_l_lots, F_l_commuting, F_l_nought_pairs, F_l_kinds, F_l_dues, F_l_through_one, F_l_through_two, F_l_gone_through]) (keep := true) G21 D21 m21 rfl a21 c21 (D21.binds fun _ _ _ _ _ _ us hl => match us, hl with | [_, _, _], _ => rfl)
    (fun n perm ks h => by simp [txt] at h)
  have G23 : TabG P w K mg base 23 (txt.C 23 (tb [F_power_of, F_group_size, F_series_times, F_kinds_number, F_invertible_kinds_number, F_falls, F_commuting_number, F_nought_pairs_number, F_l_bag, F_l_draw, F_l_pick, F_l_prime, F_l_powers, F_l_lots, F_l_commuting, F_l_nought_pairs, F_l_kinds, F_l_dues, F_l_through_one, F_l_through_two, F_l_gone_through, F_l_told, F_l_are_same])) := TabG.step (Fl := [F_power_of, F_group_size, F_series_times, F_kinds_number, F_invertible_kinds_number, F_falls, F_commuting_number, F_nought_pairs_number, F_l_bag, F_l_draw, F_l_pick, F_l_prime, F_l_powers, F_l_lots, F_l_commuting, F_l_nought_pairs, F_l_kinds, F_l_dues, F_l_through_one, F_l_through_two, F_l_gone_through, F_l_told]) (keep := true) G22 D22 m22 rfl a22 c22 (D22.binds fun _ _ _ _ _ _ us hl => match us, hl with | [_, _], _ => rfl)
    (fun n perm ks h => by simp [txt] at h)
  exact def_ok (keep := false) G23 D23 a23 c23
end
set_option maxHeartbeats 0 in
theorem all_mk {l : PySem.W.OpenLaw} {w : World} {K : PySem.W.Frag} {h : Heap} {mg : PySem.Str → Option Value} {fa : Addr} {f0 f1 f2 f3 f4 f5 f6 f7 f8 f9 f10 f11 f12 f13 f14 f15 f16 f17 f18 f19 f20 f21 f22 f23 : Addr} (X : K.In h) (G : h.Ns mainGlobals mg) (hfa : mg "law" = some (.ref fa))
    {od0 an0 od1 an1 od2 an2 od3 an3 od4 an4 od5 an5 od6 an6 od7 an7 od8 an8 od9 an9 od10 an10 od11 an11 od12 an12 od13 an13 od14 an14 od15 an15 od16 an16 od17 an17 od18 an18 od19 an19 od20 an20 od21 an21 od22 an22 od23 an23 : Option Addr} {sl0 sl1 sl2 sl3 sl4 sl5 sl6 sl7 sl8 sl9 sl10 sl11 sl12 sl13 sl14 sl15 sl16 sl17 sl18 sl19 sl20 sl21 sl22 sl23 : Array (Option Value)} {oc0 kV0 dc0 pm0 cd0 ct0 oc1 kV1 dc1 pm1 cd1 ct1 oc2 kV2 dc2 pm2 cd2 ct2 oc3 kV3 dc3 pm3 cd3 ct3 oc4 kV4 dc4 pm4 cd4 ct4 oc5 kV5 dc5 pm5 cd5 ct5 oc6 kV6 dc6 pm6 cd6 ct6 oc7 kV7 dc7 pm7 cd7 ct7 oc8 kV8 dc8 pm8 cd8 ct8 oc9 kV9 dc9 pm9 cd9 ct9 oc10 kV10 dc10 pm10 cd10 ct10 oc11 kV11 dc11 pm11 cd11 ct11 oc12 kV12 dc12 pm12 cd12 ct12 oc13 kV13 dc13 pm13 cd13 ct13 oc14 kV14 dc14 pm14 cd14 ct14 oc15 kV15 dc15 pm15 cd15 ct15 oc16 kV16 dc16 pm16 cd16 ct16 oc17 kV17 dc17 pm17 cd17 ct17 oc18 kV18 dc18 pm18 cd18 ct18 oc19 kV19 dc19 pm19 cd19 ct19 oc20 kV20 dc20 pm20 cd20 ct20 oc21 kV21 dc21 pm21 cd21 ct21 oc22 kV22 dc22 pm22 cd22 ct22 oc23 kV23 dc23 pm23 cd23 ct23 : Value}
    (p0 : PySem.W.nsIn K mainGlobals "power_of" = some (some (.ref f0))) (l0 : K.lookup f0 = some ⟨oc0, od0, .func (PySem.W.fnOf "power_of" "power_of" (defArgs s0) (defBody s0) (defScope s0) .none kV0 dc0 pm0 an0 cd0 ct0), sl0⟩) (e0 : PySem.W.codeIn K cd0 "power_of" = true) (q0 : PySem.W.keepIn K (.ref f0) = true)
    (p1 : PySem.W.nsIn K mainGlobals "group_size" = some (some (.ref f1))) (l1 : K.lookup f1 = some ⟨oc1, od1, .func (PySem.W.fnOf "group_size" "group_size" (defArgs s1) (defBody s1) (defScope s1) .none kV1 dc1 pm1 an1 cd1 ct1), sl1⟩) (e1 : PySem.W.codeIn K cd1 "group_size" = true) (q1 : PySem.W.keepIn K (.ref f1) = true)
    (p2 : PySem.W.nsIn K mainGlobals "series_times" = some (some (.ref f2))) (l2 : K.lookup f2 = some ⟨oc2, od2, .func (PySem.W.fnOf "series_times" "series_times" (defArgs s2) (defBody s2) (defScope s2) .none kV2 dc2 pm2 an2 cd2 ct2), sl2⟩) (e2 : PySem.W.codeIn K cd2 "series_times" = true) (q2 : PySem.W.keepIn K (.ref f2) = true)
    (p3 : PySem.W.nsIn K mainGlobals "kinds_number" = some (some (.ref f3))) (l3 : K.lookup f3 = some ⟨oc3, od3, .func (PySem.W.fnOf "kinds_number" "kinds_number" (defArgs s3) (defBody s3) (defScope s3) .none kV3 dc3 pm3 an3 cd3 ct3), sl3⟩) (e3 : PySem.W.codeIn K cd3 "kinds_number" = true) (q3 : PySem.W.keepIn K (.ref f3) = true)
    (p4 : PySem.W.nsIn K mainGlobals "invertible_kinds_number" = some (some (.ref f4))) (l4 : K.lookup f4 = some ⟨oc4, od4, .func (PySem.W.fnOf "invertible_kinds_number" "invertible_kinds_number" (defArgs s4) (defBody s4) (defScope s4) .none kV4 dc4 pm4 an4 cd4 ct4), sl4⟩) (e4 : PySem.W.codeIn K cd4 "invertible_kinds_number" = true) (q4 : PySem.W.keepIn K (.ref f4) = true)
    (p5 : PySem.W.nsIn K mainGlobals "falls" = some (some (.ref f5))) (l5 : K.lookup f5 = some ⟨oc5, od5, .func (PySem.W.fnOf "falls" "falls" (defArgs s5) (defBody s5) (defScope s5) .none kV5 dc5 pm5 an5 cd5 ct5), sl5⟩) (e5 : PySem.W.codeIn K cd5 "falls" = true) (q5 : PySem.W.keepIn K (.ref f5) = true)
    (p6 : PySem.W.nsIn K mainGlobals "commuting_number" = some (some (.ref f6))) (l6 : K.lookup f6 = some ⟨oc6, od6, .func (PySem.W.fnOf "commuting_number" "commuting_number" (defArgs s6) (defBody s6) (defScope s6) .none kV6 dc6 pm6 an6 cd6 ct6), sl6⟩) (e6 : PySem.W.codeIn K cd6 "commuting_number" = true) (q6 : PySem.W.keepIn K (.ref f6) = true)
    (p7 : PySem.W.nsIn K mainGlobals "nought_pairs_number" = some (some (.ref f7))) (l7 : K.lookup f7 = some ⟨oc7, od7, .func (PySem.W.fnOf "nought_pairs_number" "nought_pairs_number" (defArgs s7) (defBody s7) (defScope s7) .none kV7 dc7 pm7 an7 cd7 ct7), sl7⟩) (e7 : PySem.W.codeIn K cd7 "nought_pairs_number" = true) (q7 : PySem.W.keepIn K (.ref f7) = true)
    (p8 : PySem.W.nsIn K mainGlobals "_law_bag" = some (some (.ref f8))) (l8 : K.lookup f8 = some ⟨oc8, od8, .func (PySem.W.fnOf "_law_bag" "_law_bag" (defArgs s8) (defBody s8) (defScope s8) .none kV8 dc8 pm8 an8 cd8 ct8), sl8⟩) (e8 : PySem.W.codeIn K cd8 "_law_bag" = true) (q8 : PySem.W.keepIn K (.ref f8) = true)
    (p9 : PySem.W.nsIn K mainGlobals "_law_draw" = some (some (.ref f9))) (l9 : K.lookup f9 = some ⟨oc9, od9, .func (PySem.W.fnOf "_law_draw" "_law_draw" (defArgs s9) (defBody s9) (defScope s9) .none kV9 dc9 pm9 an9 cd9 ct9), sl9⟩) (e9 : PySem.W.codeIn K cd9 "_law_draw" = true) (q9 : PySem.W.keepIn K (.ref f9) = true)
    (p10 : PySem.W.nsIn K mainGlobals "_law_pick" = some (some (.ref f10))) (l10 : K.lookup f10 = some ⟨oc10, od10, .func (PySem.W.fnOf "_law_pick" "_law_pick" (defArgs s10) (defBody s10) (defScope s10) .none kV10 dc10 pm10 an10 cd10 ct10), sl10⟩) (e10 : PySem.W.codeIn K cd10 "_law_pick" = true) (q10 : PySem.W.keepIn K (.ref f10) = true)
    (p11 : PySem.W.nsIn K mainGlobals "_law_prime" = some (some (.ref f11))) (l11 : K.lookup f11 = some ⟨oc11, od11, .func (PySem.W.fnOf "_law_prime" "_law_prime" (defArgs s11) (defBody s11) (defScope s11) .none kV11 dc11 pm11 an11 cd11 ct11), sl11⟩) (e11 : PySem.W.codeIn K cd11 "_law_prime" = true) (q11 : PySem.W.keepIn K (.ref f11) = true)
    (p12 : PySem.W.nsIn K mainGlobals "_law_powers" = some (some (.ref f12))) (l12 : K.lookup f12 = some ⟨oc12, od12, .func (PySem.W.fnOf "_law_powers" "_law_powers" (defArgs s12) (defBody s12) (defScope s12) .none kV12 dc12 pm12 an12 cd12 ct12), sl12⟩) (e12 : PySem.W.codeIn K cd12 "_law_powers" = true) (q12 : PySem.W.keepIn K (.ref f12) = true)
    (p13 : PySem.W.nsIn K mainGlobals "_law_lots" = some (some (.ref f13))) (l13 : K.lookup f13 = some ⟨oc13, od13, .func (PySem.W.fnOf "_law_lots" "_law_lots" (defArgs s13) (defBody s13) (defScope s13) .none kV13 dc13 pm13 an13 cd13 ct13), sl13⟩) (e13 : PySem.W.codeIn K cd13 "_law_lots" = true) (q13 : PySem.W.keepIn K (.ref f13) = true)
    (p14 : PySem.W.nsIn K mainGlobals "_law_commuting" = some (some (.ref f14))) (l14 : K.lookup f14 = some ⟨oc14, od14, .func (PySem.W.fnOf "_law_commuting" "_law_commuting" (defArgs s14) (defBody s14) (defScope s14) .none kV14 dc14 pm14 an14 cd14 ct14), sl14⟩) (e14 : PySem.W.codeIn K cd14 "_law_commuting" = true) (q14 : PySem.W.keepIn K (.ref f14) = true)
    (p15 : PySem.W.nsIn K mainGlobals "_law_nought_pairs" = some (some (.ref f15))) (l15 : K.lookup f15 = some ⟨oc15, od15, .func (PySem.W.fnOf "_law_nought_pairs" "_law_nought_pairs" (defArgs s15) (defBody s15) (defScope s15) .none kV15 dc15 pm15 an15 cd15 ct15), sl15⟩) (e15 : PySem.W.codeIn K cd15 "_law_nought_pairs" = true) (q15 : PySem.W.keepIn K (.ref f15) = true)
    (p16 : PySem.W.nsIn K mainGlobals "_law_kinds" = some (some (.ref f16))) (l16 : K.lookup f16 = some ⟨oc16, od16, .func (PySem.W.fnOf "_law_kinds" "_law_kinds" (defArgs s16) (defBody s16) (defScope s16) .none kV16 dc16 pm16 an16 cd16 ct16), sl16⟩) (e16 : PySem.W.codeIn K cd16 "_law_kinds" = true) (q16 : PySem.W.keepIn K (.ref f16) = true)
    (p17 : PySem.W.nsIn K mainGlobals "_law_dues" = some (some (.ref f17))) (l17 : K.lookup f17 = some ⟨oc17, od17, .func (PySem.W.fnOf "_law_dues" "_law_dues" (defArgs s17) (defBody s17) (defScope s17) .none kV17 dc17 pm17 an17 cd17 ct17), sl17⟩) (e17 : PySem.W.codeIn K cd17 "_law_dues" = true) (q17 : PySem.W.keepIn K (.ref f17) = true)
    (p18 : PySem.W.nsIn K mainGlobals "_law_through_one" = some (some (.ref f18))) (l18 : K.lookup f18 = some ⟨oc18, od18, .func (PySem.W.fnOf "_law_through_one" "_law_through_one" (defArgs s18) (defBody s18) (defScope s18) .none kV18 dc18 pm18 an18 cd18 ct18), sl18⟩) (e18 : PySem.W.codeIn K cd18 "_law_through_one" = true) (q18 : PySem.W.keepIn K (.ref f18) = true)
    (p19 : PySem.W.nsIn K mainGlobals "_law_through_two" = some (some (.ref f19))) (l19 : K.lookup f19 = some ⟨oc19, od19, .func (PySem.W.fnOf "_law_through_two" "_law_through_two" (defArgs s19) (defBody s19) (defScope s19) .none kV19 dc19 pm19 an19 cd19 ct19), sl19⟩) (e19 : PySem.W.codeIn K cd19 "_law_through_two" = true) (q19 : PySem.W.keepIn K (.ref f19) = true)
    (p20 : PySem.W.nsIn K mainGlobals "_law_gone_through" = some (some (.ref f20))) (l20 : K.lookup f20 = some ⟨oc20, od20, .func (PySem.W.fnOf "_law_gone_through" "_law_gone_through" (defArgs s20) (defBody s20) (defScope s20) .none kV20 dc20 pm20 an20 cd20 ct20), sl20⟩) (e20 : PySem.W.codeIn K cd20 "_law_gone_through" = true) (q20 : PySem.W.keepIn K (.ref f20) = true)
    (p21 : PySem.W.nsIn K mainGlobals "_law_told" = some (some (.ref f21))) (l21 : K.lookup f21 = some ⟨oc21, od21, .func (PySem.W.fnOf "_law_told" "_law_told" (defArgs s21) (defBody s21) (defScope s21) .none kV21 dc21 pm21 an21 cd21 ct21), sl21⟩) (e21 : PySem.W.codeIn K cd21 "_law_told" = true) (q21 : PySem.W.keepIn K (.ref f21) = true)
    (p22 : PySem.W.nsIn K mainGlobals "_law_are_same" = some (some (.ref f22))) (l22 : K.lookup f22 = some ⟨oc22, od22, .func (PySem.W.fnOf "_law_are_same" "_law_are_same" (defArgs s22) (defBody s22) (defScope s22) .none kV22 dc22 pm22 an22 cd22 ct22), sl22⟩) (e22 : PySem.W.codeIn K cd22 "_law_are_same" = true) (q22 : PySem.W.keepIn K (.ref f22) = true)
    (p23 : PySem.W.nsIn K mainGlobals "law" = some (some (.ref f23))) (l23 : K.lookup f23 = some ⟨oc23, od23, .func (PySem.W.fnOf "law" "law" (defArgs s23) (defBody s23) (defScope s23) .none kV23 dc23 pm23 an23 cd23 ct23), sl23⟩) (e23 : PySem.W.codeIn K cd23 "law" = true) (q23 : PySem.W.keepIn K (.ref f23) = true)
    (z0 : PySem.W.nsIn K mainGlobals "abs" = some none)
    (z1 : PySem.W.nsIn K mainGlobals "all" = some none)
    (z2 : PySem.W.nsIn K mainGlobals "bool" = some none)
    (z3 : PySem.W.nsIn K mainGlobals "enumerate" = some none)
    (z4 : PySem.W.nsIn K mainGlobals "int" = some none)
    (z5 : PySem.W.nsIn K mainGlobals "isinstance" = some none)
    (z6 : PySem.W.nsIn K mainGlobals "len" = some none)
    (z7 : PySem.W.nsIn K mainGlobals "list" = some none)
    (z8 : PySem.W.nsIn K mainGlobals "range" = some none)
    (z9 : PySem.W.nsIn K mainGlobals "reversed" = some none)
    (z10 : PySem.W.nsIn K mainGlobals "sum" = some none)
    : ∃ fd : FuncData, (∀ (s : Shared) (v : Value), BindsTo s fd ⟨[v], []⟩ [("script", v)]) ∧ ∀ base : Heap, K.In base → base.Ns mainGlobals mg → FnOk l.prog w K mg base CX0 24 fa fd ["script"] (Eng.spLaw K) := by
  have e := hfa.symm.trans (PySem.W.mg_of X G p23)
  cases e
  have hb : ∀ x ∈ txt.bs, mg x = none := by
    intro x hx
    simp only [txt, List.mem_cons, List.not_mem_nil, or_false] at hx
    rcases hx with rfl | rfl | rfl | rfl | rfl | rfl | rfl | rfl | rfl | rfl | rfl
    · exact PySem.W.mg_none_of X G z0
    · exact PySem.W.mg_none_of X G z1
    · exact PySem.W.mg_none_of X G z2
    · exact PySem.W.mg_none_of X G z3
    · exact PySem.W.mg_none_of X G z4
    · exact PySem.W.mg_none_of X G z5
    · exact PySem.W.mg_none_of X G z6
    · exact PySem.W.mg_none_of X G z7
    · exact PySem.W.mg_none_of X G z8
    · exact PySem.W.mg_none_of X G z9
    · exact PySem.W.mg_none_of X G z10
  refine ⟨PySem.W.fnOf "law" "law" (defArgs s23) (defBody s23) (defScope s23) .none kV23 dc23 pm23 an23 cd23 ct23, fun s v => .of_eq rfl, fun base _ _ => law_ok (F := F_law) ?_ main⟩
  exact tab hb (fun_mk (st := s0) l0 e0 q0) (PySem.W.mg_of X G p0) (fun_mk (st := s1) l1 e1 q1) (PySem.W.mg_of X G p1) (fun_mk (st := s2) l2 e2 q2) (PySem.W.mg_of X G p2) (fun_mk (st := s3) l3 e3 q3) (PySem.W.mg_of X G p3) (fun_mk (st := s4) l4 e4 q4) (PySem.W.mg_of X G p4) (fun_mk (st := s5) l5 e5 q5) (PySem.W.mg_of X G p5) (fun_mk (st := s6) l6 e6 q6) (PySem.W.mg_of X G p6) (fun_mk (st := s7) l7 e7 q7) (PySem.W.mg_of X G p7) (fun_mk (st := s8) l8 e8 q8) (PySem.W.mg_of X G p8) (fun_mk (st := s9) l9 e9 q9) (PySem.W.mg_of X G p9) (fun_mk (st := s10) l10 e10 q10) (PySem.W.mg_of X G p10) (fun_mk (st := s11) l11 e11 q11) (PySem.W.mg_of X G p11) (fun_mk (st := s12) l12 e12 q12) (PySem.W.mg_of X G p12) (fun_mk (st := s13) l13 e13 q13) (PySem.W.mg_of X G p13) (fun_mk (st := s14) l14 e14 q14) (PySem.W.mg_of X G p14) (fun_mk (st := s15) l15 e15 q15) (PySem.W.mg_of X G p15) (fun_mk (st := s16) l16 e16 q16) (PySem.W.mg_of X G p16) (fun_mk (st := s17) l17 e17 q17) (PySem.W.mg_of X G p17) (fun_mk (st := s18) l18 e18 q18) (PySem.W.mg_of X G p18) (fun_mk (st := s19) l19 e19 q19) (PySem.W.mg_of X G p19) (fun_mk (st := s20) l20 e20 q20) (PySem.W.mg_of X G p20) (fun_mk (st := s21) l21 e21 q21) (PySem.W.mg_of X G p21) (fun_mk (st := s22) l22 e22 q22) (PySem.W.mg_of X G p22) (fun_mk (st := s23) l23 e23 q23) (PySem.W.mg_of X G p23)
end K32W
open PySem PySem.W PyProof.Rows in
set_option maxRecDepth 100000 in
set_option maxHeartbeats 0 in
theorem PySem.Challenge.cw_allofonekind_k32_whole_main_pairs_and_ki_holds : PySem.Challenge.rw_allofonekind_k32_whole_main_pairs_and_ki.Holds := by
  w_on; o_law; k_head; (case hw => w_witness2)
  k_fill
  refine Eng.walk (L := 24) (l := PySem.Challenge.rw_allofonekind_k32_whole_main_pairs_and_ki) ⟨rfl, by decide, by decide⟩ rfl rfl (fun w h Y => PySem.W.kIn_of Y) ?F
  case F =>
    intro w mg fa h KX G hmg
    refine' K32W.all_mk KX G hmg ?p0 ?l0 ?e0 ?q0 ?p1 ?l1 ?e1 ?q1 ?p2 ?l2 ?e2 ?q2 ?p3 ?l3 ?e3 ?q3 ?p4 ?l4 ?e4 ?q4 ?p5 ?l5 ?e5 ?q5 ?p6 ?l6 ?e6 ?q6 ?p7 ?l7 ?e7 ?q7 ?p8 ?l8 ?e8 ?q8 ?p9 ?l9 ?e9 ?q9 ?p10 ?l10 ?e10 ?q10 ?p11 ?l11 ?e11 ?q11 ?p12 ?l12 ?e12 ?q12 ?p13 ?l13 ?e13 ?q13 ?p14 ?l14 ?e14 ?q14 ?p15 ?l15 ?e15 ?q15 ?p16 ?l16 ?e16 ?q16 ?p17 ?l17 ?e17 ?q17 ?p18 ?l18 ?e18 ?q18 ?p19 ?l19 ?e19 ?q19 ?p20 ?l20 ?e20 ?q20 ?p21 ?l21 ?e21 ?q21 ?p22 ?l22 ?e22 ?q22 ?p23 ?l23 ?e23 ?q23 ?z0 ?z1 ?z2 ?z3 ?z4 ?z5 ?z6 ?z7 ?z8 ?z9 ?z10
    (case p0 => k_is)
    (case l0 => k_is)
    (case e0 => k_is)
    (case q0 => k_is)
    (case p1 => k_is)
    (case l1 => k_is)
    (case e1 => k_is)
    (case q1 => k_is)
    (case p2 => k_is)
    (case l2 => k_is)
    (case e2 => k_is)
    (case q2 => k_is)
    (case p3 => k_is)
    (case l3 => k_is)
    (case e3 => k_is)
    (case q3 => k_is)
    (case p4 => k_is)
    (case l4 => k_is)
    (case e4 => k_is)
    (case q4 => k_is)
    (case p5 => k_is)
    (case l5 => k_is)
    (case e5 => k_is)
    (case q5 => k_is)
    (case p6 => k_is)
    (case l6 => k_is)
    (case e6 => k_is)
    (case q6 => k_is)
    (case p7 => k_is)
    (case l7 => k_is)
    (case e7 => k_is)
    (case q7 => k_is)
    (case p8 => k_is)
    (case l8 => k_is)
    (case e8 => k_is)
    (case q8 => k_is)
    (case p9 => k_is)
    (case l9 => k_is)
    (case e9 => k_is)
    (case q9 => k_is)
    (case p10 => k_is)
    (case l10 => k_is)
    (case e10 => k_is)
    (case q10 => k_is)
    (case p11 => k_is)
    (case l11 => k_is)
    (case e11 => k_is)
    (case q11 => k_is)
    (case p12 => k_is)
    (case l12 => k_is)
    (case e12 => k_is)
    (case q12 => k_is)
    (case p13 => k_is)
    (case l13 => k_is)
    (case e13 => k_is)
    (case q13 => k_is)
    (case p14 => k_is)
    (case l14 => k_is)
    (case e14 => k_is)
    (case q14 => k_is)
    (case p15 => k_is)
    (case l15 => k_is)
    (case e15 => k_is)
    (case q15 => k_is)
    (case p16 => k_is)
    (case l16 => k_is)
    (case e16 => k_is)
    (case q16 => k_is)
    (case p17 => k_is)
    (case l17 => k_is)
    (case e17 => k_is)
    (case q17 => k_is)
    (case p18 => k_is)
    (case l18 => k_is)
    (case e18 => k_is)
    (case q18 => k_is)
    (case p19 => k_is)
    (case l19 => k_is)
    (case e19 => k_is)
    (case q19 => k_is)
    (case p20 => k_is)
    (case l20 => k_is)
    (case e20 => k_is)
    (case q20 => k_is)
    (case p21 => k_is)
    (case l21 => k_is)
    (case e21 => k_is)
    (case q21 => k_is)
    (case p22 => k_is)
    (case l22 => k_is)
    (case e22 => k_is)
    (case q22 => k_is)
    (case p23 => k_is)
    (case l23 => k_is)
    (case e23 => k_is)
    (case q23 => k_is)
    (case z0 => k_is)
    (case z1 => k_is)
    (case z2 => k_is)
    (case z3 => k_is)
    (case z4 => k_is)
    (case z5 => k_is)
    (case z6 => k_is)
    (case z7 => k_is)
    (case z8 => k_is)
    (case z9 => k_is)
    (case z10 => k_is)
#print axioms PySem.Challenge.cw_allofonekind_k32_whole_main_pairs_and_ki_holds
