import PyProof.Rows.All
import Wide.All
import OpenK.AllK
import Wide.FinOn
import HandS.ForMost
import HandS.Star
import HandS.FStr
import HandS.IsInst
import HandS.Zip
import HandS.Walk
import HandS.Conv
import HandS.SlotsOwn
import HandS.Codes
import HandS.TupAny
import HandS.ForExc
import HandS.Replace
import HandS.EndTab
import KE.SortKeyHeap
import KE.KDictKeyed
import KE.KDictWalk
import KE.KDictCopyH
import PyProof.SeqIndex
import KE.KIndexOf
import HandS.Head0
import HandS.Head1
import HandS.Head2
import HandS.HeadHook4
import HandS.HeadNt
import HandS.HeadWalk
import KE.GoesMore
import KE.GoesEnum
import PyProof.P3Eq
import HandS.Strs
import KE.KUnpackStar
import HandS.DictComp
import KE.KDictSum
import HandS.Lambda
import HandS.CallLocal
import KE.KDictPairs
import HandS.ExcIs
import HandS.SetFor
import PySem.Challenge.RW_coldcrates_k74_whole_tables_texts_and_co
set_option Elab.async false
set_option linter.all false
set_option maxRecDepth 100000
set_option maxHeartbeats 4000000
/-! text A -/
namespace CC
open PySem PySem.Spec PyProof.Rows L2
def topS (i : Nat) : Stmt := PySem.Challenge.pw_coldcrates_k74_whole_tables_texts_and_co.main.body.getD i (.Pass ⟨0, 0, 0, 0⟩)
/-- a def of the text, under its name -/
structure DefB (K : PySem.W.Frag) (mg : Str → Option Value) (x : Str) (st : Stmt) (ps : List Str) : Prop where
  ex : ∃ (f : Addr) (fd : FuncData), L2.Fun K x x st f fd ∧ mg x = some (.ref f) ∧ Binds K fd ps []
/-- a promise of a def that raises nothing -/
abbrev SpN := List V → Hp → VK → Prop
structure Cal (P : Program) (w : World) (K : PySem.W.Frag) (mg : Str → Option Value) (base : Heap) (k : Nat) (x : Str) (sp : SpN) : Prop where
  ex : ∃ (f : Addr) (fd : FuncData) (ps : List Str), FnOk P w K mg base CX0 k f fd ps (fun vs H Q _ => sp vs H Q) ∧ mg x = some (.ref f) ∧ PySem.W.keepIn K (.ref f) = true ∧ Binds K fd ps []
def tCallN (sp : SpN) (t : TA) : TE := fun σ H Q => t σ H fun vs H1 => sp vs H1 Q
section
variable {P : Program} {w : World} {K : PySem.W.Frag} {mg : Str → Option Value} {base : Heap}
theorem DefB.ok {x : Str} {st : Stmt} {ps N : List Str} {k : Nat} {sp : SpN} (D : DefB K mg x st ps) (S : FnScope N ps (defScope st)) (len : ∀ vs H Q, sp vs H Q → vs.length = ps.length)
    (hbody : ∀ (f : Addr) (cdv : Value) (A : Around) (outer : List Env) (s : Shared) (H : Hp) (vs : List V) (Q : VK) (E : XK), Room k (A.deeper (envOfC x (defScope st) s.heap.objs.size f cdv)) → sp vs H Q →
      ∃ t, PSs (cxOf CX0 P w K mg base N x (defScope st) f cdv A outer s H E).nox (defBody st) t ∧ t { nx := fun _ H' => Q .non H', rt := Q } (start N vs) H) : Cal P w K mg base (k + 1) x sp := by
  obtain ⟨f, fd, F, hm, b⟩ := D.ex
  exact ⟨f, fd, ps, F.ok S (fun vs H Q _ h => len vs H Q h) (fun cdv A outer s H vs Q E hr h => hbody f cdv A outer s H vs Q E hr h), hm, F.kp, b⟩
end
section
variable {X : Cx} {k j : Nat} {x : Str} {sp : SpN} {p pos : Pos} {e : Expr} {es : List Expr} {t : TA}
theorem pe_c (c : Cal X.prog X.w X.K X.mg X.base k x sp) (hr : Room j X.A) (hk : k ≤ j) (hg : Gl X x) (ha : PA X (e :: es) t)
    (hdb : (x == ("__debug__" : Str)) = false := by decide) (he : starEach (e :: es) X.env = (false, eval e X.env) :: starEach es X.env := by rfl) (hpl : (backTo pos (starEach es X.env)).any (·.1) = false := by rfl) :
    PE X (.Call (.Name x p) (e :: es) [] pos) (tCallN sp t) := by
  obtain ⟨f, fd, ps, F, hm, kp, b⟩ := c.ex
  have h := pe_call (pos := pos) (p := p) F (hr.mono hk) hg hm kp b .nil pass0 ha hdb he hpl
  refine ⟨fun pins s σ H Q I hw => h.run pins s σ H Q I ?_⟩
  show t σ H fun vs H1 => sp (vs ++ []) H1 Q
  have e : (fun (vs : List V) H1 => sp (vs ++ []) H1 Q) = fun vs H1 => sp vs H1 Q := by
    funext vs H1
    rw [List.append_nil]
  rw [e]
  exact hw
end
abbrev ent (x : Str) (i : Nat) (ps : List Str) : Str × Nat × List Str := (x, i, ps)
abbrev enI (x : Str) (i : Int) : Str × Int := (x, i)
abbrev enS (x y : Str) : Str × Str := (x, y)
/-- the defs of the text: name, place, parameters -/
def defT : List (Str × Nat × List Str) := [ent "is_number" 27 ["value", "smallest", "largest"], ent "is_word" 28 ["value"], ent "is_door" 29 ["value"], ent "are_doors" 30 ["row"], ent "are_crates" 31 ["row", "places"], ent "all_layouts" 33 ["store"], ent "is_layout" 34 ["store", "value"], ent "check_layout" 35 ["store", "layout"], ent "seen_behind" 36 ["store", "layout", "door"], ent "rank" 37 ["layout"], ent "in_order" 38 ["some"], ent "is_crate" 44 ["store", "value"], ent "is_deed" 45 ["store", "deed"], ent "exchanged" 46 ["layout", "one", "other"], ent "put_elsewhere" 47 ["store", "layout", "name", "is_near"], ent "orders_of" 48 ["things"], ent "shuffled" 49 ["store", "layout", "door"], ent "all_after" 50 ["store", "layout", "deed"], ent "is_sighting" 54 ["store", "value"], ent "check_log" 55 ["store", "log"], ent "is_so" 56 ["store", "layout", "sighting"], ent "behind_row" 57 ["store", "layout", "row"], ent "counts_behind" 58 ["store", "counts", "log"], ent "all_now" 59 ["store", "log"], ent "now" 60 ["store", "log"], ent "need_some" 61 ["rows"], ent "some_now" 62 ["store", "log"], ent "sign_of" 64 ["rows", "name", "place"], ent "table" 65 ["store", "log"], ent "shelf" 66 ["store", "layout"], ent "checksum" 72 ["values"], ent "encode_store" 73 ["store"], ent "decode_store" 75 ["values"], ent "format_store" 81 ["store"], ent "is_count" 82 ["word"], ent "heads_at" 84 ["rows", "names"], ent "parse_store" 85 ["text"], ent "_law_taken" 87 ["_law_row", "_law_many"], ent "_law_pick" 88 ["_law_row", "_law_some"], ent "_law_mixed" 89 ["_law_row", "_law_things"], ent "_law_scheme" 90 ["_law_row", "_law_most", "_law_crates"], ent "_law_store" 91 ["_law_s"], ent "_law_edges" 92 ["_law_s"], ent "_law_rank" 93 ["_law_layout"], ent "_law_layouts" 94 ["_law_s"], ent "_law_seen" 95 ["_law_s", "_law_layout", "_law_door"], ent "_law_turned" 96 ["_law_layout", "_law_one", "_law_other"], ent "_law_after" 97 ["_law_s", "_law_layout", "_law_deed_here"], ent "_law_deed" 98 ["_law_row", "_law_s"], ent "_law_story" 99 ["_law_row", "_law_s", "_law_most"], ent "_law_is_so" 100 ["_law_s", "_law_layout", "_law_row"], ent "_law_counts" 101 ["_law_s", "_law_counts_here", "_law_log"], ent "_law_now" 102 ["_law_s", "_law_log"], ent "_law_raised" 103 ["_law_work"], ent "law" 104 ["_law_script"]]
def freeT : List Str := ["len", "isinstance", "int", "str", "tuple", "bool", "list", "dict", "set", "all", "any", "sum", "min", "abs", "range", "enumerate", "zip", "sorted", "ValueError"]
def intT : List (Str × Int) := [enI "MAX_LETTERS" 8, enI "MAX_DOORS" 4, enI "MAX_WARMTH" 99, enI "MAX_BEHIND" 4, enI "MAX_PLACES" 6, enI "MAX_CRATES" 5, enI "FIRST" 71, enI "CHECK_START" 4, enI "CHECK_TIMES" 11, enI "CHECK_REST" 251, enI "MOST_DIGITS" 2]
def strT : List (Str × Str) := [enS "LETTERS" "abcdefghijklmnopqrstuvwxyz", enS "MOVE" "move", enS "NEAR" "near", enS "SHUFFLE" "shuffle", enS "SWAP" "swap", enS "OPEN" "open", enS "FROSTED" "?", enS "DOOR" "door", enS "CRATES" "crates", enS "DIGITS" "0123456789"]

/-- what the top has left of the text's names -/
structure Base (K : PySem.W.Frag) (mg : Str → Option Value) : Prop where
  defs : ∀ (i : Nat) x j ps, defT[i]? = some (x, j, ps) → DefB K mg x (topS j) ps
  free : ∀ (i : Nat) x, freeT[i]? = some x → mg x = none
  cI : ∀ (i : Nat) x z, intT[i]? = some (x, z) → ∃ u, mg x = some u ∧ RelV (.int z) u
  cS : ∀ (i : Nat) x z, strT[i]? = some (x, z) → ∃ u, mg x = some u ∧ RelV (.str z) u
section
variable {K : PySem.W.Frag} {mg : Str → Option Value} (B : Base K mg)
include B
theorem Base.d_is_number : DefB K mg "is_number" (topS 27) ["value", "smallest", "largest"] := B.defs 0 _ _ _ rfl
theorem Base.d_is_word : DefB K mg "is_word" (topS 28) ["value"] := B.defs 1 _ _ _ rfl
theorem Base.d_is_door : DefB K mg "is_door" (topS 29) ["value"] := B.defs 2 _ _ _ rfl
theorem Base.d_are_doors : DefB K mg "are_doors" (topS 30) ["row"] := B.defs 3 _ _ _ rfl
theorem Base.d_are_crates : DefB K mg "are_crates" (topS 31) ["row", "places"] := B.defs 4 _ _ _ rfl
theorem Base.d_all_layouts : DefB K mg "all_layouts" (topS 33) ["store"] := B.defs 5 _ _ _ rfl
theorem Base.d_is_layout : DefB K mg "is_layout" (topS 34) ["store", "value"] := B.defs 6 _ _ _ rfl
theorem Base.d_check_layout : DefB K mg "check_layout" (topS 35) ["store", "layout"] := B.defs 7 _ _ _ rfl
theorem Base.d_seen_behind : DefB K mg "seen_behind" (topS 36) ["store", "layout", "door"] := B.defs 8 _ _ _ rfl
theorem Base.d_rank : DefB K mg "rank" (topS 37) ["layout"] := B.defs 9 _ _ _ rfl
theorem Base.d_in_order : DefB K mg "in_order" (topS 38) ["some"] := B.defs 10 _ _ _ rfl
theorem Base.d_is_crate : DefB K mg "is_crate" (topS 44) ["store", "value"] := B.defs 11 _ _ _ rfl
theorem Base.d_is_deed : DefB K mg "is_deed" (topS 45) ["store", "deed"] := B.defs 12 _ _ _ rfl
theorem Base.d_exchanged : DefB K mg "exchanged" (topS 46) ["layout", "one", "other"] := B.defs 13 _ _ _ rfl
theorem Base.d_put_elsewhere : DefB K mg "put_elsewhere" (topS 47) ["store", "layout", "name", "is_near"] := B.defs 14 _ _ _ rfl
theorem Base.d_orders_of : DefB K mg "orders_of" (topS 48) ["things"] := B.defs 15 _ _ _ rfl
theorem Base.d_shuffled : DefB K mg "shuffled" (topS 49) ["store", "layout", "door"] := B.defs 16 _ _ _ rfl
theorem Base.d_all_after : DefB K mg "all_after" (topS 50) ["store", "layout", "deed"] := B.defs 17 _ _ _ rfl
theorem Base.d_is_sighting : DefB K mg "is_sighting" (topS 54) ["store", "value"] := B.defs 18 _ _ _ rfl
theorem Base.d_check_log : DefB K mg "check_log" (topS 55) ["store", "log"] := B.defs 19 _ _ _ rfl
theorem Base.d_is_so : DefB K mg "is_so" (topS 56) ["store", "layout", "sighting"] := B.defs 20 _ _ _ rfl
theorem Base.d_behind_row : DefB K mg "behind_row" (topS 57) ["store", "layout", "row"] := B.defs 21 _ _ _ rfl
theorem Base.d_counts_behind : DefB K mg "counts_behind" (topS 58) ["store", "counts", "log"] := B.defs 22 _ _ _ rfl
theorem Base.d_all_now : DefB K mg "all_now" (topS 59) ["store", "log"] := B.defs 23 _ _ _ rfl
theorem Base.d_now : DefB K mg "now" (topS 60) ["store", "log"] := B.defs 24 _ _ _ rfl
theorem Base.d_need_some : DefB K mg "need_some" (topS 61) ["rows"] := B.defs 25 _ _ _ rfl
theorem Base.d_some_now : DefB K mg "some_now" (topS 62) ["store", "log"] := B.defs 26 _ _ _ rfl
theorem Base.d_sign_of : DefB K mg "sign_of" (topS 64) ["rows", "name", "place"] := B.defs 27 _ _ _ rfl
theorem Base.d_table : DefB K mg "table" (topS 65) ["store", "log"] := B.defs 28 _ _ _ rfl
theorem Base.d_shelf : DefB K mg "shelf" (topS 66) ["store", "layout"] := B.defs 29 _ _ _ rfl
theorem Base.d_checksum : DefB K mg "checksum" (topS 72) ["values"] := B.defs 30 _ _ _ rfl
theorem Base.d_encode_store : DefB K mg "encode_store" (topS 73) ["store"] := B.defs 31 _ _ _ rfl
theorem Base.d_decode_store : DefB K mg "decode_store" (topS 75) ["values"] := B.defs 32 _ _ _ rfl
theorem Base.d_format_store : DefB K mg "format_store" (topS 81) ["store"] := B.defs 33 _ _ _ rfl
theorem Base.d_is_count : DefB K mg "is_count" (topS 82) ["word"] := B.defs 34 _ _ _ rfl
theorem Base.d_heads_at : DefB K mg "heads_at" (topS 84) ["rows", "names"] := B.defs 35 _ _ _ rfl
theorem Base.d_parse_store : DefB K mg "parse_store" (topS 85) ["text"] := B.defs 36 _ _ _ rfl
theorem Base.d__law_taken : DefB K mg "_law_taken" (topS 87) ["_law_row", "_law_many"] := B.defs 37 _ _ _ rfl
theorem Base.d__law_pick : DefB K mg "_law_pick" (topS 88) ["_law_row", "_law_some"] := B.defs 38 _ _ _ rfl
theorem Base.d__law_mixed : DefB K mg "_law_mixed" (topS 89) ["_law_row", "_law_things"] := B.defs 39 _ _ _ rfl
theorem Base.d__law_scheme : DefB K mg "_law_scheme" (topS 90) ["_law_row", "_law_most", "_law_crates"] := B.defs 40 _ _ _ rfl
theorem Base.d__law_store : DefB K mg "_law_store" (topS 91) ["_law_s"] := B.defs 41 _ _ _ rfl
theorem Base.d__law_edges : DefB K mg "_law_edges" (topS 92) ["_law_s"] := B.defs 42 _ _ _ rfl
theorem Base.d__law_rank : DefB K mg "_law_rank" (topS 93) ["_law_layout"] := B.defs 43 _ _ _ rfl
theorem Base.d__law_layouts : DefB K mg "_law_layouts" (topS 94) ["_law_s"] := B.defs 44 _ _ _ rfl
theorem Base.d__law_seen : DefB K mg "_law_seen" (topS 95) ["_law_s", "_law_layout", "_law_door"] := B.defs 45 _ _ _ rfl
theorem Base.d__law_turned : DefB K mg "_law_turned" (topS 96) ["_law_layout", "_law_one", "_law_other"] := B.defs 46 _ _ _ rfl
theorem Base.d__law_after : DefB K mg "_law_after" (topS 97) ["_law_s", "_law_layout", "_law_deed_here"] := B.defs 47 _ _ _ rfl
theorem Base.d__law_deed : DefB K mg "_law_deed" (topS 98) ["_law_row", "_law_s"] := B.defs 48 _ _ _ rfl
theorem Base.d__law_story : DefB K mg "_law_story" (topS 99) ["_law_row", "_law_s", "_law_most"] := B.defs 49 _ _ _ rfl
theorem Base.d__law_is_so : DefB K mg "_law_is_so" (topS 100) ["_law_s", "_law_layout", "_law_row"] := B.defs 50 _ _ _ rfl
theorem Base.d__law_counts : DefB K mg "_law_counts" (topS 101) ["_law_s", "_law_counts_here", "_law_log"] := B.defs 51 _ _ _ rfl
theorem Base.d__law_now : DefB K mg "_law_now" (topS 102) ["_law_s", "_law_log"] := B.defs 52 _ _ _ rfl
theorem Base.d__law_raised : DefB K mg "_law_raised" (topS 103) ["_law_work"] := B.defs 53 _ _ _ rfl
theorem Base.d_law : DefB K mg "law" (topS 104) ["_law_script"] := B.defs 54 _ _ _ rfl
theorem Base.f_len : mg "len" = none := B.free 0 _ rfl
theorem Base.f_isinstance : mg "isinstance" = none := B.free 1 _ rfl
theorem Base.f_int : mg "int" = none := B.free 2 _ rfl
theorem Base.f_str : mg "str" = none := B.free 3 _ rfl
theorem Base.f_tuple : mg "tuple" = none := B.free 4 _ rfl
theorem Base.f_bool : mg "bool" = none := B.free 5 _ rfl
theorem Base.f_list : mg "list" = none := B.free 6 _ rfl
theorem Base.f_dict : mg "dict" = none := B.free 7 _ rfl
theorem Base.f_set : mg "set" = none := B.free 8 _ rfl
theorem Base.f_all : mg "all" = none := B.free 9 _ rfl
theorem Base.f_any : mg "any" = none := B.free 10 _ rfl
theorem Base.f_sum : mg "sum" = none := B.free 11 _ rfl
theorem Base.f_min : mg "min" = none := B.free 12 _ rfl
theorem Base.f_abs : mg "abs" = none := B.free 13 _ rfl
theorem Base.f_range : mg "range" = none := B.free 14 _ rfl
theorem Base.f_enumerate : mg "enumerate" = none := B.free 15 _ rfl
theorem Base.f_zip : mg "zip" = none := B.free 16 _ rfl
theorem Base.f_sorted : mg "sorted" = none := B.free 17 _ rfl
theorem Base.f_ValueError : mg "ValueError" = none := B.free 18 _ rfl
theorem Base.g_MAX_LETTERS : ∃ u, mg "MAX_LETTERS" = some u ∧ RelV (.int 8) u := B.cI 0 _ _ rfl
theorem Base.g_MAX_DOORS : ∃ u, mg "MAX_DOORS" = some u ∧ RelV (.int 4) u := B.cI 1 _ _ rfl
theorem Base.g_MAX_WARMTH : ∃ u, mg "MAX_WARMTH" = some u ∧ RelV (.int 99) u := B.cI 2 _ _ rfl
theorem Base.g_MAX_BEHIND : ∃ u, mg "MAX_BEHIND" = some u ∧ RelV (.int 4) u := B.cI 3 _ _ rfl
theorem Base.g_MAX_PLACES : ∃ u, mg "MAX_PLACES" = some u ∧ RelV (.int 6) u := B.cI 4 _ _ rfl
theorem Base.g_MAX_CRATES : ∃ u, mg "MAX_CRATES" = some u ∧ RelV (.int 5) u := B.cI 5 _ _ rfl
theorem Base.g_FIRST : ∃ u, mg "FIRST" = some u ∧ RelV (.int 71) u := B.cI 6 _ _ rfl
theorem Base.g_CHECK_START : ∃ u, mg "CHECK_START" = some u ∧ RelV (.int 4) u := B.cI 7 _ _ rfl
theorem Base.g_CHECK_TIMES : ∃ u, mg "CHECK_TIMES" = some u ∧ RelV (.int 11) u := B.cI 8 _ _ rfl
theorem Base.g_CHECK_REST : ∃ u, mg "CHECK_REST" = some u ∧ RelV (.int 251) u := B.cI 9 _ _ rfl
theorem Base.g_MOST_DIGITS : ∃ u, mg "MOST_DIGITS" = some u ∧ RelV (.int 2) u := B.cI 10 _ _ rfl
theorem Base.g_LETTERS : ∃ u, mg "LETTERS" = some u ∧ RelV (.str "abcdefghijklmnopqrstuvwxyz") u := B.cS 0 _ _ rfl
theorem Base.g_MOVE : ∃ u, mg "MOVE" = some u ∧ RelV (.str "move") u := B.cS 1 _ _ rfl
theorem Base.g_NEAR : ∃ u, mg "NEAR" = some u ∧ RelV (.str "near") u := B.cS 2 _ _ rfl
theorem Base.g_SHUFFLE : ∃ u, mg "SHUFFLE" = some u ∧ RelV (.str "shuffle") u := B.cS 3 _ _ rfl
theorem Base.g_SWAP : ∃ u, mg "SWAP" = some u ∧ RelV (.str "swap") u := B.cS 4 _ _ rfl
theorem Base.g_OPEN : ∃ u, mg "OPEN" = some u ∧ RelV (.str "open") u := B.cS 5 _ _ rfl
theorem Base.g_FROSTED : ∃ u, mg "FROSTED" = some u ∧ RelV (.str "?") u := B.cS 6 _ _ rfl
theorem Base.g_DOOR : ∃ u, mg "DOOR" = some u ∧ RelV (.str "door") u := B.cS 7 _ _ rfl
theorem Base.g_CRATES : ∃ u, mg "CRATES" = some u ∧ RelV (.str "crates") u := B.cS 8 _ _ rfl
theorem Base.g_DIGITS : ∃ u, mg "DIGITS" = some u ∧ RelV (.str "0123456789") u := B.cS 9 _ _ rfl
end
/-! ### heaps that grow -/
/-- all that is no list stays -/
def SameN (H H' : Hp) : Prop := ∀ b o, H b = some o → (∀ xs, o ≠ .lst xs) → H' b = some o
theorem SameN.refl (H : Hp) : SameN H H := fun _ _ h _ => h
theorem SameN.trans {H H1 H2 : Hp} (a : SameN H H1) (b : SameN H1 H2) : SameN H H2 := fun c o h n => b c o (a c o h n) n
theorem _root_.L2.Same.n {H H' : Hp} (e : Same H H') : SameN H H' := fun b o h _ => e b o h
theorem _root_.L2.Same.new {H : Hp} {p : Addr} {o : HO} (h : H p = none) : Same H (upd H p o) := fun a u e => by
  rw [upd_ne (ne_of_none e h)]
  exact e
theorem _root_.L2.Same.mut {H H' : Hp} {p : Addr} {o : HO} (e : Same H H') (h : H p = none) : Same H (upd H' p o) := fun a u ha => by
  rw [upd_ne (ne_of_none ha h)]
  exact e a u ha
/-- a list is written -/
theorem SameN.wr {H : Hp} {p : Addr} {o : HO} {xs : List V} (h : H p = some (.lst xs)) : SameN H (upd H p o) := fun a u e n => by
  rw [upd_ne (fun z => by rw [z, h] at e; exact n xs (Option.some.inj e).symm)]
  exact e
theorem SameN.tup {K : PySem.W.Frag} {H H' : Hp} {a : Addr} {xs : List V} (e : SameN H H') (h : SqT K H a xs) : SqT K H' a xs := by
  rcases h with (h | ⟨o, h⟩) | h
  · exact .inl (.inl (e _ _ h fun _ z => nomatch z))
  · exact .inl (.inr ⟨o, e _ _ h fun _ z => nomatch z⟩)
  · exact .inr h
theorem _root_.L2.Same.tup {K : PySem.W.Frag} {H H' : Hp} {a : Addr} {xs : List V} (e : Same H H') (h : SqT K H a xs) : SqT K H' a xs := e.n.tup h
/-- a new object, its heap by what is known of it -/
theorem newO {H : Hp} {o : HO} {R : Addr → Hp → Prop} (h : ∀ p H1, H p = none → Same H H1 → H1 p = some o → R p H1) : ∀ p, H p = none → R p (upd H p o) := fun p hp => h p _ hp (Same.new hp) upd_same
theorem small {n : Nat} (h : n ≤ 100000) : n ≤ sizeLine := Nat.le_trans h (by decide)
theorem small' {n : Nat} (h : n < 100000) : n < sizeLine := Nat.lt_of_lt_of_le h (by decide)
theorem Paired.snoc {α β : Type} {F : α → β → Prop} : ∀ {l₁ : List α} {l₂ : List β} {a : α} {b : β}, Paired F l₁ l₂ → F a b → Paired F (l₁ ++ [a]) (l₂ ++ [b])
  | _, _, _, _, .nil, h => .cons h .nil
  | _, _, _, _, .cons r t, h => .cons r (Paired.snoc t h)
theorem Paired.imp {α β : Type} {F G : α → β → Prop} (f : ∀ a b, F a b → G a b) : ∀ {l₁ : List α} {l₂ : List β}, Paired F l₁ l₂ → Paired G l₁ l₂
  | _, _, .nil => .nil
  | _, _, .cons r t => .cons (f _ _ r) (Paired.imp f t)
theorem Paired.len {α β : Type} {F : α → β → Prop} : ∀ {l₁ : List α} {l₂ : List β}, Paired F l₁ l₂ → l₁.length = l₂.length
  | _, _, .nil => rfl
  | _, _, .cons _ t => by rw [List.length_cons, List.length_cons, Paired.len t]
theorem Paired.get {α β : Type} {F : α → β → Prop} : ∀ {l₁ : List α} {l₂ : List β} {i : Nat} {b : β}, Paired F l₁ l₂ → l₂[i]? = some b → ∃ a, l₁[i]? = some a ∧ F a b
  | _, _, _, _, .nil, e => by simp at e
  | _, _, 0, _, .cons r _, e => by simp at e; subst e; exact ⟨_, rfl, r⟩
  | _, _, i + 1, b, .cons _ t, e => by
    obtain ⟨a, h1, h2⟩ := Paired.get (i := i) (b := b) t (by simpa using e)
    exact ⟨a, by simpa using h1, h2⟩
theorem Paired.get1 {α β : Type} {F : α → β → Prop} : ∀ {l₁ : List α} {l₂ : List β} {i : Nat} {a : α}, Paired F l₁ l₂ → l₁[i]? = some a → ∃ b, l₂[i]? = some b ∧ F a b
  | _, _, _, _, .nil, e => by simp at e
  | _, _, 0, _, .cons r _, e => by simp at e; subst e; exact ⟨_, rfl, r⟩
  | _, _, i + 1, a, .cons _ t, e => by
    obtain ⟨b, h1, h2⟩ := Paired.get1 (i := i) (a := a) t (by simpa using e)
    exact ⟨b, by simpa using h1, h2⟩
theorem Paired.app {α β : Type} {F : α → β → Prop} : ∀ {l₁ : List α} {l₂ : List β} {m₁ : List α} {m₂ : List β}, Paired F l₁ l₂ → Paired F m₁ m₂ → Paired F (l₁ ++ m₁) (l₂ ++ m₂)
  | _, _, _, _, .nil, h => h
  | _, _, _, _, .cons r t, h => .cons r (Paired.app t h)
theorem Paired.eq {α : Type} : ∀ {l₁ l₂ : List α}, Paired (fun a b => a = b) l₁ l₂ → l₁ = l₂
  | _, _, .nil => rfl
  | _, _, .cons r t => by rw [r, Paired.eq t]
theorem Paired.rfl' {α : Type} : ∀ l : List α, Paired (fun a b => a = b) l l
  | [] => .nil
  | _ :: t => .cons rfl (Paired.rfl' t)
theorem Paired.map2 {α β : Type} {F : α → β → Prop} {f : β → α} (h : ∀ b, F (f b) b) : ∀ l : List β, Paired F (l.map f) l
  | [] => .nil
  | _ :: t => .cons (h _) (Paired.map2 h t)
theorem take_succ_get {α : Type} {l : List α} {i : Nat} {a : α} (h : l[i]? = some a) : l.take (i + 1) = l.take i ++ [a] := by
  rw [List.take_add_one, h]
  rfl
/-! ### a comprehension -/
section
variable {J : It} {n : Nat} {G : Hp → Prop} {Y : Nat → Hp → V → Hp → Prop} {α β : Type}
theorem comp_it {g : TG} {tt : TT} {te : TE} {vs : List Nat} {σ : L2.St} {H1 : Hp} {Qd : Addr → Hp → Prop} (w : Walk J n G Y) (as : List α) (f : α → Option β) (Src : Hp → V → α → Prop) (Out : Hp → V → β → Prop)
    (mono : ∀ H H' v b, SameN H H' → Out H v b → Out H' v b) (hn : as.length = n) (hG : ∀ H', Same H1 H' → G H') (hz : n ≤ 100000)
    (hY : ∀ (i : Nat) H x H' a, as[i]? = some a → Y i H x H' → Same H1 H → Same H H' ∧ Src H' x a)
    (step : ∀ (i : Nat) a x H' (Qy : VK) (Qn : Hp → Prop), as[i]? = some a → Same H1 H' → Src H' x a → (∀ b y H4, f a = some b → Same H' H4 → Out H4 y b → Qy y H4) → (f a = none → ∀ H4, Same H' H4 → Qn H4) →
      g x (wipe σ vs) H' fun σ2 H2 => wipe σ2 vs = wipe σ vs ∧ tt σ2 H2 fun b H3 => if b = true then te σ2 H3 Qy else Qn H3)
    (fin : ∀ D H' ys, H1 D = none → Same H1 H' → H' D = some (.lst ys) → Paired (Out H') ys (as.filterMap f) → Qd D H') :
    ∀ D, H1 D = none → ∃ W : Nat → Nat → Hp → Prop, (∃ m, W 0 m (upd H1 D (.lst []))) ∧ ∀ i m H, W i m H →
      (J.stop i H ∧ Qd D H) ∨ (J.go i H ∧ ∃ Nx : Hp → Prop, (∀ H', Nx H' → ∃ m', m' < m ∧ W (i + 1) m' H') ∧ ∀ x H', J.yld i H x H' → g x (wipe σ vs) H' fun σ2 H2 => wipe σ2 vs = wipe σ vs ∧ tt σ2 H2 fun b H3 =>
        if b = true then te σ2 H3 fun y H4 => ∃ acc, H4 D = some (.lst acc) ∧ acc.length < sizeLine ∧ Nx (upd H4 D (.lst (acc ++ [y]))) else Nx H3) := by
  intro D hD
  refine lc_it w (fun i H => Same H1 H ∧ ∃ ys, H D = some (.lst ys) ∧ Paired (Out H) ys ((as.take i).filterMap f) ∧ ys.length ≤ i)
    ⟨Same.new hD, [], upd_same, by rw [List.take_zero]; exact .nil, Nat.le_refl _⟩ (fun i H _ p => hG H p.1) ?_ ?_
  · rintro i x H H' hi ⟨e1, ys, h2, h3, h4⟩ hy
    obtain ⟨a, ha⟩ : ∃ a, as[i]? = some a := ⟨_, List.getElem?_eq_getElem (by omega)⟩
    obtain ⟨e2, hs⟩ := hY i H x H' a ha hy e1
    refine step i a x H' (fun y H4 => ∃ acc, H4 D = some (.lst acc) ∧ acc.length < sizeLine ∧ (Same H1 (upd H4 D (.lst (acc ++ [y]))) ∧ ∃ ys, (upd H4 D (.lst (acc ++ [y]))) D = some (.lst ys) ∧ Paired (Out (upd H4 D (.lst (acc ++ [y])))) ys ((as.take (i + 1)).filterMap f) ∧ ys.length ≤ i + 1))
      (fun H3 => Same H1 H3 ∧ ∃ ys, H3 D = some (.lst ys) ∧ Paired (Out H3) ys ((as.take (i + 1)).filterMap f) ∧ ys.length ≤ i + 1) ha (e1.trans e2) hs (fun b y H4 hb e4 ho => ?_) (fun hb H4 e4 => ?_)
    · have hD4 : H4 D = some (.lst ys) := e4 _ _ (e2 _ _ h2)
      refine ⟨ys, hD4, small' (by omega), ((e1.trans e2).trans e4).mut hD, _, upd_same, ?_, by rw [List.length_append, List.length_singleton]; omega⟩
      rw [take_succ_get ha, List.filterMap_append, show [a].filterMap f = [b] by simp [hb]]
      exact Paired.snoc (Paired.imp (fun v b h => mono _ _ v b (((e2.trans e4).n).trans (SameN.wr hD4)) h) h3) (mono _ _ _ _ (SameN.wr hD4) ho)
    · refine ⟨(e1.trans e2).trans e4, ys, e4 _ _ (e2 _ _ h2), ?_, by omega⟩
      rw [take_succ_get ha, List.filterMap_append, show [a].filterMap f = [] by simp [hb], List.append_nil]
      exact Paired.imp (fun v b h => mono _ _ v b ((e2.trans e4).n) h) h3
  · rintro H ⟨e1, ys, h2, h3, h4⟩
    rw [← hn, List.take_length] at h3
    exact fin D H ys hD e1 h2 h3
end
theorem fm_some {α β : Type} (f : α → β) (l : List α) : l.filterMap (fun a => some (f a)) = l.map f := by
  induction l with
  | nil => rfl
  | cons a t ih => rw [List.filterMap_cons, List.map_cons, ih]
theorem kit_int_int {K : PySem.W.Frag} : PySem.W.kitOne K (.type "int") (.type "int") = some true := kit_ty (by decide +kernel)
theorem kit_int_bool {K : PySem.W.Frag} : PySem.W.kitOne K (.type "int") (.type "bool") = some false := kit_ty (by decide +kernel)
theorem kit_str_str {K : PySem.W.Frag} : PySem.W.kitOne K (.type "str") (.type "str") = some true := kit_ty (by decide +kernel)
theorem kit_none_str {K : PySem.W.Frag} : PySem.W.kitOne K (.type "NoneType") (.type "str") = some false := kit_ty (by decide +kernel)
theorem kit_tup_tup {K : PySem.W.Frag} : PySem.W.kitOne K (.type "tuple") (.type "tuple") = some true := kit_ty (by decide +kernel)
theorem tyX_tup {K : PySem.W.Frag} {H : Hp} {a : Addr} {xs : List V} (h : SqT K H a xs) : TyX K H (.ref a) (.type "tuple") := by
  rcases h with (h | ⟨o, h⟩) | ⟨o, its, n, h, hc, _⟩
  · exact .base (.tup h)
  · exact .fTuple h
  · exact .kTuple h hc
theorem isi_yes {K : PySem.W.Frag} {x : V} {n t : String} {b : Bool} {H : Hp} {Q : VK} (ty : TyX K H x (.type t)) (k : PySem.W.kitOne K (.type t) (.type n) = some b) (q : Q (.bl b) H) : rIsi K [x, .ty n] H Q := ⟨x, .ty n, _, _, b, rfl, .ty n, ty, k, q⟩
theorem iteD {c A B : Prop} [Decidable c] (hc : c) (h : A) : if decide c = true then A else B := by
  rw [decide_eq_true hc]
  exact iteT h
theorem iteND {c A B : Prop} [Decidable c] (hc : ¬ c) (h : B) : if decide c = true then A else B := by
  rw [decide_eq_false hc]
  exact iteF h
theorem all_true {α : Type} {l : List α} {f : α → Bool} (h : ∀ a ∈ l, f a = true) : (l.map f).all id = true := by
  rw [List.all_map]
  exact List.all_eq_true.mpr h
theorem bls_of {l : List Bool} {ys : List V} (p : Paired (fun v b => v = V.bl b) ys l) : ys = l.map V.bl := by
  induction p with
  | nil => rfl
  | cons r _ ih => rw [r, ih]; rfl
theorem ints_of {l : List Int} {ys : List V} (p : Paired (fun v b => v = V.int b) ys l) : ys = l.map V.int := by
  induction p with
  | nil => rfl
  | cons r _ ih => rw [r, ih]; rfl
theorem strs_of {l : List Str} {ys : List V} (p : Paired (fun v b => v = V.str b) ys l) : ys = l.map V.str := by
  induction p with
  | nil => rfl
  | cons r _ ih => rw [r, ih]; rfl
section
variable {X : Cx}
theorem pe_gc {x : Str} {v : V} {pos : Pos} (hg : Gl X x) (h : ∃ u, X.mg x = some u ∧ RelV v u) (hd : (x == ("__debug__" : Str)) = false := by decide) : PE X (.Name x pos) (tC v) := by
  obtain ⟨u, h1, h2⟩ := h
  exact pe_glob hg h1 h2 hd
end
/-! ### comprehensions whose parts speak of the block's own context -/
abbrev Fam (T : Type) : Type := Shared → Hp → Addr → List (Str × Addr) → List Addr → T
abbrev Fam.at0 {T : Type} (X : Cx) (f : Fam T) : T := f X.s_0 X.H_0 0 [] []
section
variable {X : Cx}
theorem pe_lcX {elt tg iter : Expr} {ifs : List Expr} {scope : Scope} {own : List (Str × Nat)} {pos : Pos} {wi : TI} {g : Fam TG} {tt : Fam TT} {te : Fam TE} (hc : X.calm = true) (hN : X.N.Nodup) (hi : PI X tg iter wi) (ok : BlkOk X.N X.env.scope scope own)
    (hg : ∀ (s : Shared) (H : Hp) (C : Addr) (cl : List (Str × Addr)) (fp : List Addr), PG (X.blk s H scope (compEnvC scope cl C X.env) fp) tg (g s H C cl fp)) (ht : ∀ (s : Shared) (H : Hp) (C : Addr) (cl : List (Str × Addr)) (fp : List Addr), PTs (X.blk s H scope (compEnvC scope cl C X.env) fp) ifs (tt s H C cl fp))
    (he : ∀ (s : Shared) (H : Hp) (C : Addr) (cl : List (Str × Addr)) (fp : List Addr), PE (X.blk s H scope (compEnvC scope cl C X.env) fp) elt (te s H C cl fp))
    (eg : ∀ s H C cl fp, g s H C cl fp = g.at0 X := by intros; rfl) (et : ∀ s H C cl fp, tt s H C cl fp = tt.at0 X := by intros; rfl) (ee : ∀ s H C cl fp, te s H C cl fp = te.at0 X := by intros; rfl)
    (hs : ∀ x, foldedSetIterable iter X.env x = pure x := by intro _; rfl) :
    PE X (.ListComp elt [⟨tg, iter, ifs, 0⟩] scope pos) (tLc wi (g.at0 X) (tt.at0 X) (te.at0 X) (own.map (·.2))) :=
  pe_lc hc hN hi ok (fun s H C cl fp => eg s H C cl fp ▸ hg s H C cl fp) (fun s H C cl fp => et s H C cl fp ▸ ht s H C cl fp) (fun s H C cl fp => ee s H C cl fp ▸ he s H C cl fp) hs
theorem ps_setLcX {i : Nat} {y : Str} {py : Pos} {elt tg iter : Expr} {ifs : List Expr} {scope : Scope} {own : List (Str × Nat)} {pos spos : Pos} {wi : TI} {g : Fam TG} {tt : Fam TT} {te : Fam TE} (hc : X.calm = true) (hN : X.N.Nodup) (hy : X.N[i]? = some y) (hyl : X.env.scope.names.lookup y = some .local)
    (hsw : swapsWith (.ListComp elt [⟨tg, iter, ifs, 0⟩] scope pos) (some (.Name y py)) spos.line X.env = pure true) (hi : PI X tg iter wi) (ok : BlkOk X.N X.env.scope scope own)
    (hg : ∀ (s : Shared) (H : Hp) (C : Addr) (cl : List (Str × Addr)) (fp : List Addr), PG (X.blk s H scope (compEnvC scope cl C X.env) fp) tg (g s H C cl fp)) (ht : ∀ (s : Shared) (H : Hp) (C : Addr) (cl : List (Str × Addr)) (fp : List Addr), PTs (X.blk s H scope (compEnvC scope cl C X.env) fp) ifs (tt s H C cl fp))
    (he : ∀ (s : Shared) (H : Hp) (C : Addr) (cl : List (Str × Addr)) (fp : List Addr), PE (X.blk s H scope (compEnvC scope cl C X.env) fp) elt (te s H C cl fp))
    (eg : ∀ s H C cl fp, g s H C cl fp = g.at0 X := by intros; rfl) (et : ∀ s H C cl fp, tt s H C cl fp = tt.at0 X := by intros; rfl) (ee : ∀ s H C cl fp, te s H C cl fp = te.at0 X := by intros; rfl)
    (hs : ∀ x, foldedSetIterable iter X.env x = pure x := by intro _; rfl) :
    PS X (.Assign [.Name y py] (.ListComp elt [⟨tg, iter, ifs, 0⟩] scope pos) spos) (tAsg (tLc wi (g.at0 X) (tt.at0 X) (te.at0 X) (own.map (·.2))) (gName i)) :=
  ps_setLc hc hN hy hyl hsw hi ok (fun s H C cl fp => eg s H C cl fp ▸ hg s H C cl fp) (fun s H C cl fp => et s H C cl fp ▸ ht s H C cl fp) (fun s H C cl fp => ee s H C cl fp ▸ he s H C cl fp) hs
end
theorem qb (Q : VK) {H : Hp} {b c : Bool} (e : b = c) (h : Q (.bl c) H) : Q (.bl b) H := e ▸ h
theorem walk_zipT {K : PySem.W.Frag} {a b : Addr} {xs ys : List V} {n : Nat} (hn : n = min xs.length ys.length) : Walk (RZ.ItzT K a b) n (fun H => SqT K H a xs ∧ SqT K H b ys) (YPair (fun i => xs[i]?) (fun i => ys[i]?)) := by
  subst hn
  refine ⟨fun i _ hi q => ?_, fun _ q => ⟨xs, ys, q.1, q.2, by omega⟩, fun i H v H' _ q y => ?_⟩
  · have h1 : i < xs.length := by omega
    have h2 : i < ys.length := by omega
    exact ⟨xs, ys, xs[i], ys[i], q.1, q.2, by simp [h1], by simp [h2]⟩
  · obtain ⟨T, x, z, h1, h2, h3, h4, h5⟩ := y
    exact ⟨T, x, z, h1, h2, h3, h4 xs q.1, h5 ys q.2⟩
/-- a new pair at hand -/
def PairV (K : PySem.W.Frag) (H : Hp) (v x y : V) : Prop := ∃ T, v = .ref T ∧ SqT K H T [x, y]
theorem pair_of {K : PySem.W.Frag} {xs ys : Nat → Option V} {i : Nat} {H H' : Hp} {v : V} (y : YPair xs ys i H v H') : ∃ a b, xs i = some a ∧ ys i = some b ∧ Same H H' ∧ PairV K H' v a b := by
  obtain ⟨T, a, b, rfl, h, rfl, h1, h2⟩ := y
  exact ⟨a, b, h1, h2, Same.new h, T, rfl, SqT.of upd_same⟩
/-- a new object's address is the answer -/
theorem newV {H : Hp} {o : HO} {Q : VK} (h : ∀ p H1, H p = none → Same H H1 → H1 p = some o → Q (.ref p) H1) : ∀ p, H p = none → Q (.ref p) (upd H p o) := fun p hp => h p _ hp (Same.new hp) upd_same
/-- a heap with a new object, by what is known of it -/
theorem upH {H H' : Hp} {p : Addr} {o : HO} (h : upd H p o = H') (hp : H p = none) : Same H H' ∧ H' p = some o := by
  subst h
  exact ⟨Same.new hp, upd_same⟩
/-- both ways of an if go on alike -/
theorem if_join {c : Bool} {A B : Prop} {N : Hp → Prop} (J : Hp → Prop) (hB : (∀ H8, J H8 → N H8) → c = false → B) (hA : (∀ H8, J H8 → N H8) → c = true → A) (hN : ∀ H8, J H8 → N H8) : if c = true then A else B := by
  cases c with
  | true => exact iteT (hA hN rfl)
  | false => exact iteF (hB hN rfl)
theorem SameN.list {H H' : Hp} {L : Addr} {xs : List V} (h : H L = some (.lst xs)) (k : ∀ b o, b ≠ L → H b = some o → H' b = some o) : SameN H H' := fun b o hb n => k b o (fun z => by rw [z, h] at hb; exact n xs (Option.some.inj hb).symm) hb
theorem Same.but {H0 H H' : Hp} {L : Addr} (e : Same H0 H) (n : H0 L = none) (k : ∀ b o, b ≠ L → H b = some o → H' b = some o) : Same H0 H' := fun b o hb => k b o (fun z => by rw [z, n] at hb; cases hb) (e b o hb)
end CC

/-! text H1 -/
namespace CCH
open PySem PySem.Spec PyProof.Rows L2 CC
/-! ### what is read of the top's end -/
def propF (K : PySem.W.Frag) (C : Addr) (m : Str) : Addr := match PySem.W.recIn K (He.ma K C m) "property" with
  | some (.ref f :: _) => f
  | _ => 0
def propB (K : PySem.W.Frag) (C : Addr) (m : Str) : Bool := match PySem.W.recIn K (He.ma K C m) "property" with
  | some (.ref _ :: _) => true
  | _ => false
theorem prop_ok {K : PySem.W.Frag} {C : Addr} {m : Str} (h : propB K C m = true) : ∃ rest, PySem.W.recIn K (He.ma K C m) "property" = some (.ref (propF K C m) :: rest) := by
  unfold propB at h
  unfold propF
  split at h
  · rename_i f rest e
    exact ⟨rest, by rw [e]⟩
  · cases h
structure SaysC (fa : List He.Fa) (fn : List He5.DefA) (tf : List He.Defn) (ex : PySem.W.Frag → List Bool) (h : Heap) (K : PySem.W.Frag) : Prop where
  a : He5.SaysA fa fn K
  more : (ex K).all id = true
  tab : ∀ p ∈ tf, PySem.W.codeHdIn K (He.cT K p).1 (He.cT K p).2 = true ∧ K.lookup (He.cT K p).2 = none ∧ h.get? (He.cT K p).2 = some { cls := .none, data := .fields #[] }
/-! ### the part of the heap that is looked at -/
def refsF (g : Addr → Option Obj) (a : Addr) : List Addr := match g a with
  | some ⟨_, _, .func fd, _⟩ => He.refV fd.code
  | _ => []
def refsG (g : Addr → Option Obj) (a : Addr) : List Addr := match g a with
  | some o => He.refsO o
  | none => []
def nsG (g : Addr → Option Obj) (a : Addr) : Addr := match g a with
  | some ⟨_, _, .cls cd, _⟩ => cd.ns
  | _ => 0
def gaG (g : Addr → Option Obj) (x : Str) : Addr := He.ga (He.frG g [mainGlobals]) x
/-- functions by name, their code; classes, their names, their methods, the methods' code -/
def asC (g : Addr → Option Obj) (fs cs ms : List Str) : List Addr :=
  let F := fs.map (gaG g)
  let C := cs.map (gaG g)
  let L := ms.flatMap fun c => refsG g (nsG g (gaG g c))
  let L2 := L.flatMap (refsG g)
  mainGlobals :: (C ++ (C.map (nsG g) ++ (L ++ (L2 ++ (L2.flatMap (refsF g) ++ (F ++ F.flatMap (refsF g)))))))
def gF0 : List Str := [Str.ofString "is_number", Str.ofString "is_word", Str.ofString "is_door", Str.ofString "are_doors", Str.ofString "are_crates", Str.ofString "all_layouts", Str.ofString "is_layout", Str.ofString "check_layout", Str.ofString "seen_behind", Str.ofString "rank", Str.ofString "in_order", Str.ofString "is_crate"]
def gF1 : List Str := [Str.ofString "is_deed", Str.ofString "exchanged", Str.ofString "put_elsewhere", Str.ofString "orders_of", Str.ofString "shuffled", Str.ofString "all_after", Str.ofString "is_sighting", Str.ofString "check_log", Str.ofString "is_so", Str.ofString "behind_row", Str.ofString "counts_behind", Str.ofString "all_now"]
def gF2 : List Str := [Str.ofString "now", Str.ofString "need_some", Str.ofString "some_now", Str.ofString "sign_of", Str.ofString "table", Str.ofString "shelf", Str.ofString "checksum", Str.ofString "encode_store", Str.ofString "decode_store", Str.ofString "format_store", Str.ofString "is_count", Str.ofString "heads_at"]
def gF3 : List Str := [Str.ofString "parse_store", Str.ofString "_law_taken", Str.ofString "_law_pick", Str.ofString "_law_mixed", Str.ofString "_law_scheme", Str.ofString "_law_store", Str.ofString "_law_edges", Str.ofString "_law_rank", Str.ofString "_law_layouts", Str.ofString "_law_seen", Str.ofString "_law_turned", Str.ofString "_law_after"]
def gF4 : List Str := [Str.ofString "_law_deed", Str.ofString "_law_story", Str.ofString "_law_is_so", Str.ofString "_law_counts", Str.ofString "_law_now", Str.ofString "_law_raised", Str.ofString "law"]
def gF : List Str := gF0 ++ (gF1 ++ (gF2 ++ (gF3 ++ (gF4))))
def gC0 : List Str := [Str.ofString "InvalidStore", Str.ofString "InvalidHands", Str.ofString "InvalidLog", Str.ofString "InvalidPairs", Str.ofString "UnknownPlace", Str.ofString "UnknownDoor", Str.ofString "UnknownCrate", Str.ofString "InvalidLayout", Str.ofString "InvalidDeed", Str.ofString "NoLayout", Str.ofString "InvalidRow", Str.ofString "TooMany"]
def gC1 : List Str := [Str.ofString "InvalidNames", Str.ofString "InvalidHabits", Str.ofString "InvalidNumber", Str.ofString "StoreError", Str.ofString "Store", Str.ofString "Reader", Str.ofString "Row"]
def gC : List Str := gC0 ++ (gC1)
def asN (g : Addr → Option Obj) (_ : Unit) : List Addr := asC g gF gC [Str.ofString "Store", Str.ofString "Reader", Str.ofString "Row"]
abbrev AlC : Type := He.AlD × Bool
def lookC (n : Unit) (fa : List He.Fa) (fn : List He5.DefA) (tf : List He.Defn) (ex : PySem.W.Frag → List Bool) (g : Addr → Option Obj) : AlC := (He5.obsA fa fn (He.frT g (asN g n)), (ex (He.frT g (asN g n))).all id && He.tabsB g tf (He.frT g (asN g n)))
theorem says_of {n : Unit} {fa : List He.Fa} {fn : List He5.DefA} {tf : List He.Defn} {ex : PySem.W.Frag → List Bool} {h : Heap} (e : lookC n fa fn tf ex h.get? = (He5.valA fn, true)) : SaysC fa fn tf ex h (He.frT h.get? (asN h.get? n)) := by
  obtain ⟨z1, z2⟩ := He.ba (congrArg (fun z : AlC => z.2) e)
  refine ⟨congrArg (fun z : AlC => z.1) e, z1, fun p hp => ?_⟩
  obtain ⟨z3, z4⟩ := He.ba (List.all_eq_true.mp z2 p hp)
  cases q : h.get? (He.cT (He.frT h.get? (asN h.get? n)) p).2 with
  | none => rw [q] at z4; cases z4
  | some o => rw [q] at z4; exact ⟨z3, He.frT_none q z4, by rw [He.emptyTab_eq z4]⟩
def hookC (n : Unit) (fa : List He.Fa) (fn : List He5.DefA) (tf : List He.Defn) (ex : PySem.W.Frag → List Bool) : PySem.W.Hook where
  α := AlC
  obs := fun s => lookC n fa fn tf ex s.heap.get?
  val := fun _ => (He5.valA fn, true)
  says := fun _ h => ∃ K : PySem.W.Frag, K.In h ∧ SaysC fa fn tf ex h K
  of := fun _ _ e => ⟨_, He.frT_in, says_of e⟩
  keeps := fun _ _ _ ⟨K, hK, c⟩ k => ⟨K, PySem.W.Frag.In.keeps hK k, c.a, c.more, fun p hp => ⟨(c.tab p hp).1, (c.tab p hp).2.1, k _ _ (c.tab p hp).2.2⟩⟩
/-! ### what is asked -/
def fA0 : List He.Fa := [.glo (Str.ofString "is_number"), .glo (Str.ofString "is_word"), .glo (Str.ofString "is_door"), .glo (Str.ofString "are_doors"), .glo (Str.ofString "are_crates"), .glo (Str.ofString "all_layouts"), .glo (Str.ofString "is_layout"), .glo (Str.ofString "check_layout"), .glo (Str.ofString "seen_behind"), .glo (Str.ofString "rank"), .glo (Str.ofString "in_order"), .glo (Str.ofString "is_crate")]
def fA1 : List He.Fa := [.glo (Str.ofString "is_deed"), .glo (Str.ofString "exchanged"), .glo (Str.ofString "put_elsewhere"), .glo (Str.ofString "orders_of"), .glo (Str.ofString "shuffled"), .glo (Str.ofString "all_after"), .glo (Str.ofString "is_sighting"), .glo (Str.ofString "check_log"), .glo (Str.ofString "is_so"), .glo (Str.ofString "behind_row"), .glo (Str.ofString "counts_behind"), .glo (Str.ofString "all_now")]
def fA2 : List He.Fa := [.glo (Str.ofString "now"), .glo (Str.ofString "need_some"), .glo (Str.ofString "some_now"), .glo (Str.ofString "sign_of"), .glo (Str.ofString "table"), .glo (Str.ofString "shelf"), .glo (Str.ofString "checksum"), .glo (Str.ofString "encode_store"), .glo (Str.ofString "decode_store"), .glo (Str.ofString "format_store"), .glo (Str.ofString "is_count"), .glo (Str.ofString "heads_at")]
def fA3 : List He.Fa := [.glo (Str.ofString "parse_store"), .glo (Str.ofString "_law_taken"), .glo (Str.ofString "_law_pick"), .glo (Str.ofString "_law_mixed"), .glo (Str.ofString "_law_scheme"), .glo (Str.ofString "_law_store"), .glo (Str.ofString "_law_edges"), .glo (Str.ofString "_law_rank"), .glo (Str.ofString "_law_layouts"), .glo (Str.ofString "_law_seen"), .glo (Str.ofString "_law_turned"), .glo (Str.ofString "_law_after")]
def fA4 : List He.Fa := [.glo (Str.ofString "_law_deed"), .glo (Str.ofString "_law_story"), .glo (Str.ofString "_law_is_so"), .glo (Str.ofString "_law_counts"), .glo (Str.ofString "_law_now"), .glo (Str.ofString "_law_raised"), .glo (Str.ofString "law"), .glo (Str.ofString "InvalidStore"), .glo (Str.ofString "InvalidHands"), .glo (Str.ofString "InvalidLog"), .glo (Str.ofString "InvalidPairs"), .glo (Str.ofString "UnknownPlace")]
def fA5 : List He.Fa := [.glo (Str.ofString "UnknownDoor"), .glo (Str.ofString "UnknownCrate"), .glo (Str.ofString "InvalidLayout"), .glo (Str.ofString "InvalidDeed"), .glo (Str.ofString "NoLayout"), .glo (Str.ofString "InvalidRow"), .glo (Str.ofString "TooMany"), .glo (Str.ofString "InvalidNames"), .glo (Str.ofString "InvalidHabits"), .glo (Str.ofString "InvalidNumber"), .glo (Str.ofString "StoreError"), .glo (Str.ofString "Store")]
def fA6 : List He.Fa := [.glo (Str.ofString "Reader"), .glo (Str.ofString "Row"), .free (Str.ofString "len"), .free (Str.ofString "isinstance"), .free (Str.ofString "int"), .free (Str.ofString "str"), .free (Str.ofString "tuple"), .free (Str.ofString "bool"), .free (Str.ofString "list"), .free (Str.ofString "dict"), .free (Str.ofString "set"), .free (Str.ofString "all")]
def fA7 : List He.Fa := [.free (Str.ofString "any"), .free (Str.ofString "sum"), .free (Str.ofString "min"), .free (Str.ofString "abs"), .free (Str.ofString "range"), .free (Str.ofString "enumerate"), .free (Str.ofString "zip"), .free (Str.ofString "sorted"), .free (Str.ofString "ValueError"), .int (Str.ofString "MAX_LETTERS") 8, .int (Str.ofString "MAX_DOORS") 4, .int (Str.ofString "MAX_WARMTH") 99]
def fA8 : List He.Fa := [.int (Str.ofString "MAX_BEHIND") 4, .int (Str.ofString "MAX_PLACES") 6, .int (Str.ofString "MAX_CRATES") 5, .int (Str.ofString "FIRST") 71, .int (Str.ofString "CHECK_START") 4, .int (Str.ofString "CHECK_TIMES") 11, .int (Str.ofString "CHECK_REST") 251, .int (Str.ofString "MOST_DIGITS") 2, .str (Str.ofString "LETTERS") (Str.ofString "abcdefghijklmnopqrstuvwxyz"), .str (Str.ofString "MOVE") (Str.ofString "move"), .str (Str.ofString "NEAR") (Str.ofString "near"), .str (Str.ofString "SHUFFLE") (Str.ofString "shuffle")]
def fA9 : List He.Fa := [.str (Str.ofString "SWAP") (Str.ofString "swap"), .str (Str.ofString "OPEN") (Str.ofString "open"), .str (Str.ofString "FROSTED") (Str.ofString "?"), .str (Str.ofString "DOOR") (Str.ofString "door"), .str (Str.ofString "CRATES") (Str.ofString "crates"), .str (Str.ofString "DIGITS") (Str.ofString "0123456789"), .cls (Str.ofString "Reader"), .cls (Str.ofString "Row"), .noat (Str.ofString "Reader") (Str.ofString "data"), .noat (Str.ofString "Reader") (Str.ofString "spot"), .noat (Str.ofString "Row") (Str.ofString "number"), .noat (Str.ofString "Row") (Str.ofString "words")]
def fA10 : List He.Fa := [.noat (Str.ofString "Row") (Str.ofString "spot"), .meth (Str.ofString "Store") (Str.ofString "__len__"), .meth (Str.ofString "Store") (Str.ofString "__eq__"), .meth (Str.ofString "Store") (Str.ofString "door_of"), .meth (Str.ofString "Store") (Str.ofString "places_of"), .meth (Str.ofString "Reader") (Str.ofString "item"), .meth (Str.ofString "Reader") (Str.ofString "read_door"), .meth (Str.ofString "Reader") (Str.ofString "read_crate"), .meth (Str.ofString "Reader") (Str.ofString "finish"), .meth (Str.ofString "Row") (Str.ofString "has_more"), .meth (Str.ofString "Row") (Str.ofString "next_word"), .meth (Str.ofString "Row") (Str.ofString "read_crates")]
def fA11 : List He.Fa := [.mkr (Str.ofString "Store"), .mkr (Str.ofString "Reader"), .mkr (Str.ofString "Row"), .exc (Str.ofString "NoLayout"), .exm (Str.ofString "NoLayout") (Str.ofString "StoreError") true]
def fA : List He.Fa := fA0 ++ (fA1 ++ (fA2 ++ (fA3 ++ (fA4 ++ (fA5 ++ (fA6 ++ (fA7 ++ (fA8 ++ (fA9 ++ (fA10 ++ (fA11)))))))))))
def fN0 : List He5.DefA := [⟨fun K => He.ga K (Str.ofString "is_number"), Str.ofString "is_number", Str.ofString "is_number", defArgs (topS 27), defBody (topS 27), defScope (topS 27), [], []⟩, ⟨fun K => He.ga K (Str.ofString "is_word"), Str.ofString "is_word", Str.ofString "is_word", defArgs (topS 28), defBody (topS 28), defScope (topS 28), [], []⟩, ⟨fun K => He.ga K (Str.ofString "is_door"), Str.ofString "is_door", Str.ofString "is_door", defArgs (topS 29), defBody (topS 29), defScope (topS 29), [], []⟩, ⟨fun K => He.ga K (Str.ofString "are_doors"), Str.ofString "are_doors", Str.ofString "are_doors", defArgs (topS 30), defBody (topS 30), defScope (topS 30), [], []⟩, ⟨fun K => He.ga K (Str.ofString "are_crates"), Str.ofString "are_crates", Str.ofString "are_crates", defArgs (topS 31), defBody (topS 31), defScope (topS 31), [], []⟩, ⟨fun K => He.ga K (Str.ofString "all_layouts"), Str.ofString "all_layouts", Str.ofString "all_layouts", defArgs (topS 33), defBody (topS 33), defScope (topS 33), [], []⟩]
def fN1 : List He5.DefA := [⟨fun K => He.ga K (Str.ofString "is_layout"), Str.ofString "is_layout", Str.ofString "is_layout", defArgs (topS 34), defBody (topS 34), defScope (topS 34), [], []⟩, ⟨fun K => He.ga K (Str.ofString "check_layout"), Str.ofString "check_layout", Str.ofString "check_layout", defArgs (topS 35), defBody (topS 35), defScope (topS 35), [], []⟩, ⟨fun K => He.ga K (Str.ofString "seen_behind"), Str.ofString "seen_behind", Str.ofString "seen_behind", defArgs (topS 36), defBody (topS 36), defScope (topS 36), [], []⟩, ⟨fun K => He.ga K (Str.ofString "rank"), Str.ofString "rank", Str.ofString "rank", defArgs (topS 37), defBody (topS 37), defScope (topS 37), [], []⟩, ⟨fun K => He.ga K (Str.ofString "in_order"), Str.ofString "in_order", Str.ofString "in_order", defArgs (topS 38), defBody (topS 38), defScope (topS 38), [], []⟩, ⟨fun K => He.ga K (Str.ofString "is_crate"), Str.ofString "is_crate", Str.ofString "is_crate", defArgs (topS 44), defBody (topS 44), defScope (topS 44), [], []⟩]
def fN2 : List He5.DefA := [⟨fun K => He.ga K (Str.ofString "is_deed"), Str.ofString "is_deed", Str.ofString "is_deed", defArgs (topS 45), defBody (topS 45), defScope (topS 45), [], []⟩, ⟨fun K => He.ga K (Str.ofString "exchanged"), Str.ofString "exchanged", Str.ofString "exchanged", defArgs (topS 46), defBody (topS 46), defScope (topS 46), [], []⟩, ⟨fun K => He.ga K (Str.ofString "put_elsewhere"), Str.ofString "put_elsewhere", Str.ofString "put_elsewhere", defArgs (topS 47), defBody (topS 47), defScope (topS 47), [], []⟩, ⟨fun K => He.ga K (Str.ofString "orders_of"), Str.ofString "orders_of", Str.ofString "orders_of", defArgs (topS 48), defBody (topS 48), defScope (topS 48), [], []⟩, ⟨fun K => He.ga K (Str.ofString "shuffled"), Str.ofString "shuffled", Str.ofString "shuffled", defArgs (topS 49), defBody (topS 49), defScope (topS 49), [], []⟩, ⟨fun K => He.ga K (Str.ofString "all_after"), Str.ofString "all_after", Str.ofString "all_after", defArgs (topS 50), defBody (topS 50), defScope (topS 50), [], []⟩]
def fN3 : List He5.DefA := [⟨fun K => He.ga K (Str.ofString "is_sighting"), Str.ofString "is_sighting", Str.ofString "is_sighting", defArgs (topS 54), defBody (topS 54), defScope (topS 54), [], []⟩, ⟨fun K => He.ga K (Str.ofString "check_log"), Str.ofString "check_log", Str.ofString "check_log", defArgs (topS 55), defBody (topS 55), defScope (topS 55), [], []⟩, ⟨fun K => He.ga K (Str.ofString "is_so"), Str.ofString "is_so", Str.ofString "is_so", defArgs (topS 56), defBody (topS 56), defScope (topS 56), [], []⟩, ⟨fun K => He.ga K (Str.ofString "behind_row"), Str.ofString "behind_row", Str.ofString "behind_row", defArgs (topS 57), defBody (topS 57), defScope (topS 57), [], []⟩, ⟨fun K => He.ga K (Str.ofString "counts_behind"), Str.ofString "counts_behind", Str.ofString "counts_behind", defArgs (topS 58), defBody (topS 58), defScope (topS 58), [], []⟩, ⟨fun K => He.ga K (Str.ofString "all_now"), Str.ofString "all_now", Str.ofString "all_now", defArgs (topS 59), defBody (topS 59), defScope (topS 59), [], []⟩]
def fN4 : List He5.DefA := [⟨fun K => He.ga K (Str.ofString "now"), Str.ofString "now", Str.ofString "now", defArgs (topS 60), defBody (topS 60), defScope (topS 60), [], []⟩, ⟨fun K => He.ga K (Str.ofString "need_some"), Str.ofString "need_some", Str.ofString "need_some", defArgs (topS 61), defBody (topS 61), defScope (topS 61), [], []⟩, ⟨fun K => He.ga K (Str.ofString "some_now"), Str.ofString "some_now", Str.ofString "some_now", defArgs (topS 62), defBody (topS 62), defScope (topS 62), [], []⟩, ⟨fun K => He.ga K (Str.ofString "sign_of"), Str.ofString "sign_of", Str.ofString "sign_of", defArgs (topS 64), defBody (topS 64), defScope (topS 64), [], []⟩, ⟨fun K => He.ga K (Str.ofString "table"), Str.ofString "table", Str.ofString "table", defArgs (topS 65), defBody (topS 65), defScope (topS 65), [], []⟩, ⟨fun K => He.ga K (Str.ofString "shelf"), Str.ofString "shelf", Str.ofString "shelf", defArgs (topS 66), defBody (topS 66), defScope (topS 66), [], []⟩]
def fN5 : List He5.DefA := [⟨fun K => He.ga K (Str.ofString "checksum"), Str.ofString "checksum", Str.ofString "checksum", defArgs (topS 72), defBody (topS 72), defScope (topS 72), [], []⟩, ⟨fun K => He.ga K (Str.ofString "encode_store"), Str.ofString "encode_store", Str.ofString "encode_store", defArgs (topS 73), defBody (topS 73), defScope (topS 73), [], []⟩, ⟨fun K => He.ga K (Str.ofString "decode_store"), Str.ofString "decode_store", Str.ofString "decode_store", defArgs (topS 75), defBody (topS 75), defScope (topS 75), [], []⟩, ⟨fun K => He.ga K (Str.ofString "format_store"), Str.ofString "format_store", Str.ofString "format_store", defArgs (topS 81), defBody (topS 81), defScope (topS 81), [], []⟩, ⟨fun K => He.ga K (Str.ofString "is_count"), Str.ofString "is_count", Str.ofString "is_count", defArgs (topS 82), defBody (topS 82), defScope (topS 82), [], []⟩, ⟨fun K => He.ga K (Str.ofString "heads_at"), Str.ofString "heads_at", Str.ofString "heads_at", defArgs (topS 84), defBody (topS 84), defScope (topS 84), [], []⟩]
def fN6 : List He5.DefA := [⟨fun K => He.ga K (Str.ofString "parse_store"), Str.ofString "parse_store", Str.ofString "parse_store", defArgs (topS 85), defBody (topS 85), defScope (topS 85), [], []⟩, ⟨fun K => He.ga K (Str.ofString "_law_taken"), Str.ofString "_law_taken", Str.ofString "_law_taken", defArgs (topS 87), defBody (topS 87), defScope (topS 87), [], []⟩, ⟨fun K => He.ga K (Str.ofString "_law_pick"), Str.ofString "_law_pick", Str.ofString "_law_pick", defArgs (topS 88), defBody (topS 88), defScope (topS 88), [], []⟩, ⟨fun K => He.ga K (Str.ofString "_law_mixed"), Str.ofString "_law_mixed", Str.ofString "_law_mixed", defArgs (topS 89), defBody (topS 89), defScope (topS 89), [], []⟩, ⟨fun K => He.ga K (Str.ofString "_law_scheme"), Str.ofString "_law_scheme", Str.ofString "_law_scheme", defArgs (topS 90), defBody (topS 90), defScope (topS 90), [], []⟩, ⟨fun K => He.ga K (Str.ofString "_law_store"), Str.ofString "_law_store", Str.ofString "_law_store", defArgs (topS 91), defBody (topS 91), defScope (topS 91), [], []⟩]
def fN7 : List He5.DefA := [⟨fun K => He.ga K (Str.ofString "_law_edges"), Str.ofString "_law_edges", Str.ofString "_law_edges", defArgs (topS 92), defBody (topS 92), defScope (topS 92), [], []⟩, ⟨fun K => He.ga K (Str.ofString "_law_rank"), Str.ofString "_law_rank", Str.ofString "_law_rank", defArgs (topS 93), defBody (topS 93), defScope (topS 93), [], []⟩, ⟨fun K => He.ga K (Str.ofString "_law_layouts"), Str.ofString "_law_layouts", Str.ofString "_law_layouts", defArgs (topS 94), defBody (topS 94), defScope (topS 94), [], []⟩, ⟨fun K => He.ga K (Str.ofString "_law_seen"), Str.ofString "_law_seen", Str.ofString "_law_seen", defArgs (topS 95), defBody (topS 95), defScope (topS 95), [], []⟩, ⟨fun K => He.ga K (Str.ofString "_law_turned"), Str.ofString "_law_turned", Str.ofString "_law_turned", defArgs (topS 96), defBody (topS 96), defScope (topS 96), [], []⟩, ⟨fun K => He.ga K (Str.ofString "_law_after"), Str.ofString "_law_after", Str.ofString "_law_after", defArgs (topS 97), defBody (topS 97), defScope (topS 97), [], []⟩]
def fN8 : List He5.DefA := [⟨fun K => He.ga K (Str.ofString "_law_deed"), Str.ofString "_law_deed", Str.ofString "_law_deed", defArgs (topS 98), defBody (topS 98), defScope (topS 98), [], []⟩, ⟨fun K => He.ga K (Str.ofString "_law_story"), Str.ofString "_law_story", Str.ofString "_law_story", defArgs (topS 99), defBody (topS 99), defScope (topS 99), [], []⟩, ⟨fun K => He.ga K (Str.ofString "_law_is_so"), Str.ofString "_law_is_so", Str.ofString "_law_is_so", defArgs (topS 100), defBody (topS 100), defScope (topS 100), [], []⟩, ⟨fun K => He.ga K (Str.ofString "_law_counts"), Str.ofString "_law_counts", Str.ofString "_law_counts", defArgs (topS 101), defBody (topS 101), defScope (topS 101), [], []⟩, ⟨fun K => He.ga K (Str.ofString "_law_now"), Str.ofString "_law_now", Str.ofString "_law_now", defArgs (topS 102), defBody (topS 102), defScope (topS 102), [], []⟩, ⟨fun K => He.ga K (Str.ofString "_law_raised"), Str.ofString "_law_raised", Str.ofString "_law_raised", defArgs (topS 103), defBody (topS 103), defScope (topS 103), [], []⟩]
def fN9 : List He5.DefA := [⟨fun K => He.ga K (Str.ofString "law"), Str.ofString "law", Str.ofString "law", defArgs (topS 104), defBody (topS 104), defScope (topS 104), [], []⟩, ⟨fun K => He.ma K (He.ga K (Str.ofString "Store")) (Str.ofString "__init__"), Str.ofString "__init__", Str.ofString "Store.__init__", defArgs (inClass (topS 32) 1), defBody (inClass (topS 32) 1), defScope (inClass (topS 32) 1), [], []⟩, ⟨fun K => propF K (He.ga K (Str.ofString "Store")) (Str.ofString "doors"), Str.ofString "doors", Str.ofString "Store.doors", defArgs (inClass (topS 32) 2), defBody (inClass (topS 32) 2), defScope (inClass (topS 32) 2), [], []⟩, ⟨fun K => propF K (He.ga K (Str.ofString "Store")) (Str.ofString "crates"), Str.ofString "crates", Str.ofString "Store.crates", defArgs (inClass (topS 32) 3), defBody (inClass (topS 32) 3), defScope (inClass (topS 32) 3), [], []⟩, ⟨fun K => propF K (He.ga K (Str.ofString "Store")) (Str.ofString "size"), Str.ofString "size", Str.ofString "Store.size", defArgs (inClass (topS 32) 4), defBody (inClass (topS 32) 4), defScope (inClass (topS 32) 4), [], []⟩, ⟨fun K => He.ma K (He.ga K (Str.ofString "Store")) (Str.ofString "__len__"), Str.ofString "__len__", Str.ofString "Store.__len__", defArgs (inClass (topS 32) 5), defBody (inClass (topS 32) 5), defScope (inClass (topS 32) 5), [], []⟩]
def fN10 : List He5.DefA := [⟨fun K => He.ma K (He.ga K (Str.ofString "Store")) (Str.ofString "__eq__"), Str.ofString "__eq__", Str.ofString "Store.__eq__", defArgs (inClass (topS 32) 6), defBody (inClass (topS 32) 6), defScope (inClass (topS 32) 6), [], []⟩, ⟨fun K => He.ma K (He.ga K (Str.ofString "Store")) (Str.ofString "door_of"), Str.ofString "door_of", Str.ofString "Store.door_of", defArgs (inClass (topS 32) 7), defBody (inClass (topS 32) 7), defScope (inClass (topS 32) 7), [], []⟩, ⟨fun K => He.ma K (He.ga K (Str.ofString "Store")) (Str.ofString "places_of"), Str.ofString "places_of", Str.ofString "Store.places_of", defArgs (inClass (topS 32) 8), defBody (inClass (topS 32) 8), defScope (inClass (topS 32) 8), [], []⟩, ⟨fun K => He.ma K (He.ga K (Str.ofString "Reader")) (Str.ofString "__init__"), Str.ofString "__init__", Str.ofString "Reader.__init__", defArgs (inClass (topS 74) 0), defBody (inClass (topS 74) 0), defScope (inClass (topS 74) 0), [], []⟩, ⟨fun K => He.ma K (He.ga K (Str.ofString "Reader")) (Str.ofString "item"), Str.ofString "item", Str.ofString "Reader.item", defArgs (inClass (topS 74) 1), defBody (inClass (topS 74) 1), defScope (inClass (topS 74) 1), [], []⟩, ⟨fun K => He.ma K (He.ga K (Str.ofString "Reader")) (Str.ofString "read_door"), Str.ofString "read_door", Str.ofString "Reader.read_door", defArgs (inClass (topS 74) 2), defBody (inClass (topS 74) 2), defScope (inClass (topS 74) 2), [], []⟩]
def fN11 : List He5.DefA := [⟨fun K => He.ma K (He.ga K (Str.ofString "Reader")) (Str.ofString "read_crate"), Str.ofString "read_crate", Str.ofString "Reader.read_crate", defArgs (inClass (topS 74) 3), defBody (inClass (topS 74) 3), defScope (inClass (topS 74) 3), [], []⟩, ⟨fun K => He.ma K (He.ga K (Str.ofString "Reader")) (Str.ofString "finish"), Str.ofString "finish", Str.ofString "Reader.finish", defArgs (inClass (topS 74) 4), defBody (inClass (topS 74) 4), defScope (inClass (topS 74) 4), [], []⟩, ⟨fun K => He.ma K (He.ga K (Str.ofString "Row")) (Str.ofString "__init__"), Str.ofString "__init__", Str.ofString "Row.__init__", defArgs (inClass (topS 83) 0), defBody (inClass (topS 83) 0), defScope (inClass (topS 83) 0), [], []⟩, ⟨fun K => He.ma K (He.ga K (Str.ofString "Row")) (Str.ofString "has_more"), Str.ofString "has_more", Str.ofString "Row.has_more", defArgs (inClass (topS 83) 1), defBody (inClass (topS 83) 1), defScope (inClass (topS 83) 1), [], []⟩, ⟨fun K => He.ma K (He.ga K (Str.ofString "Row")) (Str.ofString "next_word"), Str.ofString "next_word", Str.ofString "Row.next_word", defArgs (inClass (topS 83) 3), defBody (inClass (topS 83) 3), defScope (inClass (topS 83) 3), [], []⟩, ⟨fun K => He.ma K (He.ga K (Str.ofString "Row")) (Str.ofString "read_crates"), Str.ofString "read_crates", Str.ofString "Row.read_crates", defArgs (inClass (topS 83) 4), defBody (inClass (topS 83) 4), defScope (inClass (topS 83) 4), [], []⟩]
def fN : List He5.DefA := fN0 ++ (fN1 ++ (fN2 ++ (fN3 ++ (fN4 ++ (fN5 ++ (fN6 ++ (fN7 ++ (fN8 ++ (fN9 ++ (fN10 ++ (fN11)))))))))))
def tF : List He.Defn := [(Str.ofString "law", none), (Str.ofString "parse_store", none), (Str.ofString "Row", some (Str.ofString "read_crates"))]
def eX0 (K : PySem.W.Frag) : List Bool := [PySem.W.plainGet K (He.ga K (Str.ofString "Store")) Str.empty, PySem.W.isClsIn K (He.ga K (Str.ofString "Store")), PySem.W.plainOver K (He.ga K (Str.ofString "Store")), He.eqO (PySem.W.findIn K (.ref (He.ga K (Str.ofString "Store"))) (Str.ofString "__setattr__")) (some (some (.builtin "object.__setattr__"))), He.eqO (PySem.W.findIn K (.ref (He.ga K (Str.ofString "Store"))) (Str.ofString "__class__")) (some (some (.builtin "object.__class__"))), He.eqO (PySem.W.specialIn K (.builtin "object.__class__") (Str.ofString "__get__")) (some (some (.builtin "getset_descriptor.__get__"))), decide (PySem.W.takesIn K (.builtin "object.__class__") = some true), decide (PySem.W.mroIn K (He.ga K (Str.ofString "Store")) (.type "object") = some true)]
def eX1 (K : PySem.W.Frag) : List Bool := [He.eqO (PySem.W.findIn K (.ref (He.ga K (Str.ofString "Store"))) (Str.ofString "edges")) (some (some (.ref (He.ma K (He.ga K (Str.ofString "Store")) (Str.ofString "edges"))))), He.eqO (PySem.W.specialIn K (.ref (He.ma K (He.ga K (Str.ofString "Store")) (Str.ofString "edges"))) (Str.ofString "__get__")) (some (some (.builtin "member_descriptor.__get__"))), decide (PySem.W.takesIn K (.ref (He.ma K (He.ga K (Str.ofString "Store")) (Str.ofString "edges"))) = some true), decide (PySem.W.typeIn K (.ref (He.ma K (He.ga K (Str.ofString "Store")) (Str.ofString "edges"))) = some (.type "member_descriptor")), decide (PySem.W.slotIn K (He.ma K (He.ga K (Str.ofString "Store")) (Str.ofString "edges")) (He.ga K (Str.ofString "Store")) = some 0), He.eqO (PySem.W.findIn K (.ref (He.ga K (Str.ofString "Store"))) (Str.ofString "parts")) (some (some (.ref (He.ma K (He.ga K (Str.ofString "Store")) (Str.ofString "parts"))))), He.eqO (PySem.W.specialIn K (.ref (He.ma K (He.ga K (Str.ofString "Store")) (Str.ofString "parts"))) (Str.ofString "__get__")) (some (some (.builtin "member_descriptor.__get__"))), decide (PySem.W.takesIn K (.ref (He.ma K (He.ga K (Str.ofString "Store")) (Str.ofString "parts"))) = some true)]
def eX2 (K : PySem.W.Frag) : List Bool := [decide (PySem.W.typeIn K (.ref (He.ma K (He.ga K (Str.ofString "Store")) (Str.ofString "parts"))) = some (.type "member_descriptor")), decide (PySem.W.slotIn K (He.ma K (He.ga K (Str.ofString "Store")) (Str.ofString "parts")) (He.ga K (Str.ofString "Store")) = some 1), He.eqO (PySem.W.findIn K (.ref (He.ga K (Str.ofString "Store"))) (Str.ofString "doors")) (some (some (.ref (He.ma K (He.ga K (Str.ofString "Store")) (Str.ofString "doors"))))), He.eqO (PySem.W.specialIn K (.ref (He.ma K (He.ga K (Str.ofString "Store")) (Str.ofString "doors"))) (Str.ofString "__get__")) (some (some (.builtin "property.__get__"))), decide (PySem.W.takesIn K (.ref (He.ma K (He.ga K (Str.ofString "Store")) (Str.ofString "doors"))) = some true), propB K (He.ga K (Str.ofString "Store")) (Str.ofString "doors"), He.eqO (PySem.W.findIn K (.ref (He.ga K (Str.ofString "Store"))) (Str.ofString "crates")) (some (some (.ref (He.ma K (He.ga K (Str.ofString "Store")) (Str.ofString "crates"))))), He.eqO (PySem.W.specialIn K (.ref (He.ma K (He.ga K (Str.ofString "Store")) (Str.ofString "crates"))) (Str.ofString "__get__")) (some (some (.builtin "property.__get__")))]
def eX3 (K : PySem.W.Frag) : List Bool := [decide (PySem.W.takesIn K (.ref (He.ma K (He.ga K (Str.ofString "Store")) (Str.ofString "crates"))) = some true), propB K (He.ga K (Str.ofString "Store")) (Str.ofString "crates"), He.eqO (PySem.W.findIn K (.ref (He.ga K (Str.ofString "Store"))) (Str.ofString "size")) (some (some (.ref (He.ma K (He.ga K (Str.ofString "Store")) (Str.ofString "size"))))), He.eqO (PySem.W.specialIn K (.ref (He.ma K (He.ga K (Str.ofString "Store")) (Str.ofString "size"))) (Str.ofString "__get__")) (some (some (.builtin "property.__get__"))), decide (PySem.W.takesIn K (.ref (He.ma K (He.ga K (Str.ofString "Store")) (Str.ofString "size"))) = some true), propB K (He.ga K (Str.ofString "Store")) (Str.ofString "size"), He.eqO (PySem.W.findIn K (.ref (He.ga K (Str.ofString "Store"))) (Str.ofString "__ne__")) (some (some (.builtin "object.__ne__"))), decide (PySem.W.kitOne K (.ref (He.ga K (Str.ofString "Store"))) (.ref (He.ga K (Str.ofString "Store"))) = some true)]
def eX4 (K : PySem.W.Frag) : List Bool := [PySem.W.notFirst K (He.ga K (Str.ofString "Store")) (.ref (He.ga K (Str.ofString "Store"))), He.eqO (PySem.W.findIn K (.ref (He.ga K (Str.ofString "NoLayout"))) (Str.ofString "__getattribute__")) (some (some (.builtin "BaseException.__getattribute__"))), He.eqO (PySem.W.findIn K (.ref (He.ga K (Str.ofString "NoLayout"))) (Str.ofString "__getattr__")) (some none), decide (PySem.W.subIn K (.ref (He.ga K (Str.ofString "NoLayout"))) (.type "BaseException") = some true), PySem.W.hasDictIn K (He.ga K (Str.ofString "NoLayout")), He.eqO (PySem.W.findIn K (.ref (He.ga K (Str.ofString "NoLayout"))) (Str.ofString "__class__")) (some (some (.builtin "object.__class__"))), decide (PySem.W.mroIn K (He.ga K (Str.ofString "NoLayout")) (.type "object") = some true), decide (PySem.W.kitOne K (.ref (He.ga K (Str.ofString "NoLayout"))) (.ref (He.ga K (Str.ofString "InvalidStore"))) = some false)]
def eX5 (K : PySem.W.Frag) : List Bool := [decide (PySem.W.kitOne K (.ref (He.ga K (Str.ofString "NoLayout"))) (.ref (He.ga K (Str.ofString "InvalidHands"))) = some false), decide (PySem.W.kitOne K (.ref (He.ga K (Str.ofString "NoLayout"))) (.ref (He.ga K (Str.ofString "InvalidLog"))) = some false), decide (PySem.W.kitOne K (.ref (He.ga K (Str.ofString "NoLayout"))) (.ref (He.ga K (Str.ofString "InvalidPairs"))) = some false), decide (PySem.W.kitOne K (.ref (He.ga K (Str.ofString "NoLayout"))) (.ref (He.ga K (Str.ofString "UnknownPlace"))) = some false), decide (PySem.W.kitOne K (.ref (He.ga K (Str.ofString "NoLayout"))) (.ref (He.ga K (Str.ofString "UnknownDoor"))) = some false), decide (PySem.W.kitOne K (.ref (He.ga K (Str.ofString "NoLayout"))) (.ref (He.ga K (Str.ofString "UnknownCrate"))) = some false), decide (PySem.W.kitOne K (.ref (He.ga K (Str.ofString "NoLayout"))) (.ref (He.ga K (Str.ofString "InvalidLayout"))) = some false), decide (PySem.W.kitOne K (.ref (He.ga K (Str.ofString "NoLayout"))) (.ref (He.ga K (Str.ofString "InvalidDeed"))) = some false)]
def eX6 (K : PySem.W.Frag) : List Bool := [decide (PySem.W.kitOne K (.ref (He.ga K (Str.ofString "NoLayout"))) (.ref (He.ga K (Str.ofString "NoLayout"))) = some true), decide (PySem.W.kitOne K (.ref (He.ga K (Str.ofString "NoLayout"))) (.ref (He.ga K (Str.ofString "InvalidRow"))) = some false), decide (PySem.W.kitOne K (.ref (He.ga K (Str.ofString "NoLayout"))) (.ref (He.ga K (Str.ofString "TooMany"))) = some false), decide (PySem.W.kitOne K (.ref (He.ga K (Str.ofString "NoLayout"))) (.ref (He.ga K (Str.ofString "InvalidNames"))) = some false), decide (PySem.W.kitOne K (.ref (He.ga K (Str.ofString "NoLayout"))) (.ref (He.ga K (Str.ofString "InvalidHabits"))) = some false), decide (PySem.W.kitOne K (.ref (He.ga K (Str.ofString "NoLayout"))) (.ref (He.ga K (Str.ofString "InvalidNumber"))) = some false), decide (PySem.W.kitOne K (.ref (He.ga K (Str.ofString "NoLayout"))) (.type "ValueError") = some true), !decide ((He.cT K ((Str.ofString "law", none))).2 = (He.cT K ((Str.ofString "parse_store", none))).2)]
def eX7 (K : PySem.W.Frag) : List Bool := [!decide ((He.cT K ((Str.ofString "law", none))).2 = (He.cT K ((Str.ofString "Row", some (Str.ofString "read_crates")))).2), !decide ((He.cT K ((Str.ofString "parse_store", none))).2 = (He.cT K ((Str.ofString "Row", some (Str.ofString "read_crates")))).2)]
def eX (K : PySem.W.Frag) : List Bool := eX0 K ++ (eX1 K ++ (eX2 K ++ (eX3 K ++ (eX4 K ++ (eX5 K ++ (eX6 K ++ (eX7 K)))))))
def nms0 : List PySem.Str := [Str.ofString "__name__", Str.ofString "StoreError", Str.ofString "InvalidStore", Str.ofString "UnknownPlace", Str.ofString "UnknownDoor", Str.ofString "UnknownCrate", Str.ofString "InvalidLayout", Str.ofString "InvalidDeed", Str.ofString "InvalidLog", Str.ofString "NoLayout", Str.ofString "InvalidRow", Str.ofString "TooMany", Str.ofString "InvalidNames", Str.ofString "InvalidPairs", Str.ofString "InvalidHabits", Str.ofString "InvalidNumber", Str.ofString "InvalidHands", Str.ofString "InvalidText", Str.ofString "DecodeError", Str.ofString "LETTERS"]
def nms1 : List PySem.Str := [Str.ofString "MAX_LETTERS", Str.ofString "MAX_DOORS", Str.ofString "MAX_WARMTH", Str.ofString "MAX_BEHIND", Str.ofString "MAX_PLACES", Str.ofString "MAX_CRATES", Str.ofString "is_number", Str.ofString "is_word", Str.ofString "is_door", Str.ofString "are_doors", Str.ofString "are_crates", Str.ofString "Store", Str.ofString "all_layouts", Str.ofString "is_layout", Str.ofString "check_layout", Str.ofString "seen_behind", Str.ofString "rank", Str.ofString "in_order", Str.ofString "MOVE", Str.ofString "NEAR"]
def nms2 : List PySem.Str := [Str.ofString "SHUFFLE", Str.ofString "SWAP", Str.ofString "is_crate", Str.ofString "is_deed", Str.ofString "exchanged", Str.ofString "put_elsewhere", Str.ofString "orders_of", Str.ofString "shuffled", Str.ofString "all_after", Str.ofString "OPEN", Str.ofString "FROSTED", Str.ofString "is_sighting", Str.ofString "check_log", Str.ofString "is_so", Str.ofString "behind_row", Str.ofString "counts_behind", Str.ofString "all_now", Str.ofString "now", Str.ofString "need_some", Str.ofString "some_now"]
def nms3 : List PySem.Str := [Str.ofString "sign_of", Str.ofString "table", Str.ofString "shelf", Str.ofString "FIRST", Str.ofString "CHECK_START", Str.ofString "CHECK_TIMES", Str.ofString "CHECK_REST", Str.ofString "checksum", Str.ofString "encode_store", Str.ofString "Reader", Str.ofString "decode_store", Str.ofString "DOOR", Str.ofString "CRATES", Str.ofString "DIGITS", Str.ofString "MOST_DIGITS", Str.ofString "format_store", Str.ofString "is_count", Str.ofString "Row", Str.ofString "heads_at", Str.ofString "parse_store"]
def nms4 : List PySem.Str := [Str.ofString "_law_taken", Str.ofString "_law_pick", Str.ofString "_law_mixed", Str.ofString "_law_scheme", Str.ofString "_law_store", Str.ofString "_law_edges", Str.ofString "_law_rank", Str.ofString "_law_layouts", Str.ofString "_law_seen", Str.ofString "_law_turned", Str.ofString "_law_after", Str.ofString "_law_deed", Str.ofString "_law_story", Str.ofString "_law_is_so", Str.ofString "_law_counts", Str.ofString "_law_now", Str.ofString "_law_raised"]
def nms : List PySem.Str := nms0 ++ (nms1 ++ (nms2 ++ (nms3 ++ (nms4))))
abbrev RR : PySem.W.OpenRow := PySem.W.OpenLaw.row PySem.Challenge.rw_coldcrates_k74_whole_tables_texts_and_co
abbrev qV : Program := PySem.W.view RR.prog [104]
abbrev hK : PySem.W.Hook := hookC () fA fN tF eX
def oB (s : PySem.W.SharedT) : AlC := lookC () fA fN tF eX (HandSHeadRun.getT s)
theorem oB_eq (s : PySem.W.SharedT) : oB s = hK.obs s.abs := by
  have e : HandSHeadRun.getT s = s.abs.heap.get? := funext fun a => HandSHeadRun.getT_eq s a
  unfold oB
  rw [e]
  rfl
set_option maxHeartbeats 0 in
theorem run (w : World) : HandSHeadRun.RunEq RR qV hK oB 60000 nms w := by
  intro os
  kernel_rfl
end CCH

/-! text R1 -/
namespace CC
open PySem PySem.Spec PyProof.Rows L2
/-! ### x != y by an own __eq__ (object's __ne__) -/
section
open PySem.W PySem.Calls Builtin
variable {prog : Program} {w : World} {A : Around} {E : Value → Shared → Prop} {s : Shared} {K : PySem.W.Frag} {x C L f : Addr} {h₀ : Heap} {m : Str → Option Value} {ox : Obj} {od : Option Obj} {b tb : Value}
def NeBack (Q : Value → Shared → Prop) (v : Value) (s' : Shared) : Prop := match v with
  | .bool c => Q (.bool (!c)) s'
  | _ => False
theorem objNe_K (X : K.In s.heap) (I : InstAt s.heap x ox C od) (hs : findIn K (.ref C) "__eq__" = some (some (.ref f))) (hf : isFn K (.ref f) = true) (hu : A.units < cLine) {Q : Fin → Shared → Prop}
    (h : wpAny (model prog w) A (call (.ref f) [.ref x, b]) (NeBack fun v s' => Q (.done (.ret v)) s') E s) : wpAny (model prog w) A (Builtin.«object.__ne__» ⟨[.ref x, b], []⟩) Q E s := by
  unfold Builtin.«object.__ne__»
  repeat (first
    | with_reducible refine wpAny_cRoomFor hu ?_
    | (refine wpAny_bind (m := callSpecialIfBound? (.ref x) (Str.ofString "__eq__") [b]) (ifBound_K X I hs hf (wpAny_mono h (fun v s' hv => ?_) fun _ _ e => e)))
    | wp_step)
  cases v <;> first | exact hv.elim | skip
  repeat (first | exact hv | exact wpAny_pure hv | exact wpAny_truthy_bool hv | (refine wpAny_bind (m := truthy (.bool _)) (wpAny_truthy_bool ?_)) | wp_step)
theorem ifBoundNe_K {args : List Value} {Q : Option Value → Shared → Prop} (X : K.In s.heap) (I : InstAt s.heap x ox C od) (hs : findIn K (.ref C) "__ne__" = some (some (.builtin "object.__ne__")))
    (h : wpAny (model prog w) A (call (.builtin "object.__ne__") (.ref x :: args)) (fun v => Q (some v)) E s) : wpAny (model prog w) A (callSpecialIfBound? (.ref x) "__ne__" args) Q E s := by
  simp only [callSpecialIfBound?, bindSpecialIfBound?]
  refine wpAny_holding (wpAny_bind (wpAny_bind (wpAny_bind (I.type.here ((looks_findIn X hs).here ?_)))))
  simp only [PySem.F.cmp_object.ne.bind]
  refine wpAny_bind (wpAny_askSetting (wpAny_ite ?_))
  have fin : wpAny (model prog w) A (call (.builtin "object.__ne__") ([.ref x] ++ args) >>= fun v => pure (some v)) Q E s := wpAny_bind (wpAny_mono h (fun v s' h' => wpAny_pure h') fun _ _ h' => h')
  split
  · exact wpAny_bind (wpAny_pure (wpAny_pure fin))
  · exact wpAny_tryCatch (wpAny_bind (wpAny_pure (wpAny_pure fin)))
theorem ne_K {Q : Value → Shared → Prop} (hu : A.units + 1 < cLine) (X : K.In s.heap) (I : InstAt s.heap x ox C od) (hb : Looks (model prog w) s.heap (typeOf b) tb) (hn : notFirst K C tb = true) (hm : mroIn K C (.type "object") = some true)
    (hs : findIn K (.ref C) "__ne__" = some (some (.builtin "object.__ne__"))) (he : findIn K (.ref C) "__eq__" = some (some (.ref f))) (hf : isFn K (.ref f) = true)
    (h : wpAny (model prog w) A.in1 (call (.ref f) [.ref x, b]) (NeBack Q) E s) : wpAny (model prog w) A (richCompare .NotEq (.ref x) b) Q E s := by
  have sub : Looks (model prog w) s.heap (isInstance (.ref x) (.type "object")) true := I.type.andThen (looks_mroIn X hm)
  have one : wpAny (model prog w) A (tryCompare (.ref x) "__ne__" b) (fun r s' => ∃ v, r = some v ∧ Q v s') E s := by
    unfold tryCompare
    refine wpAny_bind (ifBoundNe_K X I hs ?_)
    refine wpAny_call (codeAny_call_builtin PySem.F.cmp_object.ne.plain F.cmpEntry_ne (@check_slot (model prog w) _ _ s "object.__ne__" "object" "__ne__" (.ref x) [b] [] _ PySem.F.cmpKind_ne PySem.F.cmpSplit_ne sub (PySem.F.cmpArgs_ne _ _) ?_))
    refine objNe_K (A := A.in1) X I he hf hu (wpAny_mono h (fun v s' hv => ?_) fun _ _ e => e)
    cases v <;> first | exact hv.elim | skip
    exact wpAny_pure ⟨_, rfl, hv⟩
  unfold richCompare
  simp only [oneThing_ref]
  refine wpAny_holding (wpAny_bind (wpAny_cRoomFor (Nat.lt_of_succ_lt hu) ?_))
  refine wpAny_bind (I.type.here (wpAny_bind (hb.here ?_)))
  split
  · rename_i q
    have e : subIn K tb (.ref C) = some false := by
      rcases Bool.or_eq_true_iff.mp hn with e | e
      · rw [beq_iff_eq.mp e] at q; simp at q
      · exact beq_iff_eq.mp e
    refine wpAny_bind ((looks_subIn X e).here ?_)
    simp only [Bool.false_eq_true, if_false]
    refine wpAny_bind (wpAny_mono one (fun r s' z => ?_) fun _ _ e => e)
    obtain ⟨v, rfl, hq⟩ := z
    exact wpAny_pure hq
  · refine wpAny_bind (wpAny_pure ?_)
    simp only [Bool.false_eq_true, if_false]
    refine wpAny_bind (wpAny_mono one (fun r s' z => ?_) fun _ _ e => e)
    obtain ⟨v, rfl, hq⟩ := z
    exact wpAny_pure hq
end
/-! ### len(x), x != y, isinstance of a slotted instance with own methods -/
section
variable {X : Cx} {pins : List (Addr × Obj)} {σ : L2.St} {H : Hp} {s : Shared} {a C dx p g : Addr} {n : Nat} {sp : SpN}
/-- a promise by positional values -/
abbrev FnN (P : Program) (w : World) (K : PySem.W.Frag) (mg : Str → Option Value) (base : Heap) (n : Nat) (g : Addr) (sp : SpN) : Prop := FnR P w K mg base CX0 n g (fun vs H Q _ => sp vs H Q)
def rLenOwn (C : Addr) (sp : SpN) : List V → Hp → VK → Prop := fun xs H Q => ∃ a dx vs, xs = [V.ref a] ∧ SlX.Slt H a C dx vs ∧ sp [.ref a] H (fun z H' => ∃ k : Nat, z = .int k ∧ k < 2 ^ 62 ∧ Q z H')
theorem call_lenOwn (hs : PySem.W.findIn X.K (.ref C) "__len__" = some (some (.ref g))) (hf : PySem.W.isFn X.K (.ref g) = true) (F : FnN X.prog X.w X.K X.mg X.base n g sp) (hr : Room (n + 1) X.A) : CallR X (.builtin "len") (rLenOwn C sp) := by
  intro pins s σ H xs us Q I r h
  obtain ⟨a, dx, vs, rfl, hsl, q⟩ := h
  obtain ⟨u, rfl, ru⟩ := r.one
  cases (show u = Value.ref a from ru)
  obtain ⟨sl, od, _, J, _⟩ := SlX.slt_inst I hsl
  obtain ⟨m, hF⟩ := I.fr
  refine PySem.W.len_K hF I.ok.mod.kin J hs hf (wpAny_mono (wpAny_call (SlX.run_at (us := [.ref a]) (ws := [.ref a]) F hr.in1 I.env0.in1 pass0 I (.cons rfl .nil) q)) (fun w s' z => ?_) fun _ _ x => x)
  obtain ⟨z', H', I', rz, k, ek, hk, qz⟩ := z
  subst ek
  obtain ⟨t, e⟩ := (show ∃ t, w = Value.int k t from rz)
  cases e
  exact ⟨⟨by omega, by omega⟩, .int k, H', I'.tok _, ⟨_, rfl⟩, qz⟩
def rNeOwn (K : PySem.W.Frag) (C : Addr) (sp : SpN) : R2 := fun x y H Q => ∃ a dx vs b dy ws, x = .ref a ∧ y = .ref b ∧ SlX.Slt H a C dx vs ∧ SlX.Slt H b C dy ws ∧ sp [x, y] H (fun z H' => ∃ c, z = .bl c ∧ Q (.bl (!c)) H')
theorem op_neOwn (hn : PySem.W.notFirst X.K C (.ref C) = true) (hm : PySem.W.mroIn X.K C (.type "object") = some true) (hne : PySem.W.findIn X.K (.ref C) "__ne__" = some (some (.builtin "object.__ne__"))) (hs : PySem.W.findIn X.K (.ref C) "__eq__" = some (some (.ref g)))
    (hf : PySem.W.isFn X.K (.ref g) = true) (F : FnN X.prog X.w X.K X.mg X.base n g sp) (hr : Room (n + 1) X.A) : OpR X (compareOp .NotEq) (rNeOwn X.K C sp) := by
  intro pins s σ H x y v u Q I rx ry h
  obtain ⟨a, dx, vs, b, dy, ws, rfl, rfl, ha, hb, q⟩ := h
  cases (show v = Value.ref a from rx)
  cases (show u = Value.ref b from ry)
  obtain ⟨sl, od, _, J, _⟩ := SlX.slt_inst I ha
  obtain ⟨sl', od', _, J', _⟩ := SlX.slt_inst I hb
  unfold compareOp
  refine ne_K (Nat.lt_of_le_of_lt (Nat.add_le_add_left (by decide : 1 ≤ 64) _) hr.units) I.kIn J J'.type hn hm hne hs hf ?_
  refine wpAny_mono (wpAny_call (SlX.run_at (us := [.ref a, .ref b]) (ws := [.ref a, .ref b]) F hr.in1 I.env0.in1 pass0 I (.cons rfl (.cons rfl .nil)) q)) (fun w s' z => ?_) fun _ _ x => x
  obtain ⟨z', H', I', rz, c, ec, qz⟩ := z
  subst ec
  cases (show w = Value.bool c from rz)
  exact ⟨.bl (!c), H', I', rfl, qz⟩
end
/-! ### the class Store as it stands behind the top -/
/-- a method -/
structure MethB (K : PySem.W.Frag) (C : Addr) (m qual : Str) (st : Stmt) (ps : List Str) : Prop where
  ex : ∃ (f : Addr) (fd : FuncData), Meth K C m f ∧ L2.Fun K m qual st f fd ∧ Binds K fd ps []
/-- a property -/
structure PropB (K : PySem.W.Frag) (C : Addr) (m qual : Str) (st : Stmt) : Prop where
  ex : ∃ (p f : Addr) (fd : FuncData), PySem.W.findIn K (.ref C) m = some (some (.ref p)) ∧ PySem.W.specialIn K (.ref p) "__get__" = some (some (.builtin "property.__get__")) ∧ PySem.W.takesIn K (.ref p) = some true ∧
    (∃ rest, PySem.W.recIn K p "property" = some (.ref f :: rest)) ∧ L2.Fun K m qual st f fd ∧ Binds K fd ["self"] []
/-- what is run when it is made -/
structure MkB (K : PySem.W.Frag) (mg : Str → Option Value) (C : Addr) (x qual : Str) (st : Stmt) (ps : List Str) : Prop where
  ex : ∃ (f : Addr) (fd : FuncData), Mk K C f ∧ mg x = some (.ref C) ∧ L2.Fun K "__init__" qual st f fd ∧ Binds K fd ps []
structure StoreB (K : PySem.W.Frag) (mg : Str → Option Value) (C : Addr) : Prop where
  cls : SlX.SCls K C
  isi : SlX.SIsi K C
  edges : ∃ p, SlX.Slot1 K C "edges" p 0
  parts : ∃ p, SlX.Slot1 K C "parts" p 1
  init : MkB K mg C "Store" "Store.__init__" (inClass (topS 32) 1) ["self", "doors", "crates"]
  doors : PropB K C "doors" "Store.doors" (inClass (topS 32) 2)
  crates : PropB K C "crates" "Store.crates" (inClass (topS 32) 3)
  size : PropB K C "size" "Store.size" (inClass (topS 32) 4)
  len : MethB K C "__len__" "Store.__len__" (inClass (topS 32) 5) ["self"]
  eq : MethB K C "__eq__" "Store.__eq__" (inClass (topS 32) 6) ["self", "other"]
  ne : PySem.W.findIn K (.ref C) "__ne__" = some (some (.builtin "object.__ne__"))
  door_of : MethB K C "door_of" "Store.door_of" (inClass (topS 32) 7) ["self", "place"]
  places_of : MethB K C "places_of" "Store.places_of" (inClass (topS 32) 8) ["self", "door"]
  kit : PySem.W.kitOne K (.ref C) (.ref C) = some true
  nf : PySem.W.notFirst K C (.ref C) = true
/-- a class with a dict -/
structure ClsB (K : PySem.W.Frag) (mg : Str → Option Value) (C : Addr) : Prop where
  cls : Cls K C
structure ReaderB (K : PySem.W.Frag) (mg : Str → Option Value) (C : Addr) : Prop where
  cls : Cls K C
  init : MkB K mg C "Reader" "Reader.__init__" (inClass (topS 74) 0) ["self", "values"]
  item : MethB K C "item" "Reader.item" (inClass (topS 74) 1) ["self", "low", "high"]
  read_door : MethB K C "read_door" "Reader.read_door" (inClass (topS 74) 2) ["self"]
  read_crate : MethB K C "read_crate" "Reader.read_crate" (inClass (topS 74) 3) ["self"]
  finish : MethB K C "finish" "Reader.finish" (inClass (topS 74) 4) ["self"]
  n_data : NoAttr K C "data"
  n_spot : NoAttr K C "spot"
structure RowB (K : PySem.W.Frag) (mg : Str → Option Value) (C : Addr) : Prop where
  cls : Cls K C
  init : MkB K mg C "Row" "Row.__init__" (inClass (topS 83) 0) ["self", "number", "text"]
  has_more : MethB K C "has_more" "Row.has_more" (inClass (topS 83) 1) ["self"]
  next_word : MethB K C "next_word" "Row.next_word" (inClass (topS 83) 3) ["self", "is_right"]
  read_crates : MethB K C "read_crates" "Row.read_crates" (inClass (topS 83) 4) ["self"]
  n_number : NoAttr K C "number"
  n_words : NoAttr K C "words"
  n_spot : NoAttr K C "spot"
end CC

/-! text D1 -/
namespace CC
open PySem PySem.Spec PyProof.Rows L2
section
variable {P : Program} {w : World} {K : PySem.W.Frag} {mg : Str → Option Value} {base : Heap}
/-! ### is_number -/
def spIsNumber : SpN := fun vs H Q => ∃ i lo hi, vs = [.int i, .int lo, .int hi] ∧ Q (.bl (decide (lo ≤ i) && decide (i ≤ hi))) H
abbrev s_is_number : Stmt := topS 27
abbrev N_is_number : List Str := ["value", "smallest", "largest"]
theorem sc_is_number : FnScope N_is_number ["value", "smallest", "largest"] (defScope s_is_number) := ⟨rfl, rfl, rfl, by decide +kernel, rfl, by decide +kernel, by decide +kernel⟩
-- cells: []; calls: []
theorem cal_is_number (B : Base K mg) : Cal P w K mg base 1 "is_number" spIsNumber := by
  refine B.d_is_number.ok sc_is_number (fun vs H Q h => ?_) (fun f cdv A outer s H vs Q E hr h => ?_)
  · obtain ⟨i, lo, hi, rfl, _⟩ := h
    rfl
  · obtain ⟨i, lo, hi, rfl, q⟩ := h
    refine ⟨_, (pss_one (ps_ret (pe_and (pe_callB call_isi rfl B.f_isinstance (by decide +kernel) (pa_cons (pv 0) (pa_cons (pe_bltn (v := .ty "int") rfl B.f_int (by decide +kernel) rfl) pa_nil))) (pe_and (pe_not (pe_callB call_isi rfl B.f_isinstance (by decide +kernel) (pa_cons (pv 0) (pa_cons (pe_bltn (v := .ty "bool") rfl B.f_bool (by decide +kernel) rfl) pa_nil)))) (pe_one (pe_chain op_le op_le (pv 1) (pv 0) (pv 2))))))
    ), ?_⟩
    refine ⟨_, rfl, _, _, _, _, _, rfl, .ty _, .base (.int i), kit_int_int, _, rfl, ?_⟩
    refine iteT ⟨_, rfl, _, _, _, _, _, rfl, .ty _, .base (.int i), kit_int_bool, _, rfl, _, rfl, ?_⟩
    refine iteT ⟨_, rfl, _, rfl, _, _, rfl, rfl, _, rfl, ?_⟩
    refine ite2 (fun h1 => ⟨_, rfl, _, _, rfl, rfl, ?_⟩) (fun h1 => ?_)
    · rw [h1] at q
      exact q
    · rw [Bool.not_eq_true] at h1
      rw [h1] at q
      exact q
/-! ### is_word -/
def letters : Str := "abcdefghijklmnopqrstuvwxyz"
def IsWord (z : Str) : Prop := 1 ≤ z.length ∧ z.length ≤ 8 ∧ ∀ c ∈ z.cps.toList, c ∈ letters.cps.toList
def spIsWord : SpN := fun vs H Q => ∃ z, vs = [.str z] ∧ IsWord z ∧ ∀ H', Same H H' → Q (.bl true) H'
abbrev s_is_word : Stmt := topS 28
abbrev N_is_word : List Str := ["value", "letter"]
theorem sc_is_word : FnScope N_is_word ["value"] (defScope s_is_word) := ⟨rfl, rfl, rfl, by decide +kernel, rfl, by decide +kernel, by decide +kernel⟩
-- cells: []; calls: []
theorem cal_is_word (B : Base K mg) : Cal P w K mg base 1 "is_word" spIsWord := by
  refine B.d_is_word.ok sc_is_word (fun vs H Q h => ?_) (fun f cdv A outer s H vs Q E hr h => ?_)
  · obtain ⟨z, rfl, _⟩ := h
    rfl
  · obtain ⟨z, rfl, ⟨h1, h8, hl⟩, q⟩ := h
    refine ⟨_, (pss_cons (ps_if (PW.pt (pw_or (pt_not (pt_val (pe_callB call_isi rfl B.f_isinstance (by decide +kernel) (pa_cons (pv 0) (pa_cons (pe_bltn (v := .ty "str") rfl B.f_str (by decide +kernel) rfl) pa_nil))))) (pw_or1 (pt_not (pt_chain op_le op_le pe_int (pe_callB call_len rfl B.f_len boot_len (pa_cons (pv 0) pa_nil)) (pe_gc rfl B.g_MAX_LETTERS)))))) (
        (pss_one (ps_ret pe_bl)
        )) (pss_nil))
    (pss_one (ps_ret (pe_callB (cr_all rfl) rfl B.f_all (by decide +kernel) (pa_cons (pe_lcX (own := [("letter", 1)]) rfl sc_is_word.nd (pi_str (pv 0)) (blkOk_by (own := [("letter", 1)]) (N := N_is_word) (sc := defScope s_is_word) (by decide +kernel)) (fun _ _ _ _ _ => (pg_name (i := 1) sc_is_word.nd rfl (.inl rfl))) (fun _ _ _ _ _ => pts_nil) (fun _ _ _ _ _ => (pe_cmpR op_in_sign (pv 1) (pe_gc rfl B.g_LETTERS) rfl))) pa_nil)))
    )), ?_⟩
    refine ⟨_, rfl, _, _, _, _, _, rfl, .ty _, .base (.str z), kit_str_str, _, rfl, ?_⟩
    refine iteF ⟨_, rfl, _, _, rfl, ⟨small (by omega), rfl⟩, _, _, rfl, rfl, _, rfl, ?_⟩
    refine iteD (by omega) ⟨_, _, rfl, rfl, _, rfl, ?_⟩
    rw [decide_eq_true (show ((z.length : Nat) : Int) ≤ 8 by omega)]
    refine iteF ⟨_, rfl, _, rfl, ?_⟩
    refine comp_it walk_str z.cps.toList (fun c => some (decide (c ∈ letters.cps.toList))) (fun _ v c => v = .str ⟨#[c]⟩) (fun _ v b => v = .bl b) (fun _ _ _ _ _ h => h) (by simp) (fun _ _ => trivial)
      (by have : z.cps.size = z.length := rfl; omega) (fun i H x H' a ha hy _ => ?_) (fun i a x H' Qy Qn ha e hs ky kn => ?_) (fun D H' ys hD e h1 h2 => ?_)
    · obtain ⟨rfl, c, hc, rfl⟩ := hy
      refine ⟨Same.refl _, ?_⟩
      rw [Array.getElem?_toList] at ha
      rw [ha] at hc
      cases hc
      rfl
    · subst hs
      exact ⟨rfl, _, rfl, _, _, rfl, rfl, ky _ _ _ rfl (Same.refl _) rfl⟩
    · rw [fm_some] at h2
      refine ⟨_, _, rfl, SqL.of (by rw [h1, bls_of h2]), ?_⟩
      rw [all_true (fun c hc => decide_eq_true (hl c hc))]
      exact q _ e
/-! ### doors -/
/-- a door: its warmth, its places -/
abbrev Door := Nat × Nat
def DoorV (K : PySem.W.Frag) (H : Hp) (v : V) (d : Door) : Prop := ∃ b, v = .ref b ∧ SqT K H b [.int (d.1 : Int), .int (d.2 : Int)]
def DoorsV (K : PySem.W.Frag) (H : Hp) (v : V) (ds : List Door) : Prop := ∃ a as, v = .ref a ∧ SqT K H a as ∧ Paired (DoorV K H) as ds
theorem DoorV.mono {H H' : Hp} {v : V} {d : Door} (e : SameN H H') (h : DoorV K H v d) : DoorV K H' v d := by
  obtain ⟨b, rfl, h⟩ := h
  exact ⟨b, rfl, e.tup h⟩
theorem DoorsV.mono {H H' : Hp} {v : V} {d : List Door} (e : SameN H H') (h : DoorsV K H v d) : DoorsV K H' v d := by
  obtain ⟨a, as, rfl, h, p⟩ := h
  exact ⟨a, as, rfl, e.tup h, Paired.imp (fun _ _ h => h.mono e) p⟩
def OkDoor (d : Door) : Prop := 1 ≤ d.1 ∧ d.1 ≤ 99 ∧ 1 ≤ d.2 ∧ d.2 ≤ 4
def places (ds : List Door) : Nat := (ds.map (·.2)).sum
def OkDoors (ds : List Door) : Prop := 1 ≤ ds.length ∧ ds.length ≤ 4 ∧ (∀ d ∈ ds, OkDoor d) ∧ places ds ≤ 6
def spIsDoor (K : PySem.W.Frag) : SpN := fun vs H Q => ∃ v d, vs = [v] ∧ DoorV K H v d ∧ OkDoor d ∧ ∀ H', Same H H' → Q (.bl true) H'
abbrev s_is_door : Stmt := topS 29
abbrev N_is_door : List Str := ["value"]
theorem sc_is_door : FnScope N_is_door ["value"] (defScope s_is_door) := ⟨rfl, rfl, rfl, by decide +kernel, rfl, by decide +kernel, by decide +kernel⟩
-- cells: []; calls: ['is_number']
theorem cal_is_door (B : Base K mg) : Cal P w K mg base 2 "is_door" (spIsDoor K) := by
  refine B.d_is_door.ok sc_is_door (fun vs H Q h => ?_) (fun f cdv A outer s H vs Q E hr h => ?_)
  · obtain ⟨v, d, rfl, _⟩ := h
    rfl
  · obtain ⟨v, d, rfl, ⟨b, rfl, ht⟩, ⟨h1, h2, h3, h4⟩, q⟩ := h
    refine ⟨_, (pss_cons (ps_if (PW.pt (pw_or (pt_not (pt_val (pe_callB call_isi rfl B.f_isinstance (by decide +kernel) (pa_cons (pv 0) (pa_cons (pe_bltn (v := .ty "tuple") rfl B.f_tuple (by decide +kernel) rfl) pa_nil))))) (pw_or1 (pt_cmpR op_ne (pe_callB call_len rfl B.f_len boot_len (pa_cons (pv 0) pa_nil)) pe_int (nomark _))))) (
        (pss_one (ps_ret pe_bl)
        )) (pss_nil))
    (pss_one (ps_ret (pe_and (pe_c (cal_is_number B) hr (by decide) rfl (pa_cons (pe_ix ix_tup (pv 0) pe_int (fun _ _ => rfl)) (pa_cons pe_int (pa_cons (pe_gc rfl B.g_MAX_WARMTH) pa_nil)))) (pe_one (pe_c (cal_is_number B) hr (by decide) rfl (pa_cons (pe_ix ix_tup (pv 0) pe_int (fun _ _ => rfl)) (pa_cons pe_int (pa_cons (pe_gc rfl B.g_MAX_BEHIND) pa_nil)))))))
    )), ?_⟩
    refine ⟨_, rfl, _, _, _, _, _, rfl, .ty _, tyX_tup ht, kit_tup_tup, _, rfl, ?_⟩
    refine iteF ⟨_, rfl, _, _, rfl, .inr ⟨_, ht, rfl⟩, rfl, _, rfl, ?_⟩
    refine iteF ⟨_, rfl, _, _, _, _, rfl, rfl, ht, rfl, _, _, _, rfl, _, rfl, ?_⟩
    rw [decide_eq_true (show (1 : Int) ≤ (d.1 : Int) by omega), decide_eq_true (show (d.1 : Int) ≤ 99 by omega)]
    refine iteT ⟨_, rfl, _, _, _, _, rfl, rfl, ht, rfl, _, _, _, rfl, ?_⟩
    rw [decide_eq_true (show (1 : Int) ≤ (d.2 : Int) by omega), decide_eq_true (show (d.2 : Int) ≤ 4 by omega)]
    exact q _ (Same.refl _)
def spAreDoors (K : PySem.W.Frag) : SpN := fun vs H Q => ∃ v ds, vs = [v] ∧ DoorsV K H v ds ∧ OkDoors ds ∧ ∀ H', Same H H' → Q (.bl true) H'
abbrev s_are_doors : Stmt := topS 30
abbrev N_are_doors : List Str := ["row", "door", "warmth", "places"]
theorem sc_are_doors : FnScope N_are_doors ["row"] (defScope s_are_doors) := ⟨rfl, rfl, rfl, by decide +kernel, rfl, by decide +kernel, by decide +kernel⟩
-- cells: []; calls: ['is_door']
theorem cal_are_doors (B : Base K mg) : Cal P w K mg base 3 "are_doors" (spAreDoors K) := by
  refine B.d_are_doors.ok sc_are_doors (fun vs H Q h => ?_) (fun f cdv A outer s H vs Q E hr h => ?_)
  · obtain ⟨v, d, rfl, _⟩ := h
    rfl
  · obtain ⟨v, ds, rfl, ⟨a, as, rfl, ht, hp⟩, ⟨h1, h2, h3, h4⟩, q⟩ := h
    refine ⟨_, (pss_cons (ps_if (PW.pt (pw_or (pt_not (pt_chain op_le op_le pe_int (pe_callB call_len rfl B.f_len boot_len (pa_cons (pv 0) pa_nil)) (pe_gc rfl B.g_MAX_DOORS))) (pw_or1 (pt_not (pt_val (pe_callB (cr_all rfl) rfl B.f_all (by decide +kernel) (pa_cons (pe_lcX (own := [("door", 1)]) rfl sc_are_doors.nd (pi_tup (pv 0)) (blkOk_by (own := [("door", 1)]) (N := N_are_doors) (sc := defScope s_are_doors) (by decide +kernel)) (fun _ _ _ _ _ => (pg_name (i := 1) sc_are_doors.nd rfl (.inl rfl))) (fun _ _ _ _ _ => pts_nil) (fun _ _ _ _ _ => (pe_c (cal_is_door B) hr (by decide) rfl (pa_cons (pv 1) pa_nil)))) pa_nil))))))) (
        (pss_one (ps_ret pe_bl)
        )) (pss_nil))
    (pss_one (ps_ret (pe_cmpR op_le (pe_callB (cr_sum rfl) rfl B.f_sum (by decide +kernel) (pa_cons (pe_lcX (own := [("warmth", 2), ("places", 3)]) rfl sc_are_doors.nd (pi_tup (pv 0)) (blkOk_by (own := [("warmth", 2), ("places", 3)]) (N := N_are_doors) (sc := defScope s_are_doors) (by decide +kernel)) (fun _ _ _ _ _ => (pg_tup rfl (pgs_cons (pg_name (i := 2) sc_are_doors.nd rfl (.inl rfl)) (pgs_cons (pg_name (i := 3) sc_are_doors.nd rfl (.inl rfl)) pgs_nil)))) (fun _ _ _ _ _ => pts_nil) (fun _ _ _ _ _ => (pv 3))) pa_nil)) (pe_gc rfl B.g_MAX_PLACES) (nomark _)))
    )), ?_⟩
    have hl := Paired.len hp
    refine ⟨_, rfl, _, _, rfl, .inr ⟨_, ht, rfl⟩, _, _, rfl, rfl, _, rfl, ?_⟩
    refine iteD (by omega) ⟨_, _, rfl, rfl, _, rfl, ?_⟩
    rw [decide_eq_true (show ((as.length : Nat) : Int) ≤ 4 by omega)]
    refine iteF ⟨_, rfl, _, rfl, ⟨_, ht⟩, ?_⟩
    refine comp_it walk_tup ds (fun d => some true) (DoorV K) (fun _ v b => v = .bl b) (fun _ _ _ _ _ h => h) hl.symm (fun _ e => e.tup ht)
      (by omega) (fun i H1 x H' d hd hy e => ?_) (fun i d x H' Qy Qn hd e hs ky kn => ?_) (fun D H' ys hD e g1 g2 => ?_)
    · obtain ⟨rfl, hx⟩ := hy
      obtain ⟨x', hx', hv⟩ := Paired.get hp hd
      rw [hx] at hx'
      cases hx'
      exact ⟨Same.refl _, hv.mono e.n⟩
    · exact ⟨rfl, _, rfl, _, _, rfl, hs, h3 d (List.mem_of_getElem? hd), fun H2 e2 => ky _ _ _ rfl e2 rfl⟩
    · rw [fm_some] at g2
      refine ⟨_, _, rfl, SqL.of (by rw [g1, bls_of g2]), ?_⟩
      rw [all_true (fun _ _ => rfl)]
      refine ⟨_, rfl, iteF ⟨_, rfl, _, rfl, ⟨_, e.tup ht⟩, ?_⟩⟩
      refine comp_it walk_tup ds (fun d => some ((d.2 : Nat) : Int)) (DoorV K) (fun _ v b => v = .int b) (fun _ _ _ _ _ h => h) hl.symm (fun _ e2 => (e.trans e2).tup ht)
        (by omega) (fun i H1 x H' d hd hy e2 => ?_) (fun i d x H' Qy Qn hd e hs ky kn => ?_) (fun D2 H2 ys2 hD2 e2 g3 g4 => ?_)
      · obtain ⟨rfl, hx⟩ := hy
        obtain ⟨x', hx', hv⟩ := Paired.get hp hd
        rw [hx] at hx'
        cases hx'
        exact ⟨Same.refl _, hv.mono (e.trans e2).n⟩
      · obtain ⟨b, rfl, hb⟩ := hs
        exact ⟨_, _, rfl, hb, rfl, _, _, rfl, _, _, rfl, rfl, rfl, _, rfl, ky _ _ _ rfl (Same.refl _) rfl⟩
      · rw [fm_some] at g4
        refine ⟨_, _, rfl, SqL.of (by rw [g3, ints_of g4]), _, _, rfl, rfl, ?_⟩
        have hsum : ∀ l : List Door, (l.map fun d => ((d.2 : Nat) : Int)).sum = ((places l : Nat) : Int) := fun l => by
          induction l with
          | nil => rfl
          | cons d l ih => rw [List.map_cons, List.sum_cons, ih]; show _ = (((d.2 :: l.map (·.2)).sum : Nat) : Int); rw [List.sum_cons]; unfold places; omega
        exact qb Q (decide_eq_true (by rw [hsum]; omega)) (q _ (e.trans e2))
/-! ### crates -/
def ltS (a b : Str) : Bool := decide (a.cps.toList < b.cps.toList)
def OkCrates (cs : List Str) (n : Nat) : Prop := 1 ≤ cs.length ∧ cs.length ≤ 5 ∧ cs.length ≤ n ∧ (∀ c ∈ cs, IsWord c) ∧ ∀ (i : Nat) a b, cs[i]? = some a → cs[i + 1]? = some b → ltS a b = true
def spAreCrates (K : PySem.W.Frag) : SpN := fun vs H Q => ∃ a cs n, vs = [.ref a, .int ((n : Nat) : Int)] ∧ SqT K H a (cs.map V.str) ∧ OkCrates cs n ∧ ∀ H', Same H H' → Q (.bl true) H'
abbrev s_are_crates : Stmt := topS 31
abbrev N_are_crates : List Str := ["row", "places", "name", "one", "other"]
theorem sc_are_crates : FnScope N_are_crates ["row", "places"] (defScope s_are_crates) := ⟨rfl, rfl, rfl, by decide +kernel, rfl, by decide +kernel, by decide +kernel⟩
-- cells: []; calls: ['is_word']
theorem cal_are_crates (B : Base K mg) : Cal P w K mg base 2 "are_crates" (spAreCrates K) := by
  refine B.d_are_crates.ok sc_are_crates (fun vs H Q h => ?_) (fun f cdv A outer s H vs Q E hr h => ?_)
  · obtain ⟨a, cs, n, rfl, _⟩ := h
    rfl
  · obtain ⟨a, cs, n, rfl, ht, ⟨h1, h2, h3, h4, h5⟩, q⟩ := h
    refine ⟨_, (pss_cons (ps_if (PW.pt (pw_or (pt_not (pt_chain op_le op_le pe_int (pe_callB call_len rfl B.f_len boot_len (pa_cons (pv 0) pa_nil)) (pe_callB (call_min2 rfl) rfl B.f_min (by decide +kernel) (pa_cons (pe_gc rfl B.g_MAX_CRATES) (pa_cons (pv 1) pa_nil))))) (pw_or1 (pt_not (pt_val (pe_callB (cr_all rfl) rfl B.f_all (by decide +kernel) (pa_cons (pe_lcX (own := [("name", 2)]) rfl sc_are_crates.nd (pi_tup (pv 0)) (blkOk_by (own := [("name", 2)]) (N := N_are_crates) (sc := defScope s_are_crates) (by decide +kernel)) (fun _ _ _ _ _ => (pg_name (i := 2) sc_are_crates.nd rfl (.inl rfl))) (fun _ _ _ _ _ => pts_nil) (fun _ _ _ _ _ => (pe_c (cal_is_word B) hr (by decide) rfl (pa_cons (pv 2) pa_nil)))) pa_nil))))))) (
        (pss_one (ps_ret pe_bl)
        )) (pss_nil))
    (pss_one (ps_ret (pe_callB (cr_all rfl) rfl B.f_all (by decide +kernel) (pa_cons (pe_lcX (own := [("one", 3), ("other", 4)]) rfl sc_are_crates.nd (RZ.pi_zipA rfl B.f_zip (pa_cons (pv 0) (pa_cons (pe_slice sl_tupA (pv 0) (po_some pe_int) po_none) pa_nil))) (blkOk_by (own := [("one", 3), ("other", 4)]) (N := N_are_crates) (sc := defScope s_are_crates) (by decide +kernel)) (fun _ _ _ _ _ => (pg_tup rfl (pgs_cons (pg_name (i := 3) sc_are_crates.nd rfl (.inl rfl)) (pgs_cons (pg_name (i := 4) sc_are_crates.nd rfl (.inl rfl)) pgs_nil)))) (fun _ _ _ _ _ => pts_nil) (fun _ _ _ _ _ => (pe_cmpR op_lt_str (pv 3) (pv 4) (nomark _)))) pa_nil)))
    )), ?_⟩
    have hl : (cs.map V.str).length = cs.length := List.length_map ..
    refine ⟨_, rfl, _, _, rfl, .inr ⟨_, ht, rfl⟩, _, _, rfl, rfl, _, rfl, ?_⟩
    refine iteD (by omega) ⟨_, rfl, _, _, rfl, _, _, rfl, rfl, _, rfl, ?_⟩
    rw [decide_eq_true (show (((cs.map V.str).length : Nat) : Int) ≤ if (n : Int) < 5 then (n : Int) else 5 by split <;> omega)]
    refine iteF ⟨_, rfl, _, rfl, ⟨_, ht⟩, ?_⟩
    refine comp_it walk_tup cs (fun d => some true) (fun _ v c => v = .str c) (fun _ v b => v = .bl b) (fun _ _ _ _ _ h => h) hl.symm (fun _ e => e.tup ht)
      (by omega) (fun i H1 x H' d hd hy e => ?_) (fun i d x H' Qy Qn hd e hs ky kn => ?_) (fun D H' ys hD e g1 g2 => ?_)
    · obtain ⟨rfl, hx⟩ := hy
      rw [List.getElem?_map, hd] at hx
      exact ⟨Same.refl _, (Option.some.inj hx).symm⟩
    · subst hs
      exact ⟨rfl, _, rfl, _, rfl, h4 d (List.mem_of_getElem? hd), fun H2 e2 => ky _ _ _ rfl e2 rfl⟩
    · rw [fm_some] at g2
      refine ⟨_, _, rfl, SqL.of (by rw [g1, bls_of g2]), ?_⟩
      rw [all_true (fun _ _ => rfl)]
      have ht' := e.tup ht
    
      have hcut : cutV (cs.map V.str) (some 1) none = cs.tail.map V.str := by
        unfold cutV
        rw [show (some (1 : Int)) = some ((1 : Nat) : Int) from rfl, HT.sIx_nat, HT.sIx_none, show min 1 (cs.map V.str).length = 1 by omega]
        rw [List.take_of_length_le (by rw [List.length_drop] <;> omega), ← List.map_drop, List.drop_one]
      refine ⟨_, rfl, iteF ⟨_, rfl, _, rfl, _, rfl, _, _, rfl, ht', fun z => ?_, fun _ => newO fun p H2 np e2 hp => ⟨_, _, _, _, rfl, .inr ⟨e2.tup ht', SqT.of hp, ?_⟩⟩⟩⟩
      · rw [show (some (1 : Int)) = some ((1 : Nat) : Int) from rfl, HT.sIx_nat] at z
        omega
      rw [hcut] at hp
      have hls : (cs.map V.str).length = cs.length := List.length_map ..
      have hlt : (cs.tail.map V.str).length = cs.length - 1 := by rw [List.length_map, List.length_tail]
      have hq : SqT K H2 p (cs.tail.map V.str) := SqT.of hp
      have ht2 := e2.tup ht'
      refine comp_it (walk_zipT (n := cs.tail.length) (by rw [hls, hlt, List.length_tail]; omega)) cs.tail (fun d => some true) (fun H v b => ∃ c, ltS c b = true ∧ PairV K H v (.str c) (.str b)) (fun _ v b => v = .bl b) (fun _ _ _ _ _ h => h) rfl (fun _ e => ⟨e.tup ht2, e.tup hq⟩)
        (by rw [List.length_tail]; omega) (fun i H1 x H' d hd hy e3 => ?_) (fun i d x H' Qy Qn hd e3 hs ky kn => ?_) (fun D3 H3 ys3 hD3 e3 g3 g4 => ?_)
      · obtain ⟨x1, y1, hx, hy1, e4, hp4⟩ := pair_of hy
        rw [List.getElem?_map, hd] at hy1
        obtain rfl : y1 = V.str d := (Option.some.inj hy1).symm
        rw [List.getElem?_map] at hx
        obtain ⟨c, hc, hce⟩ := Option.map_eq_some_iff.mp hx
        subst hce
        rw [← List.drop_one, List.getElem?_drop, Nat.add_comm] at hd
        exact ⟨e4, c, h5 i c d hc hd, hp4⟩
      · obtain ⟨c, hlt2, T, rfl, hT⟩ := hs
        refine ⟨_, _, rfl, hT, rfl, _, _, rfl, _, _, rfl, rfl, rfl, _, rfl, _, rfl, _, _, rfl, rfl, ky true _ _ rfl (Same.refl _) ?_⟩
        exact congrArg V.bl hlt2
      · rw [fm_some] at g4
        refine ⟨_, _, rfl, SqL.of (by rw [g3, bls_of g4]), ?_⟩
        rw [all_true (fun _ _ => rfl)]
        exact q _ ((e.trans e2).trans e3)
end
end CC

/-! text R2 -/
namespace CC
open PySem PySem.Spec PyProof.Rows L2
/-! ### enumerate of a tuple -/
set_option maxHeartbeats 1000000 in
theorem enumT_new {v : Value} {o : Obj} {F : Heap → Prop} (B : Begins v o F) : Meets (Builtin.«enumerate.__new__» ⟨[.type "enumerate", v], []⟩) (fun _ R s => F s.heap ∧
    R (.ok (.ret (.ref (s.heap.push o).objs.size))) { s with heap := (s.heap.push o).push { cls := .type "enumerate", data := .fields #[.none, .bool false, .ref s.heap.objs.size, rawInt 0, .none, .none] } }) :=
  .of_wp fun prog w A R ⟨hp, g, d, tk, os⟩ ⟨h1, h2⟩ => by
    have sb := sub_enumerate
    have go : ∀ {A' : Around} {E Q : Value → Shared → Prop}, Q (.ref hp.objs.size) ⟨hp.push o, g, d, tk, os⟩ → wpAny (model prog w) A' (pyIter v) Q E ⟨hp, g, d, tk, os⟩ := fun q => B.iter prog w _ _ ⟨hp, g, d, tk, os⟩ _ h1 q
    wp_walk using go
    refine wpAny_stack_any fun st => wpAny_pure ?_
    split
    · rename_i c _ _ _ _ _
      cases (c == Value.type "enumerate")
      · wp_walk using go
        exact ⟨_, rfl, h2⟩
      · wp_walk using go
        exact ⟨_, rfl, h2⟩
    · wp_walk using go
      exact ⟨_, rfl, h2⟩
theorem enumT_call {prog : Program} {w : World} {A : Around} {E : Value → Shared → Prop} {s : Shared} {v : Value} {o : Obj} {G : Heap → Prop} {Q : Value → Shared → Prop} (B : Begins v o G) (h1 : G s.heap)
    (h : ∀ h', IsEnum h' (s.heap.objs.size + 1) s.heap.objs.size 0 .none → h'.get? s.heap.objs.size = some o → (∀ b u, s.heap.get? b = some u → h'.get? b = some u) → Q (.ref (s.heap.objs.size + 1)) { s with heap := h' }) :
    wpAny (model prog w) A (call (.type "enumerate") [v]) Q E s := by
  have hz : (s.heap.push o).objs.size = s.heap.objs.size + 1 := Heap.size_push ..
  have he : IsEnum ((s.heap.push o).push { cls := .type "enumerate", data := .fields #[.none, .bool false, .ref s.heap.objs.size, rawInt 0, .none, .none] }) (s.heap.objs.size + 1) s.heap.objs.size 0 .none := by
    have z := Heap.get?_push_size (s.heap.push o) (o := { cls := .type "enumerate", data := .fields #[.none, .bool false, .ref s.heap.objs.size, rawInt 0, .none, .none] }) rfl
    rwa [hz] at z
  refine callType_new F.called_enumerate (by decide) (F.typeCall_enumerate_1 _) (F.newCall_enumerate_1 _) (fun obj => F.args_object_init_2 obj _) F.entry_enumerate_new (enumT_new B) ⟨h1, ?_⟩
  show _ ∧ _
  rw [hz]
  exact ⟨⟨_, he, rfl⟩, h _ he (Heap.get?_push_of_some _ (Heap.get?_push_size _ B.free)) fun b u x => Heap.get?_push_of_some _ (Heap.get?_push_of_some _ x)⟩
/-- the tuple at a as it stands at each turn, each item in a new pair -/
def IteT (K : PySem.W.Frag) (a : Addr) : It :=
  ⟨fun i H => ∃ (xs : List V) (x : V), SqT K H a xs ∧ xs[i]? = some x, fun i H v H' => ∃ T x, v = .ref T ∧ H T = none ∧ H' = upd H T (.tup [.int (i : Nat), x]) ∧ ∀ xs, SqT K H a xs → xs[i]? = some x, fun i H => ∃ xs : List V, SqT K H a xs ∧ xs.length ≤ i⟩
theorem turn_enumT {P : Program} {w : World} {K : PySem.W.Frag} {elts : List Expr} {kk : Nat} {tpos : Pos} (a e it : Addr) (hae : a ≠ e) (hai : a ≠ it) :
    Turn P w K (.Tuple elts kk tpos) (IteT K a) [e, it] e (fun i h => (∃ old, IsEnum h e it ((i : Nat) : Int) old) ∧ h.IsTupleIter it a i ∧ e ≠ it) where
  mem := by simp
  obj := fun i h st b hb => by
    obtain ⟨⟨old, he⟩, ⟨o, ho, hc, hd⟩, _⟩ := st
    rcases (show b = e ∨ b = it by simpa using hb) with z | z
    · subst z
      exact ⟨_, he, fun v q => nomatch q⟩
    · subst z
      exact ⟨o, ho, fun v q => by rw [hd] at q; cases q⟩
  keep := fun i h h' st k => by
    obtain ⟨⟨old, he⟩, hi, ne⟩ := st
    exact ⟨⟨old, k e (by simp) _ he⟩, hi.at fun o q => k it (by simp) o q, ne⟩
  item := by
    intro X hP hw hK hc i pins s σ H E I hf st hg
    subst hP hw hK
    obtain ⟨⟨old, he⟩, hit, ne⟩ := st
    obtain ⟨xs, x, hq, hx⟩ := hg
    obtain ⟨its, rv, p, hz⟩ := I.tuple hq
    have le : e < s.heap.objs.size := Heap.lt_size he
    have li : it < s.heap.objs.size := let ⟨_, q, _⟩ := hit; Heap.lt_size q
    have hlt : i < its.toArray.size := by
      have l1 := rv.length
      have l2 := (List.getElem?_eq_some_iff.mp hx).1
      simp only [List.size_toArray]
      omega
    refine wpAny_pyNext_enum_itemD (Draws.tuple (A := X.A.in1) (I.ok.hd hc) it a hai its.toArray) he ⟨hit, p⟩ hlt ne (by simp [ne, Ne.symm hae]) fun u h' tk hu ho st' hT hsz hk => ?_
    have ru : RelV x u := by
      obtain ⟨u', hu', ru'⟩ := rv.get hx
      have e1 : its.toArray[i]? = some u' := by simpa using hu'
      rw [e1] at hu
      cases hu
      exact ru'
    refine ⟨_, rfl, wpAny_letOwnedTupleGo_enum (s := { s with heap := h', toks := tk + 1 }) ho fun h'' he' sb => ?_⟩
    have new : ObjOk X.prog X.w (upd H s.heap.objs.size (.tup [.int (i : Nat), x])) h'' s.heap.objs.size (.tup [.int (i : Nat), x]) :=
      ⟨by show 2 ≤ sizeLine; decide, [.int i tk, u], .cons ⟨_, rfl⟩ (.cons ru .nil), ⟨_, (sb.2 _ (Nat.ne_of_gt le)).trans hT, rfl, _, rfl⟩⟩
    have I1 : Inv X pins σ (upd H s.heap.objs.size (.tup [.int (i : Nat), x])) { s with heap := h'', toks := tk + 1 } :=
      I.turnedNew (ch := [e, it]) (fun b ob hb q => (sb.2 b fun z => hb (by simp [z])).trans (hk b ob (fun z => hb (by simp [z])) (fun z => hb (by simp [z])) q)) hf (Nat.le_refl _) new
    refine ⟨.ref s.heap.objs.size, _, I1, rfl, ⟨_, x, rfl, I.hok.fresh (Nat.le_refl _), rfl, fun ys hy => by rw [I.tuple_inj hy hq]; exact hx⟩, ⟨⟨u, ?_⟩, st'.1.at fun o q => (sb.2 it (Ne.symm ne)).trans q, ne⟩, fun b hb => ?_⟩
    · rw [show ((i + 1 : Nat) : Int) = (i : Int) + 1 by omega]
      exact he'
    · have hb' : b < s.heap.objs.size := by
        rcases (show b = e ∨ b = it by simpa using hb) with z | z
        · rw [z]; exact le
        · rw [z]; exact li
      rw [upd_ne (Nat.ne_of_lt hb')]
      exact (hf b hb).1
  done := by
    intro X hP hw hK hc i pins s σ H E I hf st hg
    subst hP hw hK
    obtain ⟨⟨old, he⟩, hit, ne⟩ := st
    obtain ⟨xs, hq, hx⟩ := hg
    obtain ⟨its, rv, p, hz⟩ := I.tuple hq
    have hl := rv.length
    have ge : its.toArray.size ≤ i := by simp only [List.size_toArray]; omega
    obtain ⟨f0, f1, f2, f3, f4, f5⟩ := hf it (by simp)
    have D : Draws X.prog X.w X.A.in1 it [it, a] i (fun _ _ => True) (fun j h => j = i ∧ h.IsTupleIter it a i ∧ h.IsTuple a its.toArray) :=
      { live := fun _ _ st => let ⟨o, ho, _⟩ := st.2.1; ⟨o, ho⟩
        frame := fun _ _ _ st hk => ⟨st.1, st.2.1.at fun o e => hk it (by simp) o e, st.2.2.at fun o e => hk a (by simp) o e⟩
        item := fun j s Q E hj st hQ => absurd st.1 (Nat.ne_of_lt hj)
        done := fun s Q E st hE => wpAny_nextOf_tuple_end (I.ok.hd hc) st.2.1 st.2.2 (Array.getElem?_eq_none ge) hE }
    exact wpAny_pyNext_enum_endD D he ⟨rfl, hit, p⟩ fun h' eb => ⟨rfl, I.turned (t' := s.toks) (fun b o hb q => eb b o hb q) f0 f1 f3 f4 f5⟩
  self := fun A i s Q E st h => let ⟨⟨_, he⟩, _⟩ := st; wpAny_pyIter_enum he h
def iEnumT (K : PySem.W.Frag) (ta : TA) : TI := fun σ H R => ta σ H fun vs H1 => ∃ a xs, vs = [.ref a] ∧ SqT K H1 a xs ∧ R (IteT K a) H1
theorem pi_enumT {X : Cx} {e : Expr} {ta : TA} {p pos tpos : Pos} {elts : List Expr} {kk : Nat} (hg : Gl X "enumerate") (hm : X.mg "enumerate" = none) (ha : PA X [e] ta) (hs : starEach [e] X.env = [(false, eval e X.env)] := by rfl) :
    PI X (.Tuple elts kk tpos) (.Call (.Name "enumerate" p) [e] [] pos) (iEnumT X.K ta) := by
  refine ⟨fun pins s σ H R I h => ?_⟩
  refine Call_ (ld_blt I hg hm boot_enumerate (PyProof.Rows.callWith_type1 (thn (ha.run pos pins s σ H _ I h) fun us s1 ⟨vs, H1, I1, r1, a, xs, ex, hq, q⟩ => ?_) hs rfl))
  subst ex
  obtain ⟨u, rfl, ru⟩ := r1.one
  cases (show u = Value.ref a from ru)
  obtain ⟨its, rv, p', hz⟩ := I1.tuple hq
  have ha : a < s1.heap.objs.size := by
    obtain ⟨o, ho, _⟩ := id p'
    exact Heap.lt_size ho
  refine enumT_call (begins_tuple a its.toArray) (show s1.heap.IsTuple a its.toArray from p') fun h' he hit hk => wpAny_pyIter_enum he ?_
  have I2 : Inv X pins σ H1 { s1 with heap := h' } := I1.kept (t' := s1.toks) hk
  refine ⟨s1.heap.objs.size + 1, [s1.heap.objs.size + 1, s1.heap.objs.size], _, _, H1, rfl, I2, turn_enumT a (s1.heap.objs.size + 1) s1.heap.objs.size (Nat.ne_of_lt (Nat.lt_succ_of_lt ha)) (Nat.ne_of_lt ha), ⟨⟨.none, he⟩, ⟨_, hit, rfl, rfl⟩, Nat.succ_ne_self _⟩, fun b hb => ?_, q⟩
  have hle : s1.heap.objs.size ≤ b := by
    rcases (show b = s1.heap.objs.size + 1 ∨ b = s1.heap.objs.size by simpa using hb) with z | z
    · rw [z]; exact Nat.le_add_right _ _
    · rw [z]; exact Nat.le_refl _
  exact I1.fpOk hle (I1.hok.fresh hle)
theorem walk_enumT {K : PySem.W.Frag} {a : Addr} {xs : List V} : Walk (IteT K a) xs.length (fun H => SqT K H a xs) (YPair (fun i => some (.int (i : Nat))) (fun i => xs[i]?)) := by
  refine ⟨fun i _ hi q => ⟨xs, xs[i], q, by simp [hi]⟩, fun _ q => ⟨xs, q, Nat.le_refl _⟩, fun i H v H' _ q y => ?_⟩
  obtain ⟨T, x, h1, h2, h3, h4⟩ := y
  exact ⟨T, .int (i : Nat), x, h1, h2, h3, rfl, h4 xs q⟩
end CC

/-! text D2 -/
namespace CC
open PySem PySem.Spec PyProof.Rows L2
section
variable {P : Program} {w : World} {K : PySem.W.Frag} {mg : Str → Option Value} {base : Heap} {k : Nat}
/-! ### methods, properties, classes with their promises -/
structure MetN (P : Program) (w : World) (K : PySem.W.Frag) (mg : Str → Option Value) (base : Heap) (k : Nat) (C : Addr) (m : Str) (sp : SpN) : Prop where
  ex : ∃ f, Meth K C m f ∧ FnN P w K mg base k f sp
structure PrpN (P : Program) (w : World) (K : PySem.W.Frag) (mg : Str → Option Value) (base : Heap) (k : Nat) (C : Addr) (m : Str) (sp : SpN) : Prop where
  ex : ∃ p f, PySem.W.findIn K (.ref C) m = some (some (.ref p)) ∧ PySem.W.specialIn K (.ref p) "__get__" = some (some (.builtin "property.__get__")) ∧ PySem.W.takesIn K (.ref p) = some true ∧ (∃ rest, PySem.W.recIn K p "property" = some (.ref f :: rest)) ∧ FnN P w K mg base k f sp
structure MakN (P : Program) (w : World) (K : PySem.W.Frag) (mg : Str → Option Value) (base : Heap) (k : Nat) (x : Str) (C : Addr) (sp : SpN) : Prop where
  ex : ∃ f, Mk K C f ∧ mg x = some (.ref C) ∧ FnN P w K mg base k f sp
theorem fnN_of {m qual : Str} {st : Stmt} {f : Addr} {fd : FuncData} {ps N : List Str} {sp : SpN} (F : L2.Fun K m qual st f fd) (b : Binds K fd ps []) (S : FnScope N ps (defScope st)) (len : ∀ vs H Q, sp vs H Q → vs.length = ps.length)
    (hbody : ∀ (f : Addr) (cdv : Value) (A : Around) (outer : List Env) (s : Shared) (H : Hp) (vs : List V) (Q : VK) (E : XK), Room k (A.deeper (envOfC qual (defScope st) s.heap.objs.size f cdv)) → sp vs H Q →
      ∃ t, PSs (cxOf CX0 P w K mg base N qual (defScope st) f cdv A outer s H E).nox (defBody st) t ∧ t { nx := fun _ H' => Q .non H', rt := Q } (start N vs) H) : FnN P w K mg base (k + 1) f sp :=
  FnR.imp ((F.ok S (fun vs H Q _ h => len vs H Q h) (fun cdv A outer s H vs Q E hr h => hbody f cdv A outer s H vs Q E hr h)).raw b .nil) fun vs H Q E h => by rw [List.append_nil]; exact h
theorem MethB.ok {C : Addr} {m qual : Str} {st : Stmt} {ps N : List Str} {sp : SpN} (M : MethB K C m qual st ps) (S : FnScope N ps (defScope st)) (len : ∀ vs H Q, sp vs H Q → vs.length = ps.length)
    (hbody : ∀ (f : Addr) (cdv : Value) (A : Around) (outer : List Env) (s : Shared) (H : Hp) (vs : List V) (Q : VK) (E : XK), Room k (A.deeper (envOfC qual (defScope st) s.heap.objs.size f cdv)) → sp vs H Q →
      ∃ t, PSs (cxOf CX0 P w K mg base N qual (defScope st) f cdv A outer s H E).nox (defBody st) t ∧ t { nx := fun _ H' => Q .non H', rt := Q } (start N vs) H) : MetN P w K mg base (k + 1) C m sp := by
  obtain ⟨f, fd, me, F, b⟩ := M.ex
  exact ⟨f, me, fnN_of F b S len hbody⟩
theorem PropB.ok {C : Addr} {m qual : Str} {st : Stmt} {N : List Str} {sp : SpN} (M : PropB K C m qual st) (S : FnScope N ["self"] (defScope st)) (len : ∀ vs H Q, sp vs H Q → vs.length = 1)
    (hbody : ∀ (f : Addr) (cdv : Value) (A : Around) (outer : List Env) (s : Shared) (H : Hp) (vs : List V) (Q : VK) (E : XK), Room k (A.deeper (envOfC qual (defScope st) s.heap.objs.size f cdv)) → sp vs H Q →
      ∃ t, PSs (cxOf CX0 P w K mg base N qual (defScope st) f cdv A outer s H E).nox (defBody st) t ∧ t { nx := fun _ H' => Q .non H', rt := Q } (start N vs) H) : PrpN P w K mg base (k + 1) C m sp := by
  obtain ⟨p, f, fd, h1, h2, h3, h4, F, b⟩ := M.ex
  exact ⟨p, f, h1, h2, h3, h4, fnN_of F b S len hbody⟩
theorem MkB.ok {C : Addr} {x qual : Str} {st : Stmt} {ps N : List Str} {sp : SpN} (M : MkB K mg C x qual st ps) (S : FnScope N ps (defScope st)) (len : ∀ vs H Q, sp vs H Q → vs.length = ps.length)
    (hbody : ∀ (f : Addr) (cdv : Value) (A : Around) (outer : List Env) (s : Shared) (H : Hp) (vs : List V) (Q : VK) (E : XK), Room k (A.deeper (envOfC qual (defScope st) s.heap.objs.size f cdv)) → sp vs H Q →
      ∃ t, PSs (cxOf CX0 P w K mg base N qual (defScope st) f cdv A outer s H E).nox (defBody st) t ∧ t { nx := fun _ H' => Q .non H', rt := Q } (start N vs) H) : MakN P w K mg base (k + 1) x C sp := by
  obtain ⟨f, fd, me, hm, F, b⟩ := M.ex
  exact ⟨f, me, hm, fnN_of F b S len hbody⟩
end
section
variable {X : Cx} {k j : Nat} {C : Addr} {x m f : Str} {sp : SpN} {p pos apos : Pos} {e o : Expr} {es : List Expr} {ta : TE} {t : TA}
/-- a property of a slotted instance -/
def tPrN (C : Addr) (sp : SpN) (ta : TE) : TE := fun σ H Q => ta σ H fun x H1 => ∃ a dx vs, x = .ref a ∧ SlX.Slt H1 a C dx vs ∧ sp [.ref a] H1 Q
theorem pe_prN (c : PrpN X.prog X.w X.K X.mg X.base k C f sp) (hc : SlX.SCls X.K C) (hr : Room j X.A) (hk : k + 1 ≤ j) (he : PE X e ta) (hb : attributeBase e f X.env (eval e X.env) = eval e X.env := by rfl) : PE X (.Attribute e f pos) (tPrN C sp ta) := by
  obtain ⟨p, g, h1, h2, h3, h4, F⟩ := c.ex
  exact SlX.pe_propSl (E := E0) he hc h1 h2 h3 h4 F (hr.mono hk) (fun _ _ _ _ h => h) hb
def tMeN (C : Addr) (sp : SpN) (ta : TE) (t : TA) : TE := fun σ H Q => ta σ H fun x H1 => ∃ a dx vs, x = .ref a ∧ SlX.Slt H1 a C dx vs ∧ t σ H1 fun ws H2 => sp (x :: ws) H2 Q
theorem pe_mS {pl : Sem Bool} (c : MetN X.prog X.w X.K X.mg X.base k C m sp) (hc : SlX.SCls X.K C) (hr : Room j X.A) (hk : k ≤ j) (he : PE X o ta) (ha : PA X (e :: es) t)
    (hst : starEach (e :: es) X.env = (false, eval e X.env) :: starEach es X.env := by rfl) (hpl : (backTo pos (starEach es X.env)).any (·.1) = false := by rfl)
    (ht : eval (.Call (.Attribute o m apos) (e :: es) [] pos) X.env = (do
      let ov ← eval o X.env
      standAt apos.atName
      let (f, first) ← holding [ov] (getMethod ov m pl)
      callWith pos f first (backTo pos (starEach (e :: es) X.env)) (backToKw pos (keywordEach [] X.env))) := by rfl) :
    PE X (.Call (.Attribute o m apos) (e :: es) [] pos) (tMeN C sp ta t) := by
  obtain ⟨g, me, F⟩ := c.ex
  exact SlX.pe_methSl (E := E0) (pl := pl) he hc me F (hr.mono hk) pass0 ha hst hpl ht
theorem call_lenN (c : MetN X.prog X.w X.K X.mg X.base k C "__len__" sp) (hr : Room j X.A) (hk : k + 1 ≤ j) : CallR X (.builtin "len") (rLenOwn C sp) := by
  obtain ⟨g, me, F⟩ := c.ex
  exact call_lenOwn me.at_ me.fn F (hr.mono hk)
def tMkN (C : Addr) (sp : SpN) (t : TA) : TE := fun σ H Q => t σ H fun vs H1 => ∀ x dx, H1 x = none → H1 dx = none → dx ≠ x → sp (.ref x :: vs) (upd (upd H1 dx (.own x)) x (.ins C dx [])) (fun v H2 => v = .non ∧ Q (.ref x) H2)
theorem pe_mkN (c : MakN X.prog X.w X.K X.mg X.base k x C sp) (hr : Room j X.A) (hk : k + 1 ≤ j) (hg : Gl X x) (ha : PA X (e :: es) t)
    (hdb : (x == ("__debug__" : Str)) = false := by decide) (he : starEach (e :: es) X.env = (false, eval e X.env) :: starEach es X.env := by rfl) (hpl : (backTo pos (starEach es X.env)).any (·.1) = false := by rfl) :
    PE X (.Call (.Name x p) (e :: es) [] pos) (tMkN C sp t) := by
  obtain ⟨g, M, hm, F⟩ := c.ex
  exact StX.pe_makeR (E := E0) M F (hr.mono hk) hg hm pass0 ha hdb he hpl
end
/-! ### stores -/
def TupV (K : PySem.W.Frag) (H : Hp) (v : V) (xs : List V) : Prop := ∃ a, v = .ref a ∧ SqT K H a xs
theorem TupV.mono {K : PySem.W.Frag} {H H' : Hp} {v : V} {xs : List V} (e : SameN H H') (h : TupV K H v xs) : TupV K H' v xs := by
  obtain ⟨a, rfl, h⟩ := h
  exact ⟨a, rfl, e.tup h⟩
def nV (i : Nat) : V := .int (i : Nat)
def edgesFrom : Nat → List Door → List Nat
  | _, [] => []
  | k, d :: r => List.replicate d.2 k ++ edgesFrom (k + 1) r
def edges (ds : List Door) : List Nat := edgesFrom 0 ds
theorem edgesFrom_len : ∀ (ds : List Door) (k : Nat), (edgesFrom k ds).length = places ds
  | [], _ => rfl
  | d :: r, k => by
    show (List.replicate d.2 k ++ edgesFrom (k + 1) r).length = _
    rw [List.length_append, List.length_replicate, edgesFrom_len r]
    unfold places
    rw [List.map_cons, List.sum_cons]
theorem edges_len (ds : List Door) : (edges ds).length = places ds := edgesFrom_len ds 0
theorem edgesFrom_snoc : ∀ (ds : List Door) (d : Door) (k : Nat), edgesFrom k (ds ++ [d]) = edgesFrom k ds ++ List.replicate d.2 (k + ds.length)
  | [], d, k => by show List.replicate d.2 k ++ [] = [] ++ _; rw [List.append_nil]; rfl
  | c :: r, d, k => by
    show List.replicate c.2 k ++ edgesFrom (k + 1) (r ++ [d]) = (List.replicate c.2 k ++ edgesFrom (k + 1) r) ++ _
    rw [edgesFrom_snoc r d (k + 1), List.append_assoc, List.length_cons, show k + 1 + r.length = k + (r.length + 1) by omega]
theorem edgesFrom_lt : ∀ (ds : List Door) (k : Nat), ∀ x ∈ edgesFrom k ds, k ≤ x ∧ x < k + ds.length
  | [], _, x, h => by cases h
  | d :: r, k, x, h => by
    rcases List.mem_append.mp h with h | h
    · rw [List.eq_of_mem_replicate h, List.length_cons]; omega
    · have := edgesFrom_lt r (k + 1) x h
      rw [List.length_cons]; omega
theorem places_le {ds : List Door} (h : OkDoors ds) : places ds ≤ 6 := h.2.2.2
theorem sum_places (l : List Door) : (l.map fun d => ((d.2 : Nat) : Int)).sum = ((places l : Nat) : Int) := by
  induction l with
  | nil => rfl
  | cons d l ih =>
    rw [List.map_cons, List.sum_cons, ih]
    unfold places
    rw [List.map_cons, List.sum_cons]
    omega
theorem e_sum (l : List Door) (i : Nat) : ((l.take i).map (·.2)).sum + ((l.drop i).map (·.2)).sum = (l.map (·.2)).sum := by
  rw [← List.sum_append, ← List.map_append, List.take_append_drop]
def StoreAt (K : PySem.W.Frag) (C : Addr) (H : Hp) (a : Addr) (ds : List Door) (cs : List Str) : Prop :=
  (OkDoors ds ∧ OkCrates cs (places ds)) ∧ ∃ dx e p P d c, SlX.Slt H a C dx [some (.ref e), some (.ref P)] ∧ SqT K H e ((edges ds).map nV) ∧ p = V.ref P ∧ SqT K H P [.ref d, .ref c] ∧ DoorsV K H (.ref d) ds ∧ SqT K H c (cs.map V.str)
theorem slt_mono {H H' : Hp} {a C dx : Addr} {vs : List (Option V)} (e : SameN H H') (h : SlX.Slt H a C dx vs) : SlX.Slt H' a C dx vs := by
  rcases h with ⟨h1, h2⟩ | ⟨h1, h2⟩
  · exact .inl ⟨e _ _ h1 (fun _ z => nomatch z), h2⟩
  · exact .inr ⟨e _ _ h1 (fun _ z => by unfold SlX.SlO at z; cases z), e _ _ h2 (fun _ z => nomatch z)⟩
theorem StoreAt.mono {K : PySem.W.Frag} {C : Addr} {H H' : Hp} {a : Addr} {ds : List Door} {cs : List Str} (e : SameN H H') (h : StoreAt K C H a ds cs) : StoreAt K C H' a ds cs := by
  obtain ⟨ok, dx, ea, p, P, d, c, h1, h2, h3, h4, h5, h6⟩ := h
  exact ⟨ok, dx, ea, p, P, d, c, slt_mono e h1, e.tup h2, h3, e.tup h4, h5.mono e, e.tup h6⟩
theorem StoreAt.slt {K : PySem.W.Frag} {C : Addr} {H : Hp} {a : Addr} {ds : List Door} {cs : List Str} (h : StoreAt K C H a ds cs) : ∃ dx vs, SlX.Slt H a C dx vs := let ⟨_, dx, _, _, _, _, _, h1, _⟩ := h; ⟨dx, _, h1⟩
section
variable {P : Program} {w : World} {K : PySem.W.Frag} {mg : Str → Option Value} {base : Heap} {C : Addr}
theorem StoreB.gC (S : StoreB K mg C) : ∃ u, mg "Store" = some u ∧ RelV (.ref C) u := by
  obtain ⟨f, fd, _, hm, _⟩ := S.init.ex
  exact ⟨_, hm, rfl⟩
def spNewStore (K : PySem.W.Frag) (C : Addr) : SpN := fun vs H Q => ∃ x dx d c ds cs, vs = [.ref x, .ref d, .ref c] ∧ H x = some (.ins C dx []) ∧ H dx = some (.own x) ∧ dx ≠ x ∧ DoorsV K H (.ref d) ds ∧ OkDoors ds ∧ SqT K H c (cs.map V.str) ∧ OkCrates cs (places ds) ∧
  ∀ H', (∀ b o, b ≠ x → b ≠ dx → H b = some o → H' b = some o) → StoreAt K C H' x ds cs → Q .non H'
def spDoors (K : PySem.W.Frag) (C : Addr) : SpN := fun vs H Q => ∃ a ds cs, vs = [.ref a] ∧ StoreAt K C H a ds cs ∧ ∀ d, DoorsV K H (.ref d) ds → Q (.ref d) H
def spCrates (K : PySem.W.Frag) (C : Addr) : SpN := fun vs H Q => ∃ a ds cs, vs = [.ref a] ∧ StoreAt K C H a ds cs ∧ ∀ c, SqT K H c (cs.map V.str) → Q (.ref c) H
def spSize (K : PySem.W.Frag) (C : Addr) : SpN := fun vs H Q => ∃ a ds cs, vs = [.ref a] ∧ StoreAt K C H a ds cs ∧ Q (nV (places ds)) H
def spLenS (K : PySem.W.Frag) (C : Addr) : SpN := fun vs H Q => ∃ a ds cs, vs = [.ref a] ∧ StoreAt K C H a ds cs ∧ Q (nV ds.length) H
abbrev s_Store_doors : Stmt := inClass (topS 32) 2
abbrev N_Store_doors : List Str := ["self"]
theorem sc_Store_doors : FnScope N_Store_doors ["self"] (defScope s_Store_doors) := ⟨rfl, rfl, rfl, by decide +kernel, rfl, by decide +kernel, by decide +kernel⟩
-- cells: []; calls: []
theorem prp_Store_doors (B : Base K mg) (S : StoreB K mg C) : PrpN P w K mg base 1 C "doors" (spDoors K C) := by
  refine S.doors.ok sc_Store_doors (fun vs H Q h => ?_) (fun f cdv A outer s H vs Q E hr h => ?_)
  · obtain ⟨a, ds, cs, rfl, _⟩ := h
    rfl
  · obtain ⟨a, ds, cs, rfl, ⟨ok, dx, ea, p, P, d, c, h1, h2, rfl, h4, h5, h6⟩, q⟩ := h
    obtain ⟨pa, sl⟩ := S.parts
    refine ⟨_, (pss_one (ps_ret (pe_ix ix_tup (SlX.pe_sl (pv 0)) pe_int (fun _ _ => rfl)))
    ), ?_⟩
    exact ⟨_, rfl, _, _, _, _, _, _, _, rfl, h1, S.cls, sl, rfl, _, _, _, _, rfl, rfl, h4, rfl, q _ h5⟩
abbrev s_Store_crates : Stmt := inClass (topS 32) 3
abbrev N_Store_crates : List Str := ["self"]
theorem sc_Store_crates : FnScope N_Store_crates ["self"] (defScope s_Store_crates) := ⟨rfl, rfl, rfl, by decide +kernel, rfl, by decide +kernel, by decide +kernel⟩
-- cells: []; calls: []
theorem prp_Store_crates (B : Base K mg) (S : StoreB K mg C) : PrpN P w K mg base 1 C "crates" (spCrates K C) := by
  refine S.crates.ok sc_Store_crates (fun vs H Q h => ?_) (fun f cdv A outer s H vs Q E hr h => ?_)
  · obtain ⟨a, ds, cs, rfl, _⟩ := h
    rfl
  · obtain ⟨a, ds, cs, rfl, ⟨ok, dx, ea, p, P, d, c, h1, h2, rfl, h4, h5, h6⟩, q⟩ := h
    obtain ⟨pa, sl⟩ := S.parts
    refine ⟨_, (pss_one (ps_ret (pe_ix ix_tup (SlX.pe_sl (pv 0)) pe_int (fun _ _ => rfl)))
    ), ?_⟩
    exact ⟨_, rfl, _, _, _, _, _, _, _, rfl, h1, S.cls, sl, rfl, _, _, _, _, rfl, rfl, h4, rfl, q _ h6⟩
abbrev s_Store_size : Stmt := inClass (topS 32) 4
abbrev N_Store_size : List Str := ["self"]
theorem sc_Store_size : FnScope N_Store_size ["self"] (defScope s_Store_size) := ⟨rfl, rfl, rfl, by decide +kernel, rfl, by decide +kernel, by decide +kernel⟩
-- cells: []; calls: []
theorem prp_Store_size (B : Base K mg) (S : StoreB K mg C) : PrpN P w K mg base 1 C "size" (spSize K C) := by
  refine S.size.ok sc_Store_size (fun vs H Q h => ?_) (fun f cdv A outer s H vs Q E hr h => ?_)
  · obtain ⟨a, ds, cs, rfl, _⟩ := h
    rfl
  · obtain ⟨a, ds, cs, rfl, ⟨ok, dx, ea, p, P, d, c, h1, h2, rfl, h4, h5, h6⟩, q⟩ := h
    obtain ⟨pa, sl⟩ := S.edges
    refine ⟨_, (pss_one (ps_ret (pe_callB call_len rfl B.f_len boot_len (pa_cons (SlX.pe_sl (pv 0)) pa_nil)))
    ), ?_⟩
    exact ⟨_, rfl, _, _, _, _, _, _, _, rfl, h1, S.cls, sl, rfl, _, _, rfl, .inr ⟨_, h2, by rw [List.length_map, edges_len]⟩, q⟩
abbrev s_Store___len__ : Stmt := inClass (topS 32) 5
abbrev N_Store___len__ : List Str := ["self"]
theorem sc_Store___len__ : FnScope N_Store___len__ ["self"] (defScope s_Store___len__) := ⟨rfl, rfl, rfl, by decide +kernel, rfl, by decide +kernel, by decide +kernel⟩
-- cells: []; calls: []
theorem met_Store___len__ (B : Base K mg) (S : StoreB K mg C) : MetN P w K mg base 1 C "__len__" (spLenS K C) := by
  refine S.len.ok sc_Store___len__ (fun vs H Q h => ?_) (fun f cdv A outer s H vs Q E hr h => ?_)
  · obtain ⟨a, ds, cs, rfl, _⟩ := h
    rfl
  · obtain ⟨a, ds, cs, rfl, ⟨ok, dx, ea, p, P, d, c, h1, h2, rfl, h4, h5, h6⟩, q⟩ := h
    obtain ⟨pa, sl⟩ := S.parts
    obtain ⟨d', as, e, ht, hp⟩ := h5
    cases e
    refine ⟨_, (pss_one (ps_ret (pe_callB call_len rfl B.f_len boot_len (pa_cons (pe_ix ix_tup (SlX.pe_sl (pv 0)) pe_int (fun _ _ => rfl)) pa_nil)))
    ), ?_⟩
    exact ⟨_, rfl, _, _, _, _, _, _, _, rfl, h1, S.cls, sl, rfl, _, _, _, _, rfl, rfl, h4, rfl, _, _, rfl, .inr ⟨_, ht, (Paired.len hp).symm⟩, q⟩
abbrev s_Store___init__ : Stmt := inClass (topS 32) 1
abbrev N_Store___init__ : List Str := ["self", "doors", "crates", "warmth", "places", "edges", "door"]
theorem sc_Store___init__ : FnScope N_Store___init__ ["self", "doors", "crates"] (defScope s_Store___init__) := ⟨rfl, rfl, rfl, by decide +kernel, rfl, by decide +kernel, by decide +kernel⟩
-- cells: []; calls: ['are_crates', 'are_doors']
theorem mak_Store (B : Base K mg) (S : StoreB K mg C) : MakN P w K mg base 4 "Store" C (spNewStore K C) := by
  refine S.init.ok sc_Store___init__ (fun vs H Q h => ?_) (fun f cdv A outer s H vs Q E hr h => ?_)
  · obtain ⟨x, dx, d, c, ds, cs, rfl, _⟩ := h
    rfl
  · obtain ⟨x, dx, d, c, ds, cs, rfl, hx, hdx, ne, hd, okd, hc, okc, q⟩ := h
    refine ⟨_, (pss_cons (ps_if (pt_not (pt_val (pe_c (cal_are_doors B) hr (by decide) rfl (pa_cons (pv 1) pa_nil)))) (
        (pss_one ps_never
        )) (pss_nil))
    (pss_cons (ps_if (pt_not (pt_val (pe_c (cal_are_crates B) hr (by decide) rfl (pa_cons (pv 2) (pa_cons (pe_callB (cr_sum rfl) rfl B.f_sum (by decide +kernel) (pa_cons (pe_lcX (own := [("warmth", 3), ("places", 4)]) rfl sc_Store___init__.nd (pi_tup (pv 1)) (blkOk_by (own := [("warmth", 3), ("places", 4)]) (N := N_Store___init__) (sc := defScope s_Store___init__) (by decide +kernel)) (fun _ _ _ _ _ => (pg_tup rfl (pgs_cons (pg_name (i := 3) sc_Store___init__.nd rfl (.inl rfl)) (pgs_cons (pg_name (i := 4) sc_Store___init__.nd rfl (.inl rfl)) pgs_nil)))) (fun _ _ _ _ _ => pts_nil) (fun _ _ _ _ _ => (pv 4))) pa_nil)) pa_nil))))) (
        (pss_one ps_never
        )) (pss_nil))
    (pss_cons (SlX.ps_sl (pv 0) (pe_tup (pa_cons (pv 1) (pa_cons (pv 2) pa_nil))))
    (pss_cons (ps_set (i := 5) sc_Store___init__.nd rfl (.inl rfl) (pe_lst pa_nil))
    (pss_cons (ps_for PassesOwn.never rfl (pi_enumT rfl B.f_enumerate (pa_cons (pv 1) pa_nil)) (pg_tup rfl (pgs_cons (pg_name (i := 6) sc_Store___init__.nd rfl (.inl rfl)) (pgs_cons (pg_tup rfl (pgs_cons (pg_name (i := 3) sc_Store___init__.nd rfl (.inl rfl)) (pgs_cons (pg_name (i := 4) sc_Store___init__.nd rfl (.inl rfl)) pgs_nil))) pgs_nil))) (
        (pss_one (ps_expr (pe_bm PySem.F.plainAttrs_list PySem.F.slot_list_extend PySem.F.type_list_extend mt_extend (pv 5) (pa_cons (pe_op op_rep (pe_lst (pa_cons (pv 6) pa_nil)) (pv 4)) pa_nil)))
        )))
    (pss_one (SlX.ps_sl (pv 0) (pe_callTy call_tuple_of rfl B.f_tuple (by decide +kernel) (pa_cons (pv 5) pa_nil)))
    )))))), ?_⟩
    refine ⟨_, rfl, _, ds, rfl, hd, okd, fun H1 e1 => ⟨_, rfl, iteF ?_⟩⟩
    obtain ⟨d', as, e, ht, hp⟩ := id hd
    cases e
    have hl := Paired.len hp
    have hz4 : ds.length ≤ 4 := okd.2.1
    refine ⟨_, rfl, _, rfl, _, rfl, ⟨_, e1.tup ht⟩, ?_⟩
    refine comp_it walk_tup ds (fun d => some ((d.2 : Nat) : Int)) (DoorV K) (fun _ v b => v = .int b) (fun _ _ _ _ _ h => h) hl.symm (fun _ e2 => (e1.trans e2).tup ht)
      (by omega) (fun i H2 x H' d hd hy e2 => ?_) (fun i d x H' Qy Qn hd e hs ky kn => ?_) (fun D2 H2 ys2 hD2 e2 g3 g4 => ?_)
    · obtain ⟨rfl, hx⟩ := hy
      obtain ⟨x', hx', hv⟩ := Paired.get hp hd
      rw [hx] at hx'
      cases hx'
      exact ⟨Same.refl _, hv.mono (e1.trans e2).n⟩
    · obtain ⟨b, rfl, hb⟩ := hs
      exact ⟨_, _, rfl, hb, rfl, _, _, rfl, _, _, rfl, rfl, rfl, _, rfl, ky _ _ _ rfl (Same.refl _) rfl⟩
    rw [fm_some] at g4
    have e12 := e1.trans e2
    refine ⟨_, _, rfl, SqL.of (by rw [g3, ints_of g4]), ?_⟩

    refine ⟨_, cs, places ds, by rw [sum_places], e12.tup hc, okc, fun H3 e3 => ⟨_, rfl, iteF ?_⟩⟩
    have e13 := e12.trans e3
  
    refine ⟨_, rfl, _, rfl, small (by simp), fun P4 np => ?_⟩
    generalize hh : upd H3 P4 _ = H4
    obtain ⟨e4, hP⟩ := upH hh np
    clear hh
    have e14 := e13.trans e4
    obtain ⟨p1, sl1⟩ := S.parts
    obtain ⟨p2, sl2⟩ := S.edges
    have hP1 := hP
    refine ⟨_, rfl, x, C, dx, p1, [], 1, rfl, .inl ⟨e14 _ _ hx, rfl⟩, S.cls, sl1, ?_⟩
    have hdoors : DoorsV K H (.ref d) ds := hd
    generalize hH5 : SlX.slH H4 x C dx (SlX.putS 1 (V.ref P4) []) = H5
    have s5 : SlX.Slt H5 x C dx [none, some (.ref P4)] := by rw [← hH5]; exact SlX.slH_slt ne
    have k5 : ∀ b o, b ≠ x → b ≠ dx → H4 b = some o → H5 b = some o := fun b o n1 n2 z => by rw [← hH5, SlX.slH_ne n1 n2]; exact z
    have nx : ∀ {b o}, H b = some o → (∀ z, o ≠ .ins C dx z) → b ≠ x := fun h1 h2 z => by rw [z, hx] at h1; exact h2 _ (Option.some.inj h1).symm
    refine ⟨small (by simp), fun L nL => ?_⟩
    generalize hh : upd H5 L _ = H6
    obtain ⟨e6, hL⟩ := upH hh nL
    clear hh
    have q6 : ∀ b o, b ≠ x → b ≠ dx → H b = some o → H6 b = some o := fun b o n1 n2 h => e6 _ _ (k5 _ _ n1 n2 (e14 _ _ h))
    have tq : ∀ {H' : Hp} {a : Addr} {xs : List V}, (∀ b o, b ≠ x → b ≠ dx → H b = some o → H' b = some o) → SqT K H a xs → SqT K H' a xs := fun hk h => by
      rcases h with (h | ⟨o, h⟩) | h
      · exact .inl (.inl (hk _ _ (fun z => by rw [z, hx] at h; cases h) (fun z => by rw [z, hdx] at h; cases h) h))
      · exact .inl (.inr ⟨o, hk _ _ (fun z => by rw [z, hx] at h; cases h) (fun z => by rw [z, hdx] at h; cases h) h⟩)
      · exact .inr h
    have dq : ∀ {H' : Hp} {v : V} {d : Door}, (∀ b o, b ≠ x → b ≠ dx → H b = some o → H' b = some o) → DoorV K H v d → DoorV K H' v d := fun hk h => by
      obtain ⟨b, rfl, h⟩ := h
      exact ⟨b, rfl, tq hk h⟩
    refine ⟨_, rfl, _, as, rfl, tq q6 ht, ?_⟩
    have hLx : L ≠ x := fun z => by
      rcases s5 with ⟨z1, _⟩ | ⟨z1, _⟩ <;> rw [← z, nL] at z1 <;> cases z1
    have hLd : L ≠ dx := fun z => by
      rcases s5 with ⟨_, z1⟩ | ⟨_, z1⟩
      · cases z1
      · rw [← z, nL] at z1
        cases z1
    have nH : H L = none := by
      cases z : H L with
      | none => rfl
      | some o =>
        have := k5 _ _ hLx hLd (e14 _ _ z)
        rw [nL] at this
        cases this
    have s6 : SlX.Slt H6 x C dx [none, some (.ref P4)] := slt_mono e6.n s5
    have p6 : H6 P4 = some (.tup [.ref d, .ref c]) := e6 _ _ (k5 _ _ (fun z => by rw [z, e13 _ _ hx] at np; cases np) (fun z => by rw [z, e13 _ _ hdx] at np; cases np) hP)
    refine for_it (walk_enumT (K := K) (a := d) (xs := as)) (fun i σ H7 => (∃ j1 j2 j3, σ = [some (.ref x), some (.ref d), some (.ref c), j1, j2, some (.ref L), j3]) ∧ (∀ b o, b ≠ L → H6 b = some o → H7 b = some o) ∧ H7 L = some (.lst ((edges (ds.take i)).map nV))) ?_
      (fun i σ H7 hi p => ?_) (fun i y σ H7 H8 hi p hy => ?_) (fun σ H7 p => ?_)
    · exact ⟨⟨_, _, _, rfl⟩, fun _ _ _ h => h, hL⟩
    · exact tq (fun b o n1 n2 h => p.2.1 b o (fun z => by rw [z, nH] at h; cases h) (q6 _ _ n1 n2 h)) ht
    · obtain ⟨⟨j1, j2, j3, rfl⟩, k7, l7⟩ := p
      obtain ⟨a1, b1, h1, h2, e8, T, rfl, hT⟩ := pair_of (K := K) hy
      obtain rfl : V.int (i : Nat) = a1 := Option.some.inj h1
      obtain ⟨dd, hdd, hdv⟩ := Paired.get1 hp h2
      have k8 : ∀ b o, b ≠ x → b ≠ dx → H b = some o → H8 b = some o := fun b o n1 n2 h => e8 _ _ (k7 b o (fun z => by rw [z, nH] at h; cases h) (q6 _ _ n1 n2 h))
      obtain ⟨bb, rfl, hbb⟩ := dq k8 hdv
      have lz : (edges (ds.take i)).length ≤ 6 := by
        have := edges_len ds
        have h6 := okd.2.2.2
        have e := congrArg edges (List.take_append_drop i ds)
        have : (edges (ds.take i)).length ≤ (edges ds).length := by
          rw [edges_len, edges_len]
          unfold places
          rw [← e_sum ds i]
          omega
        omega
      have d4 : dd.2 ≤ 4 := (okd.2.2.1 dd (List.mem_of_getElem? hdd)).2.2.2
      refine ⟨_, _, rfl, hT, rfl, _, _, rfl, _, _, rfl, _, _, rfl, hbb, rfl, _, _, rfl, _, _, rfl, rfl, rfl, ?_⟩
      have l8 : H8 L = some (.lst ((edges (ds.take i)).map nV)) := e8 _ _ l7
      refine ⟨_, rfl, .inl ⟨rfl, _, SqL.of l8⟩, _, rfl, small (by simp), fun M nM => ?_⟩
      generalize hh : upd H8 M _ = H9
      obtain ⟨e9, hM⟩ := upH hh nM
      clear hh
      refine ⟨_, rfl, _, _, _, rfl, rfl, hM, by omega, by omega, small (by simp; omega), fun R nR => ?_⟩
      generalize hh : upd H9 R _ = H10
      obtain ⟨e10, hR⟩ := upH hh nR
      clear hh
      have hRl : (List.replicate ((dd.2 : Nat) : Int).toNat [V.int (i : Nat)]).flatten = List.replicate dd.2 (nV i) := by
        rw [Int.toNat_natCast]
        generalize dd.2 = n
        induction n with
        | zero => rfl
        | succ n ih => rw [List.replicate_succ, List.flatten_cons, ih]; rfl
      rw [hRl] at hR
      refine ⟨_, _, _, _, rfl, rfl, e10 _ _ (e9 _ _ l8), hR, small (by rw [List.length_map, List.length_replicate]; omega), ⟨_, _, _, rfl⟩, fun b o nb h => ?_, ?_⟩
      · rw [upd_ne nb]
        exact e10 _ _ (e9 _ _ (e8 _ _ (k7 _ _ nb h)))
      · rw [upd_same, take_succ_get hdd]
        unfold edges
        rw [edgesFrom_snoc, List.map_append, List.map_replicate]
        have : (ds.take i).length = i := by
          rw [List.length_take]
          have := (List.getElem?_eq_some_iff.mp hdd).1
          omega
        rw [Nat.zero_add, this]
    · obtain ⟨⟨j1, j2, j3, rfl⟩, k7, l7⟩ := p
      rw [hl, List.take_length] at l7
      refine ⟨_, rfl, _, _, rfl, .inl ⟨SqL.of l7, fun T nT => ?_⟩⟩
      generalize hh : upd H7 T _ = H8
      obtain ⟨e8, hT⟩ := upH hh nT
      clear hh
      have nLx : x ≠ L := Ne.symm hLx
      have s7 : SlX.Slt H7 x C dx [none, some (.ref P4)] := by
        rcases s6 with ⟨z1, z2⟩ | ⟨z1, z2⟩
        · cases z2
        · exact .inr ⟨k7 _ _ nLx z1, k7 _ _ (Ne.symm hLd) z2⟩
      refine ⟨_, rfl, x, C, dx, p2, [none, some (.ref P4)], 0, rfl, slt_mono e8.n s7, S.cls, sl2, ?_⟩
      have kk : ∀ b o, b ≠ x → b ≠ dx → H8 b = some o → (SlX.slH H8 x C dx (SlX.putS 0 (V.ref T) [none, some (.ref P4)])) b = some o := fun b o n1 n2 h => by
        rw [SlX.slH_ne n1 n2]
        exact h
      have k9 : ∀ b o, b ≠ x → b ≠ dx → H b = some o → (SlX.slH H8 x C dx (SlX.putS 0 (V.ref T) [none, some (.ref P4)])) b = some o := fun b o n1 n2 h =>
        kk b o n1 n2 (e8 _ _ (k7 _ _ (fun z => by rw [z, nH] at h; cases h) (q6 _ _ n1 n2 h)))
      have h7x : H7 x ≠ none := by
        rcases s7 with ⟨z, _⟩ | ⟨z, _⟩ <;> rw [z] <;> exact fun z => nomatch z
      have h7d : H7 dx ≠ none := by
        rcases s7 with ⟨_, z⟩ | ⟨_, z⟩
        · cases z
        · rw [z]; exact fun z => nomatch z
      have hPx : P4 ≠ x := fun z => by rw [z, e13 _ _ hx] at np; cases np
      have hPd : P4 ≠ dx := fun z => by rw [z, e13 _ _ hdx] at np; cases np
      refine q _ k9 ⟨⟨okd, okc⟩, dx, T, _, P4, d, c, SlX.slH_slt ne, SqT.of (kk _ _ (fun z => h7x (z ▸ nT)) (fun z => h7d (z ▸ nT)) hT), rfl, SqT.of (kk _ _ hPx hPd (e8 _ _ (k7 _ _ (fun z => by rw [z, hL] at p6; cases p6) p6))), ?_, tq k9 hc⟩
      exact ⟨d, as, rfl, tq k9 ht, Paired.imp (fun _ _ h => dq k9 h) hp⟩
end
end CC

/-! text Dat -/
namespace CC
open PySem PySem.Spec PyProof.Rows L2
/-! ### data: how deep, when equal -/
def Sh (n : Nat) (d : PyData) : Prop := d.canLay0 = true ∧ d.depth ≤ n
theorem Sh.shaped {n : Nat} {d : PyData} (h : Sh n d) (hn : n ≤ 64) : SeqAt.shaped d = true := by
  unfold SeqAt.shaped
  rw [h.1, Bool.true_and]
  exact decide_eq_true (Nat.le_trans h.2 hn)
theorem Sh.refl {n : Nat} {d : PyData} (h : Sh n d) : PyData.eqv d d = true := SeqAt.eqv_refl d h.1
theorem Sh.all {n : Nat} : ∀ {ds : List PyData}, (∀ d ∈ ds, Sh n d) → PyData.canLayAll0 ds = true ∧ PyData.depthAll ds ≤ n
  | [], _ => ⟨rfl, Nat.zero_le _⟩
  | d :: r, h => by
    obtain ⟨h1, h2⟩ := h d List.mem_cons_self
    obtain ⟨h3, h4⟩ := Sh.all (fun d hd => h d (List.mem_cons_of_mem _ hd))
    refine ⟨?_, ?_⟩
    · rw [PyData.canLayAll0, h1, h3]; rfl
    · rw [PyData.depthAll]; exact Nat.max_le.mpr ⟨h2, h4⟩
theorem Sh.tup {n : Nat} {ds : List PyData} (h : ∀ d ∈ ds, Sh n d) : Sh (n + 1) (.tuple ds) := by
  obtain ⟨h1, h2⟩ := Sh.all h
  exact ⟨by rw [PyData.canLay0]; exact h1, by rw [PyData.depth]; omega⟩
theorem Sh.lst {n : Nat} {ds : List PyData} (h : ∀ d ∈ ds, Sh n d) : Sh (n + 1) (.list ds) := by
  obtain ⟨h1, h2⟩ := Sh.all h
  exact ⟨by rw [PyData.canLay0]; exact h1, by rw [PyData.depth]; omega⟩
theorem Sh.int {n : Nat} (i : Int) : Sh n (.int i) := ⟨rfl, by rw [PyData.depth]; exact Nat.zero_le _⟩
theorem Sh.non {n : Nat} : Sh n .none := ⟨rfl, by rw [PyData.depth]; exact Nat.zero_le _⟩
theorem Sh.str {n : Nat} {z : Str} (h : PyData.strOk z = true) : Sh n (.str z) := ⟨by rw [PyData.canLay0]; exact h, by rw [PyData.depth]; exact Nat.zero_le _⟩
theorem eqvAll_map {α : Type} [DecidableEq α] {f : α → PyData} (h : ∀ a b, PyData.eqv (f a) (f b) = decide (a = b)) : ∀ l m : List α, PyData.eqvAll (l.map f) (m.map f) = decide (l = m)
  | [], [] => by simp [PyData.eqvAll]
  | [], _ :: _ => by simp [PyData.eqvAll]
  | _ :: _, [] => by simp [PyData.eqvAll]
  | a :: l, b :: m => by
    rw [List.map_cons, List.map_cons, PyData.eqvAll, h a b, eqvAll_map h l m]
    by_cases h1 : a = b <;> by_cases h2 : l = m <;> simp [h1, h2]
theorem eqv_str (x y : Str) : PyData.eqv (.str x) (.str y) = decide (x = y) := by
  rw [PyData.eqv]
  rfl
theorem eqv_nat (x y : Nat) : PyData.eqv (.int (x : Nat)) (.int (y : Nat)) = decide (x = y) := by
  rw [PyData.eqv]
  by_cases h : x = y
  · subst h; simp
  · rw [decide_eq_false h]
    exact beq_eq_false_iff_ne.mpr fun e => h (Int.ofNat.inj e)
theorem DpAll.map {K : PySem.W.Frag} {H : Hp} {α : Type} {f : α → V} {g : α → PyData} (h : ∀ a, Dp K H (f a) (g a)) : ∀ l : List α, DpAll K H (l.map f) (l.map g)
  | [] => .nil
  | a :: l => .cons (h a) (DpAll.map h l)
theorem DpAll.pair {K : PySem.W.Frag} {H : Hp} {α : Type} {F : V → α → Prop} {g : α → PyData} (h : ∀ v a, F v a → Dp K H v (g a)) : ∀ {vs : List V} {l : List α}, Paired F vs l → DpAll K H vs (l.map g)
  | _, _, .nil => .nil
  | _, _, .cons r t => .cons (h _ _ r) (DpAll.pair h t)
/-! ### layouts -/
abbrev Lay := List (Option Str)
def oV : Option Str → V
  | none => .non
  | some z => .str z
def oD : Option Str → PyData
  | none => .none
  | some z => .str z
theorem oV_inj : ∀ {a b : Option Str}, oV a = oV b → a = b
  | none, none, _ => rfl
  | some x, some y, h => by cases h; rfl
theorem oV_scal : ∀ a b : Option Str, scal (oV a) (oV b) = true
  | none, none => rfl
  | none, some _ => rfl
  | some _, none => rfl
  | some _, some _ => rfl
theorem oV_eq (a b : Option Str) : decide (oV a = oV b) = decide (a = b) := by
  by_cases h : a = b
  · rw [h, decide_eq_true rfl, decide_eq_true rfl]
  · rw [decide_eq_false h, decide_eq_false fun e => h (oV_inj e)]
theorem oV_flat : ∀ a : Option Str, flatV (oV a) = true
  | none => rfl
  | some _ => rfl
theorem eqv_oD : ∀ a b : Option Str, PyData.eqv (oD a) (oD b) = decide (a = b)
  | none, none => rfl
  | none, some _ => by rw [decide_eq_false (fun h => nomatch h)]; rfl
  | some _, none => by rw [decide_eq_false (fun h => nomatch h)]; rfl
  | some x, some y => by
    show PyData.eqv (.str x) (.str y) = _
    rw [eqv_str]
    by_cases h : x = y <;> simp [h]
theorem Dp_oV {K : PySem.W.Frag} {H : Hp} : ∀ a, Dp K H (oV a) (oD a)
  | none => .non
  | some z => .str z
def layD (l : Lay) : PyData := .tuple (l.map oD)
def NmOk (l : Lay) : Prop := ∀ z, some z ∈ l → PyData.strOk z = true
theorem Sh_lay {l : Lay} (h : NmOk l) : Sh 1 (layD l) := Sh.tup fun d hd => by
  obtain ⟨o, ho, rfl⟩ := List.mem_map.mp hd
  cases o with
  | none => exact Sh.non
  | some z => exact Sh.str (h z ho)
theorem Dp_lay {K : PySem.W.Frag} {H : Hp} {a : Addr} {l : Lay} (h : SqT K H a (l.map oV)) : Dp K H (.ref a) (layD l) := .tup h (DpAll.map Dp_oV l)
theorem eqv_lay (l m : Lay) : PyData.eqv (layD l) (layD m) = decide (l = m) := by
  unfold layD
  rw [PyData.eqv]
  exact eqvAll_map eqv_oD l m
theorem rEq_lay {K : PySem.W.Frag} {H : Hp} {a b : Addr} {l m : Lay} {Q : VK} (h1 : SqT K H a (l.map oV)) (h2 : SqT K H b (m.map oV)) (o1 : NmOk l) (o2 : NmOk m) (q : Q (.bl (decide (l = m))) H) : rEqD K (.ref a) (.ref b) H Q :=
  ⟨_, _, Dp_lay h1, Dp_lay h2, (Sh_lay o1).shaped (by decide), (Sh_lay o2).shaped (by decide), by rw [eqv_lay]; exact q⟩
theorem rNe_lay {K : PySem.W.Frag} {H : Hp} {a b : Addr} {l m : Lay} {Q : VK} (h1 : SqT K H a (l.map oV)) (h2 : SqT K H b (m.map oV)) (o1 : NmOk l) (o2 : NmOk m) (q : Q (.bl (!decide (l = m))) H) : rNeD K (.ref a) (.ref b) H Q :=
  ⟨_, _, Dp_lay h1, Dp_lay h2, (Sh_lay o1).shaped (by decide), (Sh_lay o2).shaped (by decide), by rw [eqv_lay]; exact q⟩
/-! ### comparing with nothing: [] and () -/
theorem rEq_nil {K : PySem.W.Frag} {H : Hp} {a b : Addr} {xs : List V} {Q : VK} (d : List PyData) (n : Nat) (hn : n ≤ 60) (h1 : SqL K H a xs) (h2 : SqL K H b []) (hd : DpAll K H xs d) (sh : ∀ x ∈ d, Sh n x) (q : Q (.bl (decide (xs = []))) H) : rEqD K (.ref a) (.ref b) H Q := by
  refine ⟨_, .list [], .lst h1 hd, .lst h2 .nil, (Sh.lst sh).shaped (by omega), by decide, ?_⟩
  cases hd with
  | nil => rw [decide_eq_true rfl] at q; exact q
  | cons _ _ => rw [decide_eq_false (fun h => nomatch h)] at q; exact q
theorem rNe_nil {K : PySem.W.Frag} {H : Hp} {a b : Addr} {xs : List V} {Q : VK} (d : List PyData) (n : Nat) (hn : n ≤ 60) (h1 : SqL K H a xs) (h2 : SqL K H b []) (hd : DpAll K H xs d) (sh : ∀ x ∈ d, Sh n x) (q : Q (.bl (!decide (xs = []))) H) : rNeD K (.ref a) (.ref b) H Q := by
  refine ⟨_, .list [], .lst h1 hd, .lst h2 .nil, (Sh.lst sh).shaped (by omega), by decide, ?_⟩
  cases hd with
  | nil => rw [decide_eq_true rfl] at q; exact q
  | cons _ _ => rw [decide_eq_false (fun h => nomatch h)] at q; exact q
theorem rEq_unit {K : PySem.W.Frag} {H : Hp} {a b : Addr} {xs : List V} {Q : VK} (d : List PyData) (n : Nat) (hn : n ≤ 60) (h1 : SqT K H a xs) (h2 : SqT K H b []) (hd : DpAll K H xs d) (sh : ∀ x ∈ d, Sh n x) (q : Q (.bl (decide (xs = []))) H) : rEqD K (.ref a) (.ref b) H Q := by
  refine ⟨_, .tuple [], .tup h1 hd, .tup h2 .nil, (Sh.tup sh).shaped (by omega), by decide, ?_⟩
  cases hd with
  | nil => rw [decide_eq_true rfl] at q; exact q
  | cons _ _ => rw [decide_eq_false (fun h => nomatch h)] at q; exact q
theorem rNe_unit {K : PySem.W.Frag} {H : Hp} {a b : Addr} {xs : List V} {Q : VK} (d : List PyData) (n : Nat) (hn : n ≤ 60) (h1 : SqT K H a xs) (h2 : SqT K H b []) (hd : DpAll K H xs d) (sh : ∀ x ∈ d, Sh n x) (q : Q (.bl (!decide (xs = []))) H) : rNeD K (.ref a) (.ref b) H Q := by
  refine ⟨_, .tuple [], .tup h1 hd, .tup h2 .nil, (Sh.tup sh).shaped (by omega), by decide, ?_⟩
  cases hd with
  | nil => rw [decide_eq_true rfl] at q; exact q
  | cons _ _ => rw [decide_eq_false (fun h => nomatch h)] at q; exact q
end CC

/-! text T1 -/
namespace CC
open PySem PySem.Spec PyProof.Rows L2
/-! ### tuples whose own object is known to have no dict (their methods may be called) -/
def TupF (H : Hp) (a : Addr) (xs : List V) : Prop := ∃ o, H a = some (.frz o (.tup xs)) ∧ o.dict = none
theorem TupF.sq {K : PySem.W.Frag} {H : Hp} {a : Addr} {xs : List V} (h : TupF H a xs) : SqT K H a xs := let ⟨o, h, _⟩ := h; .inl (.inr ⟨o, h⟩)
theorem TupF.mono {H H' : Hp} {a : Addr} {xs : List V} (e : SameN H H') (h : TupF H a xs) : TupF H' a xs := let ⟨o, h, d⟩ := h; ⟨o, e _ _ h (fun _ z => nomatch z), d⟩
section
variable {X : Cx} {pins : List (Addr × Obj)} {σ : L2.St} {H : Hp} {s : Shared} {t : TA} {es : List Expr} {pos : Pos}
/-- a new tuple -/
abbrev newT (H1 : Hp) (xs : List V) (Q : VK) : Prop := ∀ p H', H1 p = none → Same H1 H' → TupF H' p xs → Q (.ref p) H'
/-- a new list -/
abbrev newL (H1 : Hp) (xs : List V) (Q : VK) : Prop := ∀ p H', H1 p = none → Same H1 H' → H' p = some (.lst xs) → Q (.ref p) H'
theorem lay_tup {us : List Value} {xs : List V} {h' : Heap} {p : Addr} {tk : Nat} {Q : VK} (I : Inv X pins σ H s) (r : Vals xs us) (hz : xs.length ≤ sizeLine) (k : ∀ b u, s.heap.get? b = some u → h'.get? b = some u) (hp : s.heap.objs.size ≤ p)
    (ho : h'.get? p = some { cls := .type "tuple", data := .seq us.toArray }) (q : newT H xs Q) : EP X pins σ Q (.ref p) { s with heap := h', toks := tk } := by
  have np : H p = none := I.hok.fresh hp
  refine ⟨.ref p, upd H p (.frz { cls := .type "tuple", data := .seq us.toArray } (.tup xs)), I.laid (t' := tk) k hp ⟨ho, hz, us, r, ⟨_, ho, rfl, _, rfl⟩⟩, rfl, q p _ np (Same.new np) ⟨_, upd_same, rfl⟩⟩
def tTupF (t : TA) : TE := fun σ H Q => t σ H fun xs H1 => xs.length ≤ sizeLine ∧ newT H1 xs Q
theorem pe_tupF {x1} (h : PA X es t) : PE X (.Tuple es x1 pos) (tTupF t) := by
  refine ⟨fun pins s σ H Q I hq => ?_⟩
  refine wpAny_Tuple_spliced (thn (h.run pos pins s σ H _ I hq) fun us s1 ⟨xs, H1, I1, r, z, q⟩ => ⟨by rw [← r.length]; exact z, ?_⟩)
  exact lay_tup (tk := s1.toks) I1 r z (fun b u e => Heap.get?_push_of_some _ e) (Nat.le_refl _) (Heap.get?_push_size _ rfl) q
def tLstN (t : TA) : TE := fun σ H Q => t σ H fun xs H1 => xs.length ≤ sizeLine ∧ newL H1 xs Q
theorem pe_lstN (h : PA X es t) : PE X (.List es pos) (tLstN t) := by
  refine ⟨fun pins s σ H Q I hq => ?_⟩
  refine wpAny_List_spliced (thn (h.run pos pins s σ H _ I hq) fun us s1 ⟨xs, H1, I1, r, z, q⟩ => ⟨by rw [← r.length]; exact z, ?_⟩)
  have np : H1 s1.heap.objs.size = none := I1.hok.fresh (Nat.le_refl _)
  exact ⟨.ref s1.heap.objs.size, upd H1 s1.heap.objs.size (.lst xs), I1.laid (t' := s1.toks) (fun b u e => Heap.get?_push_of_some _ e) (Nat.le_refl _) ⟨z, us, 0, r, Heap.get?_push_size _ rfl⟩, rfl, q _ _ np (Same.new np) upd_same⟩
/-- tuple(a list) -/
def rTupF (K : PySem.W.Frag) : List V → Hp → VK → Prop := fun xs H Q => ∃ p ys, xs = [.ref p] ∧ SqL K H p ys ∧ newT H ys Q
theorem call_tupleF : CallR X (.type "tuple") (rTupF X.K) := by
  intro pins s σ H xs us Q I r h
  obtain ⟨p, ys, rfl, hq, q⟩ := h
  obtain ⟨u, rfl, rx⟩ := r.one
  cases (show u = Value.ref p from rx)
  obtain ⟨its, r', pl, hz⟩ := I.list hq
  have hlen := r'.length
  refine call_tuple_list pl.isList (fun h' kp => ?_) (by simp only [List.size_toArray] <;> omega)
  exact lay_tup (s := { s with heap := h' }) (tk := s.toks) (I.kept (t' := s.toks) kp) r' hz (fun b o e => Heap.get?_push_of_some _ e) (Nat.le_refl _) (Heap.get?_push_size _ rfl) q
/-- list(a list or a tuple) -/
def rListF (K : PySem.W.Frag) : List V → Hp → VK → Prop := fun xs H Q => ∃ p ys, xs = [.ref p] ∧ (SqL K H p ys ∨ SqT K H p ys) ∧ newL H ys Q
theorem call_listN : CallR X (.type "list") (rListF X.K) := fun pins s σ H xs us Q I r h =>
  call_list_of pins s σ H xs us Q I r (let ⟨p, ys, e, hs, q⟩ := h; ⟨p, ys, e, hs, fun l hl => q l _ hl (Same.new hl) upd_same⟩)
/-- x + y of lists -/
def rCatN : R2 := fun x y H Q => ∃ l b xs zs, x = .ref l ∧ y = .ref b ∧ H l = some (.lst xs) ∧ H b = some (.lst zs) ∧ xs.length + zs.length ≤ sizeLine ∧ newL H (xs ++ zs) Q
theorem op_catN : OpR X (binaryOp .Add) rCatN := fun pins s σ H x y v u Q I rx ry h =>
  op_cat pins s σ H x y v u Q I rx ry (let ⟨l, b, xs, zs, e1, e2, h1, h2, hz, q⟩ := h; ⟨l, b, xs, zs, e1, e2, h1, h2, hz, fun p hp => q p _ hp (Same.new hp) upd_same⟩)
/-- [..] * n -/
def rRepN : R2 := fun x y H Q => ∃ l k xs, x = .ref l ∧ y = .int ((k : Nat) : Int) ∧ H l = some (.lst xs) ∧ k ≤ 1000 ∧ xs.length ≤ 1000 ∧ newL H (List.replicate k xs).flatten Q
theorem op_repN : OpR X (binaryOp .Mult) rRepN := fun pins s σ H x y v u Q I rx ry h =>
  op_rep pins s σ H x y v u Q I rx ry (let ⟨l, k, xs, e1, e2, h1, hk, hx, q⟩ := h; ⟨l, k, xs, e1, e2, h1, by omega, by omega, by
    rw [Int.toNat_natCast]
    have := Nat.mul_le_mul hx hk
    rw [sizeLine_eq]
    omega, fun p hp => by rw [Int.toNat_natCast]; exact q p _ hp (Same.new hp) upd_same⟩)
/-- t + u of tuples -/
def rCatF (K : PySem.W.Frag) : R2 := fun x y H Q => ∃ a b xs ys, x = .ref a ∧ y = .ref b ∧ SqT K H a xs ∧ SqT K H b ys ∧ xs.length + ys.length ≤ sizeLine ∧ (xs = [] → Q (.ref b) H) ∧ (xs ≠ [] → ys = [] → Q (.ref a) H) ∧ (xs ≠ [] → ys ≠ [] → newT H (xs ++ ys) Q)
theorem op_catF : OpR X (binaryOp .Add) (rCatF X.K) := by
  intro pins s σ H x y v u Q I rx ry h
  obtain ⟨a, b, xs, ys, rfl, rfl, ha, hb, hz, q0, q1, q2⟩ := h
  cases (show v = Value.ref a from rx)
  cases (show u = Value.ref b from ry)
  obtain ⟨its, r1, p1, _⟩ := I.tuple ha
  obtain ⟨its2, r2, p2, _⟩ := I.tuple hb
  by_cases hx : xs = []
  · subst hx
    cases r1
    exact cat_tup0 p1 p2 ⟨.ref b, H, I, rfl, q0 rfl⟩
  · have l1 := r1.length
    have l2 := r2.length
    have hv : its ≠ [] := fun z => hx (by rw [z] at l1; exact List.length_eq_zero_iff.mp l1)
    refine HT.cat_tup p1 p2 hv (fun z => ?_) (fun z => ?_) (by omega)
    · exact ⟨.ref a, H, I, rfl, q1 hx (by rw [z] at l2; exact List.length_eq_zero_iff.mp l2)⟩
    · have hy : ys ≠ [] := fun e => z (by rw [e] at l2; exact List.length_eq_zero_iff.mp l2.symm)
      exact lay_tup (tk := s.toks) I (r1.append r2) (by rw [List.length_append]; exact hz) (fun b o e => Heap.get?_push_of_some _ e) (Nat.le_refl _) (Heap.get?_push_size _ rfl) (q2 hx hy)
/-! ### t.index(x), t.count(x) -/
def tTM (r : V → List V → Hp → VK → Prop) (to : TE) (t : TA) : TE := fun σ H Q => to σ H fun x H1 => (∃ a xs, x = .ref a ∧ TupF H1 a xs) ∧ t σ H1 fun xs H2 => r x xs H2 Q
theorem pe_tm {o e : Expr} {name : Str} {id : String} {apos cpos : Pos} {to : TE} {r : V → List V → Hp → VK → Prop} (slot : Slot "tuple" name id) (hty : typeOf (.builtin id) = pure (.type "method_descriptor")) (hm : MtR X id r) (ho : PE X o to) (ha : PA X (e :: es) t)
    (hbase : attributeBase o name X.env (eval o X.env) = eval o X.env := by rfl)
    (hfew : ((backTo cpos (starEach (e :: es) X.env)).all (fun x => !x.1) && (backToKw cpos (keywordEach [] X.env)).all (fun x => x.1.isSome) && decide ((e :: es).length + ([] : List Keyword).length + (if ([] : List Keyword).isEmpty then 0 else 1) < 30)) = true := by rfl)
    (hline : (apos.endLine == cpos.line) = true := by rfl) (hs : starEach (e :: es) X.env = (false, eval e X.env) :: starEach es X.env := by rfl) (hplain : (backTo cpos (starEach es X.env)).any (·.1) = false := by rfl) :
    PE X (.Call (.Attribute o name apos) (e :: es) [] cpos) (tTM r to t) := by
  refine ⟨fun pins s σ H Q I h => ?_⟩
  refine wpAny_Call_method_late hbase hfew hline rfl (thn (ho.run pins s σ H _ I h) fun v s1 ⟨x, H1, I1, r1, ⟨a, xs, ex, ob, hob, hd⟩, q1⟩ => ?_)
  subst ex
  cases (show v = Value.ref a from r1)
  obtain ⟨g1, g2⟩ := I1.hok a _ hob
  have hT : s1.TypeIs (.ref a) "tuple" := by
    obtain ⟨_, its, _, pl⟩ := g2
    exact (show s1.heap.IsTuple a its.toArray from pl).typeIs
  refine ⟨"tuple", id, PySem.F.plainAttrs_tuple, slot, hty, hT, fun b e => by cases e; exact ⟨ob, g1, hd⟩, ?_⟩
  have hA := ha.run cpos pins s1 σ H1 _ I1 q1
  rw [hs] at hA ⊢
  refine Calls.callWith_builtin (by show (false || (backTo cpos (starEach es X.env)).any (·.1)) = false; rw [hplain] <;> rfl) (Calls.evalArgs_plain ?_)
  exact thn hA fun us s2 ⟨vs, H2, I2, r2, q2⟩ => hm pins s2 σ H2 _ vs _ us Q I2 (show RelV (.ref a) (.ref a) from rfl) r2 q2
/-- the place of a flat item -/
def rTIdx (K : PySem.W.Frag) : V → List V → Hp → VK → Prop := fun x xs H Q => ∃ p ys y j z, x = .ref p ∧ xs = [y] ∧ SqT K H p ys ∧ flatV y = true ∧ ys.all flatV = true ∧ ys[j]? = some z ∧ eqV z y = true ∧ (∀ m z', m < j → ys[m]? = some z' → eqV z' y = false) ∧ Q (.int (j : Nat)) H
theorem mt_tidx : MtR X "tuple.index" (rTIdx X.K) := by
  intro pins s σ H x xs v us Q I rx rs h
  obtain ⟨p, ys, y, j, z, rfl, rfl, hq, fy, fys, hz, hzj, hno, q⟩ := h
  cases (show v = Value.ref p from rx)
  obtain ⟨u, rfl, ru⟩ := rs.one
  obtain ⟨its, r, pl, _⟩ := I.tuple hq
  obtain ⟨⟨cls, dd, dt, sl⟩, ho, hc, n, hd⟩ := pl
  simp only at hc hd
  subst hc hd
  have hl : its.toArray.size = ys.length := by rw [List.size_toArray, ← r.length]
  have hj : j < its.toArray.size := by rw [hl]; exact (List.getElem?_eq_some_iff.mp hz).1
  have fl : ∀ v ∈ ys, flatV v = true := List.all_eq_true.mp fys
  have at' : ∀ (m : Nat) (hm : m < its.toArray.size) (z : V), ys[m]? = some z → eqU y its.toArray[m] = eqV z y := fun m hm z e => by
    obtain ⟨w, hw, rw1⟩ := r.get e
    have e2 : its.toArray[m] = w := by
      have := (List.getElem?_eq_some_iff.mp hw).2
      simpa using this
    rw [e2, eqU_of rw1 (fl z (List.mem_of_getElem? e))]
  refine call_meets PySem.F.slot_tuple_index ⟨_, ho, rfl⟩ PySem.F.entry_tuple_index (PySem.F.args_tuple_index_2 _ _) (TI.tuple_indexAt p its.toArray n dd sl u (eqU y) j hj ?_ ?_)
    ⟨ho, fun w hw => mem_eqAt ru fy r fys w (by simpa using hw), ⟨.int (j : Nat), H, I.tok _, ⟨_, rfl⟩, q⟩⟩
  · rw [at' j hj z hz]; exact hzj
  · intro m hm hmj
    obtain ⟨z', hz'⟩ : ∃ z', ys[m]? = some z' := ⟨_, List.getElem?_eq_getElem (by omega)⟩
    rw [at' m hm z' hz']
    exact hno m z' hmj hz'
/-- how often a flat item stands there -/
def rTCnt (K : PySem.W.Frag) : V → List V → Hp → VK → Prop := fun x xs H Q => ∃ p ys y, x = .ref p ∧ xs = [y] ∧ SqT K H p ys ∧ flatV y = true ∧ ys.all flatV = true ∧ Q (.int ((ys.countP fun z => eqV z y : Nat) : Int)) H
theorem cnt_eqU {y : V} : ∀ {ys : List V} {us : List Value}, Vals ys us → (∀ v ∈ ys, flatV v = true) → us.countP (eqU y) = ys.countP fun z => eqV z y
  | _, _, .nil, _ => rfl
  | z :: ys, u :: us, .cons r t, f => by
    rw [List.countP_cons, List.countP_cons, cnt_eqU t fun v hv => f v (List.mem_cons_of_mem _ hv), eqU_of r (f z List.mem_cons_self)]
theorem mt_tcnt : MtR X "tuple.count" (rTCnt X.K) := by
  intro pins s σ H x xs v us Q I rx rs h
  obtain ⟨p, ys, y, rfl, rfl, hq, fy, fys, q⟩ := h
  cases (show v = Value.ref p from rx)
  obtain ⟨u, rfl, ru⟩ := rs.one
  obtain ⟨its, r, pl, _⟩ := I.tuple hq
  obtain ⟨⟨cls, dd, dt, sl⟩, ho, hc, n, hd⟩ := pl
  simp only at hc hd
  subst hc hd
  refine call_meets PySem.F.slot_tuple_count ⟨_, ho, rfl⟩ PySem.F.entry_tuple_count (PySem.F.args_tuple_count_2 _ _) (SeqAt.tuple_countAt p its.toArray n dd sl u (eqU y))
    ⟨ho, fun w hw => mem_eqAt ru fy r fys w (by simpa using hw), ?_⟩
  rw [show its.toArray.toList = its by simp, cnt_eqU r (List.all_eq_true.mp fys)]
  exact ⟨.int _, H, I.tok _, ⟨_, rfl⟩, q⟩
/-- of a list -/
def rLCnt (K : PySem.W.Frag) : V → List V → Hp → VK → Prop := fun x xs H Q => ∃ p ys y, x = .ref p ∧ xs = [y] ∧ SqL K H p ys ∧ flatV y = true ∧ ys.all flatV = true ∧ Q (.int ((ys.countP fun z => eqV z y : Nat) : Int)) H
theorem mt_lcnt : MtR X "list.count" (rLCnt X.K) := by
  intro pins s σ H x xs v us Q I rx rs h
  obtain ⟨p, ys, y, rfl, rfl, hq, fy, fys, q⟩ := h
  cases (show v = Value.ref p from rx)
  obtain ⟨u, rfl, ru⟩ := rs.one
  obtain ⟨its, r, pl, _⟩ := I.list hq
  obtain ⟨⟨cls, dd, dt, sl⟩, ho, hc, n, hd⟩ := pl.isList
  simp only at hc hd
  subst hc hd
  refine call_meets PySem.F.slot_list_count ⟨_, ho, rfl⟩ PySem.F.entry_list_count (PySem.F.args_list_count_2 _ _) (SeqAt.list_countAt p its.toArray n dd sl u (eqU y))
    ⟨ho, fun w hw => mem_eqAt ru fy r fys w (by simpa using hw), ?_⟩
  rw [show its.toArray.toList = its by simp, cnt_eqU r (List.all_eq_true.mp fys)]
  exact ⟨.int _, H, I.tok _, ⟨_, rfl⟩, q⟩
/-- t[lo:hi]: a tuple of these -/
def rSlS (K : PySem.W.Frag) : V → Option Int → Option Int → Hp → VK → Prop := fun x lo hi H Q => ∃ a xs, x = .ref a ∧ SqT K H a xs ∧ ∀ p H', Same H H' → SqT K H' p (cutV xs lo hi) → Q (.ref p) H'
theorem sl_tupS : SlR X (rSlS X.K) := fun pins s σ H x v vl vu lo hi sl Q I rx hs pl pu h =>
  sl_tupA pins s σ H x v vl vu lo hi sl Q I rx hs pl pu (by
    obtain ⟨a, xs, rfl, hx, q⟩ := h
    refine ⟨a, xs, rfl, hx, fun z => q a H (Same.refl _) ?_, fun _ p hp => q p _ (Same.new hp) (SqT.of upd_same)⟩
    have e : cutV xs lo hi = xs := by
      unfold cutV
      rw [z.1, z.2]
      simp
    rw [e]
    exact hx)
/-- t + u: a tuple of these -/
def rCatS (K : PySem.W.Frag) : R2 := fun x y H Q => ∃ a b xs ys, x = .ref a ∧ y = .ref b ∧ SqT K H a xs ∧ SqT K H b ys ∧ xs.length + ys.length ≤ sizeLine ∧ ∀ p H', Same H H' → SqT K H' p (xs ++ ys) → Q (.ref p) H'
theorem op_catS : OpR X (binaryOp .Add) (rCatS X.K) := fun pins s σ H x y v u Q I rx ry h =>
  op_catF pins s σ H x y v u Q I rx ry (by
    obtain ⟨a, b, xs, ys, e1, e2, h1, h2, hz, q⟩ := h
    exact ⟨a, b, xs, ys, e1, e2, h1, h2, hz, fun z => q b H (Same.refl _) (by rw [z]; exact h2), fun _ z => q a H (Same.refl _) (by rw [z, List.append_nil]; exact h1), fun _ _ p H' _ e t => q p H' e t.sq⟩)
/-- .. of which the methods may be called -/
def rCatU (K : PySem.W.Frag) : R2 := fun x y H Q => ∃ a b xs ys, x = .ref a ∧ y = .ref b ∧ SqT K H a xs ∧ SqT K H b ys ∧ xs.length + ys.length ≤ sizeLine ∧ (xs = [] → TupF H b ys) ∧ (xs ≠ [] → ys = [] → TupF H a xs) ∧ ∀ p H', Same H H' → TupF H' p (xs ++ ys) → Q (.ref p) H'
theorem op_catU : OpR X (binaryOp .Add) (rCatU X.K) := fun pins s σ H x y v u Q I rx ry h =>
  op_catF pins s σ H x y v u Q I rx ry (by
    obtain ⟨a, b, xs, ys, e1, e2, h1, h2, hz, t1, t2, q⟩ := h
    exact ⟨a, b, xs, ys, e1, e2, h1, h2, hz, fun z => q b H (Same.refl _) (by have := t1 z; rw [z]; exact this), fun n z => q a H (Same.refl _) (by have := t2 n z; rw [z, List.append_nil]; exact this), fun _ _ p H' _ e t => q p H' e t⟩)
end
end CC

/-! text U1 -/
namespace CC
open PySem PySem.Spec PyProof.Rows L2
/-! ### word, *rest = a tuple -/
section
open PySem.W PySem.Calls
variable {X : Cx} {pins : List (Addr × Obj)} {σ : L2.St} {H : Hp} {s : Shared}
theorem star_run {a : Addr} {x : V} {xs : List V} {E : Value → Shared → Prop} {Q : List Value → Shared → Prop} (hc : X.calm = true) (I : Inv X pins σ H s) (h : SqT X.K H a (x :: xs)) (hz : xs.length ≤ 1000)
    (q : ∀ u D s', RelV x u → H D = none → Inv X pins σ (upd H D (.lst xs)) s' → Q [u, .ref D] s') : wpAny (model X.prog X.w) X.A (unpackItems (.ref a) 2 (some 1)) Q E s := by
  obtain ⟨its, rv, ht, _⟩ := I.tuple h
  obtain ⟨u, us, ru, rs, rfl⟩ : ∃ u us, RelV x u ∧ Vals xs us ∧ its = u :: us := by
    cases rv with
    | cons r t => exact ⟨_, _, r, t, rfl⟩
  have hsz : (u :: us).toArray.size = xs.length + 1 := by simp [rs.length]
  have hne : a ≠ s.heap.objs.size := let ⟨o, ho, _⟩ := ht; Nat.ne_of_lt (Heap.lt_size ho)
  unfold unpackItems
  refine wpAny_bind ?_
  unfold notIterableAtAll
  refine wpAny_bind (wpAny_specialOf ht.typeIs slot_tuple_iter.lookup (wpAny_pure ?_))
  simp only [Bool.false_eq_true, if_false]
  refine wpAny_bind (wpAny_holding (iter_tuple ht ?_))
  refine wpAny_bind (wpAny_holding (draw_tuple hne 1 0 _ _ ⟨_, Heap.get?_push_size _ rfl, rfl, rfl⟩ (ht.push _) (by omega) fun h₁ hi₁ hs₁ => ?_))
  have ht₁ : IsTup h₁ a (u :: us).toArray := (ht.push _).extBut hs₁.extBut hne
  rw [Nat.zero_add] at hi₁
  obtain ⟨oi, hoi, _⟩ := id hi₁
  obtain ⟨ol, hol, _⟩ := id ht₁
  rw [if_neg (show ¬ ((((u :: us).toArray.toList.drop 0).take 1).length < 1) by simp)]
  refine wpAny_bind (wpAny_holding (kun_collect (s := { s with heap := h₁ }) (T := "tuple_iterator") (.inr (.inr (.inr rfl))) (Walks.tuple (A := X.A.in1) (I.ok.hd hc) s.heap.objs.size a hne (u :: us).toArray) (fun j u st => st.1.typeIs) (k := 1) (by omega) ⟨hi₁, ht₁⟩
    (Heap.lt_size hoi) (Heap.lt_size hol) (fun h₂ tk hk => ?_) (by rw [sizeLine_eq]; omega)))
  have e1 : (u :: us).toArray.toList.drop 1 = us := by simp
  rw [e1]
  show wpAny _ _ (if us.length < 2 - 1 - 1 then _ else _) _ _ _
  rw [if_neg (by omega)]
  have I2 : Inv X pins σ H { s with heap := h₂, toks := tk } := I.kept fun b o e => hk b o (Nat.ne_of_lt (Heap.lt_size e)) (hs₁.extBut b o (Nat.ne_of_lt (Heap.lt_size e)) (Heap.get?_push_of_some _ e))
  have e2 : us.take (us.length - (2 - 1 - 1)) = us := by simp
  have e3 : us.drop (us.length - (2 - 1 - 1)) = [] := by simp
  show wpAny _ _ (newList (us.take (us.length - (2 - 1 - 1))) >>= fun d => pure ((((u :: us).toArray.toList.drop 0).take 1) ++ [d] ++ us.drop (us.length - (2 - 1 - 1)))) _ _ _
  rw [e2, e3]
  refine wpAny_bind (wpAny_newList ?_ (by rw [← rs.length, sizeLine_eq]; omega))
  refine wpAny_pure ?_
  have hD : H h₂.objs.size = none := I2.hok.fresh (Nat.le_refl _)
  refine q u h₂.objs.size _ ru hD (I2.laid (t' := tk) (a := h₂.objs.size) (o := .lst xs) (fun b o e => Heap.get?_push_of_some _ e) (Nat.le_refl _) ⟨by rw [sizeLine_eq]; omega, us, 0, rs, Heap.get?_push_size _ rfl⟩)
/-- (a, *b) = .. -/
def gStar (K : PySem.W.Frag) (t : TGs) : TG := fun v σ H Q => ∃ a x xs, v = .ref a ∧ SqT K H a (x :: xs) ∧ xs.length ≤ 1000 ∧ ∀ D H', H D = none → Same H H' → H' D = some (.lst xs) → t [x, .ref D] σ H' Q
theorem pg_star {es : List Expr} {k : Nat} {pos : Pos} {t : TGs} (hc : X.calm = true) (h : PGs X es t) (hn : (assignEach es X.env).length = 2 := by rfl) (hst : (assignEach es X.env).findIdx? (·.1) = some 1 := by rfl) : PG X (.Tuple es k pos) (gStar X.K t) := by
  refine ⟨fun pins s σ H v u Q I r hw => ?_⟩
  obtain ⟨a, x, xs, rfl, hq, hz, hw⟩ := hw
  cases r
  rw [assign_Tuple]
  refine wpAny_bind (wpAny_standAt ?_)
  unfold unpack
  rw [hn, hst]
  exact wpAny_bind (wpAny_holding (star_run hc I hq hz fun u D s' ru hD I' => h.run pins s' σ _ _ _ Q I' (.cons ru (.cons (show RelV (.ref D) (.ref D) from rfl) .nil)) (hw D _ hD (Same.new hD) upd_same)))
/-- the starred name -/
theorem pgs_star {e : Expr} {es : List Expr} {pos : Pos} {t : TG} {u : TGs} (h1 : PG X e t) (h2 : PGs X es u) (hs : (assignEach (.Starred e pos :: es) X.env).map (·.2) = assign e X.env :: (assignEach es X.env).map (·.2) := by rfl) :
    PGs X (.Starred e pos :: es) (gCons t u) := by
  refine ⟨fun pins s σ H vs us Q I r h => ?_⟩
  obtain ⟨v, vr, rfl, h⟩ := h
  cases r with
  | cons r rr =>
    rw [hs]
    exact assignInOrder_cons (thn (h1.run pins s σ H _ _ _ I r h) fun _ s1 ⟨σ1, H1, I1, q1⟩ => h2.run pins s1 σ1 H1 _ _ Q I1 rr q1)
end
end CC

/-! text S1 -/
namespace CC
open PySem PySem.Spec PyProof.Rows L2
/-! ### sorted(xs, key=f), f a def of the text that gives tuples of texts -/
section
variable {X : Cx} {pins : List (Addr × Obj)} {σ : L2.St} {H : Hp} {s : Shared}
/-- an object of ours that nobody tracked is tracked from here on -/
theorem Inv_track {a : Addr} {ob : HO} (I : Inv X pins σ H s) (hf : FpOk X pins H a) (new : ObjOk X.prog X.w (upd H a ob) s.heap a ob) : Inv X pins σ (upd H a ob) s := by
  have hn : H a = none := hf.1
  have ne : ∀ {b : Addr} {u : HO}, H b = some u → b ≠ a := fun e z => by rw [z, hn] at e; cases e
  refine I.step (h' := s.heap) (g' := s.gens) (d' := s.drawn) (t' := s.toks) (ch := [a]) (fun b hb => ?_) (fun _ _ _ _ _ e _ => e) (fun b o _ _ _ e _ => ⟨o.slots, e⟩) (fun b o hc e n => ?_) (fun b o _ e => ⟨o, e⟩) (fun b xs e => ?_) (fun b o u e => ?_) (fun b ps e => ⟨#[], ?_⟩) (fun m hm => hm) (fun b u e => ?_) I.bare
  · obtain rfl : b = a := by simpa using hb
    exact ⟨hf.2.2.2.1, hf.2.1, hf.2.2.2.2.1, hf.2.2.2.2.2⟩
  · rw [upd_ne (fun z => hc (by simp [z]))]; exact n
  · rw [upd_ne (ne e)]; exact e
  · rw [upd_ne (ne e)]; exact e
  · rw [upd_ne (ne e), e]; simp
  · by_cases hb : b = a
    · subst hb
      rw [upd_same] at e
      cases e
      exact new
    · rw [upd_ne hb] at e
      exact (I.hok b u e).stay (fun c v hc q => q) (fun c q => by rw [upd_ne (ne q)]; exact q) fun c xs q => by rw [upd_ne (ne q)]; exact q
end
section
open PySem.W PySem.Calls
variable {X : Cx} {pins : List (Addr × Obj)} {σ : L2.St} {β : Type}
def strsD (zs : List Str) : PyData := .tuple (zs.map .str)
/-- behind f(x): the key -/
def KeyV (K : PySem.W.Frag) (H : Hp) (v : V) (zs : List Str) : Prop := ∃ T, v = .ref T ∧ SqT K H T (zs.map V.str)
theorem KeyV.mono {K : PySem.W.Frag} {H H' : Hp} {v : V} {zs : List Str} (e : Same H H') (h : KeyV K H v zs) : KeyV K H' v zs := by
  obtain ⟨T, rfl, h⟩ := h
  exact ⟨T, rfl, e.tup h⟩
theorem KeyV.dp {K : PySem.W.Frag} {H : Hp} {v : V} {zs : List Str} (h : KeyV K H v zs) : Dp K H v (strsD zs) := by
  obtain ⟨T, rfl, h⟩ := h
  refine .tup h ?_
  induction zs with
  | nil => exact .nil
  | cons z zs ih => exact .cons (.str z) (by
      have : ∀ l : List Str, DpAll K H (l.map V.str) (l.map PyData.str) := fun l => by
        induction l with
        | nil => exact .nil
        | cons z l ih => exact .cons (.str z) ih
      exact this zs)
theorem alike_strs (a b : List Str) : alike (strsD a) (strsD b) = true := by
  unfold strsD
  rw [alike]
  induction a generalizing b with
  | nil => rw [List.map_nil, alikeAll]
  | cons x a ih =>
    cases b with
    | nil => rw [List.map_nil, List.map_cons, alikeAll]
    | cons y b => rw [List.map_cons, List.map_cons, alikeAll, ih b, alike]; rfl
theorem depth_strs (a : List Str) : (strsD a).depth ≤ 1 := by
  unfold strsD
  rw [PyData.depth]
  have : PyData.depthAll (a.map .str) ≤ 0 := by
    induction a with
    | nil => exact Nat.le_refl _
    | cons x a ih => rw [List.map_cons, PyData.depthAll, PyData.depth]; omega
  omega
theorem keyI_rest {A' : Around} {E : Value → Shared → Prop} {P : PySem.Fin → Shared → Prop} {n : Nat} {g : Addr} {sp : SpN} {k : β → List Str} {Src : Hp → V → β → Prop} {xs : List V} {bs : List β} {vs : List Value} {a kS : Addr} {e1 : Nat} {H : Hp} {s : Shared}
    (F : FnN X.prog X.w X.K X.mg X.base n g sp) (hr : Room n A') (hA : A'.units + 64 < cLine) (hE : ∀ pins H s, Inv X pins σ H s → Env0 X.prog X.w X.K X.mg X.base A' X.stack s H) (I : Inv X pins σ H s) (rv : Vals xs vs) (hs : Paired (Src H) xs bs)
    (mono : ∀ H H' x b, Same H H' → Src H x b → Src H' x b) (fk : FpOk X pins H kS) (fa : FpOk X pins H a) (hka : kS ≠ a) (nk : s.heap.get? kS = some (seqObj "list" #[] 0)) (na : s.heap.get? a = some (seqObj "list" #[] e1)) (hZ : vs.length ≤ sizeLine)
    (hk : ∀ b ∈ bs, k b ≠ []) (turn : ∀ H' x b, Same H H' → Src H' x b → b ∈ bs → sp [x] H' fun v H2 => Same H' H2 ∧ KeyV X.K H2 v (k b))
    (h : ∀ H' h' tk gs d out c, Same H H' → H' a = none → Inv X pins σ H' { s with heap := h', toks := tk, gens := gs, drawn := d } → FpOk X pins H' a → h'.get? a = some (seqObj "list" (List.toArray out) c) → KeyedOut false (bs.map fun b => strsD (k b)) vs out →
      P (.done (.ret .none)) { s with heap := h', toks := tk, gens := gs, drawn := d }) :
    wpAny (model X.prog X.w) A' (ksk_rest a (.ref g) false vs.toArray e1 (.ref kS)) P E s := by
  have hlen : bs.length = vs.length := by rw [← Paired.len hs, rv.length]
  unfold ksk_rest
  refine wpAny_bind (wpAny_rule ?_)
  first
    | rw [List.forIn_toArray]
    | (rw [← Array.forIn_toList]; simp only [List.toList_toArray])
  refine wpAny_bind (ksk_fold (fun i s' => ∃ Hi h' tk gs d kA e, s' = { s with heap := h', toks := tk, gens := gs, drawn := d } ∧ Inv X pins σ Hi s' ∧ Same H Hi ∧ FpOk X pins Hi kS ∧ FpOk X pins Hi a ∧ h'.get? kS = some (seqObj "list" kA e) ∧ h'.get? a = some (seqObj "list" #[] e1) ∧
      ∃ ks : List V, Vals ks kA.toList ∧ Paired (KeyV X.K Hi) ks ((bs.take i).map k)) vs 0 s
    ⟨H, s.heap, s.toks, s.gens, s.drawn, #[], 0, rfl, I, Same.refl _, fk, fa, nk, na, [], .nil, by rw [List.take_zero]; exact .nil⟩ ?step ?done)
  case step =>
    intro j x s' hx hJ
    simp only [Nat.zero_add] at hJ ⊢
    obtain ⟨Hi, h', tk, gs, d, kA, e, rfl, Ii, ei, fki, fai, nki, nai, ks, rk, pk⟩ := hJ
    have hj : j < vs.length := (List.getElem?_eq_some_iff.mp hx).1
    obtain ⟨b, hb⟩ : ∃ b, bs[j]? = some b := ⟨_, List.getElem?_eq_getElem (by omega)⟩
    obtain ⟨xv, hxv, hsb⟩ := Paired.get hs hb
    have rx : RelV xv x := by
      obtain ⟨u, hu, ru⟩ := rv.get hxv
      rw [hx] at hu
      cases hu
      exact ru
    have hz : kA.size ≤ vs.length := by
      have h1 := rk.length
      have h2 := Paired.len pk
      rw [List.length_map, List.length_take] at h2
      rw [← Array.length_toList, ← h1]
      omega
    have fl : ∀ c ∈ [kS, a], FpOk X pins Hi c := fun c hc => by
      rcases List.mem_cons.mp hc with z | z
      · rw [z]; exact fki
      · rw [List.mem_singleton.mp z]; exact fai
    have ol : ∀ c ∈ [kS, a], ∃ o, h'.get? c = some o ∧ ∀ v, o.data ≠ .cell v := fun c hc => by
      rcases List.mem_cons.mp hc with z | z
      · rw [z]; exact ⟨_, nki, fun v q => by cases q⟩
      · rw [List.mem_singleton.mp z]; exact ⟨_, nai, fun v q => by cases q⟩
    have Ip := Ii.pinned fl ol
    refine wpAny_bind (wpAny_attempt (wpAny_call (codeAny_mono (F A' X.stack _ Hi [x] [xv] (fun v H2 => Same Hi H2 ∧ KeyV X.K H2 v (k b)) E0 hr (hE _ _ _ Ip) (.cons rx .nil) (turn Hi xv b ei (mono _ _ _ _ ei hsb) (List.mem_of_getElem? hb))) fun r s2 hq => ?_)))
    cases r with
    | error e => exact hq.elim
    | ok fl2 =>
      cases fl2 with
      | next => exact False.elim hq
      | brk => exact False.elim hq
      | cont => exact False.elim hq
      | ret u =>
        obtain ⟨v, H2, I2, ru, e2, kv⟩ := Ip.after hq
        obtain ⟨h2, gs2, d2, tk2, os2⟩ := s2
        obtain rfl : os2 = s.os := I2.os.trans Ip.os.symm
        have p1 := I2.pin (kS, seqObj "list" kA e) (List.mem_append_right _ (List.mem_append_right _ (mem_pinsAt (by simp) nki)))
        have p2 := I2.pin (a, seqObj "list" #[] e1) (List.mem_append_right _ (List.mem_append_right _ (mem_pinsAt (by simp) nai)))
        have I3 := I2.unpinned
        have s1 := Heap.SameBut.update h2 kS (Obj.mapSeq (·.push u))
        obtain ⟨c2, hc2⟩ : ∃ c2, (h2.update kS (Obj.mapSeq (·.push u))).get? kS = some (seqObj "list" (kA.push u) c2) := ⟨_, get?_update_seq p1.1 (·.push u)⟩
        have fk2 : FpOk X pins H2 kS := ⟨p1.2.1, fki.2⟩
        have fa2 : FpOk X pins H2 a := ⟨p2.2.1, fai.2⟩
        dsimp only
        refine wpAny_bind (listUpdate_at p1.1 rfl ?_ (Nat.le_trans hz hZ) (Nat.le_trans (Nat.le_of_eq (Array.size_push ..)) (Nat.succ_le_succ (Nat.le_trans hz hZ))))
        refine wpAny_pure ⟨rfl, H2, _, _, _, _, kA.push u, c2, rfl, I3.turnedL (t' := tk2) (ch := [kS]) (fun b o hb q => (s1.2 b (fun z => hb (by simp [z]))).trans q) (fun c hc => by rw [List.mem_singleton.mp hc]; exact fk2), ei.trans e2, fk2, fa2, hc2, (s1.2 a hka.symm).trans p2.1, ks ++ [v], ?_, ?_⟩
        · rw [show (kA.push u).toList = kA.toList ++ [u] by simp]
          exact rk.append (.cons ru .nil)
        · rw [take_succ_get hb, List.map_append]
          exact Paired.snoc (Paired.imp (fun _ _ q => q.mono e2) pk) kv
  case done =>
    intro s' hJ
    obtain ⟨Hi, h', tk, gs, d, kA, e, rfl, Ii, ei, fki, fai, nki, nai, ks, rk, pk⟩ := hJ
    have e3 : bs.take (0 + vs.length) = bs := List.take_of_length_le (by omega)
    rw [e3] at pk
    have hsz : kA.size = vs.length := by
      have h1 := rk.length
      have h2 := Paired.len pk
      rw [List.length_map] at h2
      rw [← Array.length_toList, ← h1]
      omega
    have hk' : EachIs (fun v d => ∃ as, Reads h' v d as) kA.toList (bs.map fun b => strsD (k b)) := by
      have : ∀ {ks : List V} {us : List Value} {zs : List (List Str)}, Vals ks us → Paired (KeyV X.K Hi) ks zs → EachIs (fun v d => ∃ as, Reads h' v d as) us (zs.map strsD) := fun {ks us zs} r p => by
        induction p generalizing us with
        | nil => cases r; exact .nil
        | cons q t ih =>
          cases r with
          | cons r1 r2 => exact .cons (Dp.reads Ii _ _ _ q.dp r1) (ih r2)
      have z := this rk pk
      rw [List.map_map] at z
      exact z
    refine wpAny_bind (listItems_at nki rfl ?_)
    have hal : AllAlike (bs.map fun b => strsD (k b)) := fun d1 h1 d2 h2 => by
      obtain ⟨b1, _, rfl⟩ := List.mem_map.mp h1
      obtain ⟨b2, _, rfl⟩ := List.mem_map.mp h2
      exact alike_strs _ _
    have hsk : Sortable (bs.map fun b => strsD (k b)) := .inl fun d1 h1 => by
      obtain ⟨b1, hb1, rfl⟩ := List.mem_map.mp h1
      unfold strsD
      cases q : k b1 with
      | nil => exact absurd q (hk b1 hb1)
      | cons z zs => exact ⟨_, _, rfl⟩
    have hu : ∀ d1, d1 ∈ (bs.map fun b => strsD (k b)) → A'.units + d1.depth < cLine := fun d1 h1 => by
      obtain ⟨b1, _, rfl⟩ := List.mem_map.mp h1
      have := depth_strs (k b1)
      omega
    have f1 : (h'.update kS fun o => { o with data := .freed }).get? kS = none := by
      unfold Heap.get?
      rw [Heap.objs_update_self]
      cases h'.objs[kS]? <;> rfl
    have kp : KeepsBut a (h'.update kS fun o => { o with data := .freed }) h' := fun b o hb q => by
      by_cases z : b = kS
      · rw [z, f1] at q; cases q
      · rw [Heap.get?_update_other _ _ (Ne.symm z)] at q; exact q
    refine keyH_end (κ := dataKind h' (bs.map fun b => strsD (k b))) (s := { s with heap := h', toks := tk, gens := gs, drawn := d }) kp f1 nki nai hka (SortsAt.data (s := { s with heap := h', toks := tk, gens := gs, drawn := d }) hk' hal hsk hu) hsz hZ fun h3 tk3 c k3 n3 => ?_
    refine h Hi h3 tk3 gs d _ c ei fai.1 (Ii.turnedL (t' := tk3) (ch := [kS, a]) (fun b o hb q => ?_) fun c hc => ?_) fai n3 ⟨h', kA.toList, hal, rfl, hk'⟩
    · have h1 : b ≠ kS := fun z => hb (by simp [z])
      exact k3 b o (fun z => hb (by simp [z])) (by rw [Heap.get?_update_other _ _ (Ne.symm h1)]; exact q)
    · rcases List.mem_cons.mp hc with z | z
      · rw [z]; exact fki
      · rw [List.mem_singleton.mp z]; exact fai
theorem keyI_tree {A' : Around} {E : Value → Shared → Prop} {P : PySem.Fin → Shared → Prop} {n : Nat} {g : Addr} {sp : SpN} {k : β → List Str} {Src : Hp → V → β → Prop} {xs : List V} {bs : List β} {vs : List Value} {a m : Addr} {H : Hp} {s : Shared}
    (F : FnN X.prog X.w X.K X.mg X.base n g sp) (hr : Room n A') (hA : A'.units + 64 < cLine) (hE : ∀ pins H s, Inv X pins σ H s → Env0 X.prog X.w X.K X.mg X.base A' X.stack s H) (I : Inv X pins σ H s) (rv : Vals xs vs) (hs : Paired (Src H) xs bs)
    (mono : ∀ H H' x b, Same H H' → Src H x b → Src H' x b) (fa : FpOk X pins H a) (ho : s.heap.get? a = some (seqObj "list" vs.toArray m)) (hZ : vs.length ≤ sizeLine)
    (hk : ∀ b ∈ bs, k b ≠ []) (turn : ∀ H' x b, Same H H' → Src H' x b → b ∈ bs → sp [x] H' fun v H2 => Same H' H2 ∧ KeyV X.K H2 v (k b))
    (h : ∀ H' h' tk gs d out c, Same H H' → H' a = none → Inv X pins σ H' { s with heap := h', toks := tk, gens := gs, drawn := d } → FpOk X pins H' a → h'.get? a = some (seqObj "list" (List.toArray out) c) → KeyedOut false (bs.map fun b => strsD (k b)) vs out →
      P (.done (.ret .none)) { s with heap := h', toks := tk, gens := gs, drawn := d }) :
    wpAny (model X.prog X.w) A' (ksk_tree a (.ref g) false) P E s := by
  obtain ⟨e1, ho1⟩ : ∃ e1, (s.heap.update a (Obj.mapSeq fun _ => (#[] : Array Value))).get? a = some (seqObj "list" #[] e1) := ⟨_, get?_update_seq ho fun _ => #[]⟩
  have s1 := Heap.SameBut.update s.heap a (Obj.mapSeq fun _ => (#[] : Array Value))
  have hal : a < s.heap.objs.size := Heap.lt_size ho
  have hsz : ((s.heap.update a (Obj.mapSeq fun _ => (#[] : Array Value))).push (seqObj "tuple" vs.toArray 0)).objs.size = s.heap.objs.size + 1 := by rw [size_push', Heap.size_update]
  unfold ksk_tree
  refine wpAny_bind (listItems_at ho rfl ?_)
  refine wpAny_bind (listUpdate_at ho rfl ?_ (by rw [List.size_toArray]; exact hZ) (Nat.zero_le _))
  refine wpAny_bind (seqEpoch_at ho1 rfl ?_)
  refine wpAny_bind (wpAny_newTuple ?_ (by show vs.length ≤ _; exact hZ))
  refine wpAny_bind (wpAny_newList ?_ (Nat.zero_le _))
  refine wpAny_holding ?_
  have I1 : Inv X pins σ H { s with heap := ((s.heap.update a (Obj.mapSeq fun _ => (#[] : Array Value))).push (seqObj "tuple" vs.toArray 0)).push (seqObj "list" #[] 0) } :=
    I.turnedL (t' := s.toks) (ch := [a]) (fun b o hb q => Heap.get?_push_of_some _ (Heap.get?_push_of_some _ ((s1.2 b fun z => hb (by simp [z])).trans q))) fun c hc => by rw [List.mem_singleton.mp hc]; exact fa
  have hle : s.heap.objs.size ≤ s.heap.objs.size + 1 := Nat.le_succ _
  refine keyI_rest (k := k) (Src := Src) (bs := bs) (kS := ((s.heap.update a (Obj.mapSeq fun _ => (#[] : Array Value))).push (seqObj "tuple" vs.toArray 0)).objs.size) F hr hA hE I1 rv hs mono ?_ fa ?_ (Heap.get?_push_size _ rfl)
    (Heap.get?_push_of_some _ (Heap.get?_push_of_some _ ho1)) hZ hk turn h
  · rw [hsz]
    exact I.fpOk hle (I.hok.fresh hle)
  · rw [hsz]
    exact Nat.ne_of_gt (Nat.lt_succ_of_lt hal)
/-- sorted(xs, key=f): R v b is kept of each item -/
theorem sortedI_run {n : Nat} {g : Addr} {sp : SpN} {k : β → List Str} {Src : Hp → V → β → Prop} {xs : List V} {bs : List β} {l : Addr} {H : Hp} {s : Shared} {Q : VK} (F : FnN X.prog X.w X.K X.mg X.base n g sp) (hr : Room (n + 2) X.A) (I : Inv X pins σ H s) (hl : SqL X.K H l xs) (hs : Paired (Src H) xs bs)
    (mono : ∀ H H' x b, Same H H' → Src H x b → Src H' x b)
    (hk : ∀ b ∈ bs, k b ≠ []) (turn : ∀ H' x b, Same H H' → Src H' x b → b ∈ bs → sp [x] H' fun v H2 => Same H' H2 ∧ KeyV X.K H2 v (k b))
    (q : ∀ H' p ys, Same H H' → H' p = some (.lst ys) → H p = none → Paired (Src H') ys (bs.mergeSort (dataLe false fun b => strsD (k b))) → Q (.ref p) H') :
    wpAny (model X.prog X.w) X.A (call (.builtin "sorted") [.ref l] [(Str.ofString "key", .ref g)]) (EP X pins σ Q) X.xe s := by
  obtain ⟨vs, rv, pl, hz⟩ := I.list hl
  have hl2 : s.heap.IsList l vs.toArray := pl.isList
  have hZ : vs.length ≤ sizeLine := by rw [← rv.length]; exact hz
  have hr2 : Room n X.A.in1.in1 := (show Room (n + 1) X.A.in1 from hr.in1).in1
  refine sorted_of_sort hl2 hZ (ksk_s1 _ _) (fun _ => ksk_l1 _ _) fun E' => ?_
  rw [ksk_t1]
  have le1 : s.heap.objs.size ≤ s.heap.objs.size + 1 := Nat.le_succ _
  have I1 : Inv X pins σ H { s with heap := copyHeap s.heap vs } := I.kept (t' := s.toks) fun b o e => copyHeap_old e
  refine keyI_tree (k := k) (Src := Src) (bs := bs) (s := { s with heap := copyHeap s.heap vs }) F hr2 hr2.units (fun pins H s I => I.env0.in1.in1) I1 rv hs mono (I.fpOk le1 (I.hok.fresh le1)) (copyHeap_at s.heap vs) hZ hk turn fun H' h' tk gs d out c e' na I' fa' ho ko => ⟨rfl, ?_⟩
  have hR : EachIs (fun v b => ∃ x, RelV x v ∧ Src H x b) vs bs := by
    have : ∀ {xs : List V} {us : List Value} {bs : List β}, Vals xs us → Paired (Src H) xs bs → EachIs (fun v b => ∃ x, RelV x v ∧ Src H x b) us bs := fun {xs us bs} r p => by
      induction p generalizing us with
      | nil => cases r; exact .nil
      | cons q t ih =>
        cases r with
        | cons r1 r2 => exact .cons ⟨_, r1, q⟩ (ih r2)
    exact this rv hs
  have hO := keyedOut_each (fun b => strsD (k b)) ko hR
  obtain ⟨ys, ry, py⟩ : ∃ ys, Vals ys out ∧ Paired (Src H) ys (bs.mergeSort (dataLe false fun b => strsD (k b))) := by
    have : ∀ {us : List Value} {bs : List β}, EachIs (fun v b => ∃ x, RelV x v ∧ Src H x b) us bs → ∃ ys, Vals ys us ∧ Paired (Src H) ys bs := fun {us bs} e => by
      induction e with
      | nil => exact ⟨[], .nil, .nil⟩
      | cons q t ih =>
        obtain ⟨x, r, sx⟩ := q
        obtain ⟨ys, r2, p2⟩ := ih
        exact ⟨x :: ys, .cons r r2, .cons sx p2⟩
    exact this hO
  have ly : ys.length ≤ sizeLine := by
    rw [Paired.len py, List.length_mergeSort, ← Paired.len hs]
    exact hz
  have na2 : H' (s.heap.objs.size + 1) = none := na
  have I2 := Inv_track (ob := .lst ys) I' fa' ⟨ly, out, c, ry, ho⟩
  have e2 : Same H (upd H' (s.heap.objs.size + 1) (.lst ys)) := e'.trans (Same.new na2)
  exact ⟨.ref _, _, I2, rfl, q _ _ ys e2 upd_same (I.hok.fresh le1) (Paired.imp (fun _ _ h => mono _ _ _ _ e2 h) py)⟩
end
end CC

/-! text N1 -/
namespace CC
open PySem PySem.Spec PyProof.Rows L2
/-! ### dicts whose keys are layouts (tuples of texts and None) -/
def oL : Option Str → Leaf
  | none => .none
  | some z => .text z
theorem oL_inj : ∀ {a b : Option Str}, oL a = oL b → a = b
  | none, none, _ => rfl
  | some x, some y, h => by cases h; rfl
theorem mapL_inj : ∀ {a b : Lay}, a.map oL = b.map oL → a = b
  | [], [], _ => rfl
  | x :: a, y :: b, h => by
    rw [List.map_cons, List.map_cons] at h
    injection h with h1 h2
    rw [oL_inj h1, mapL_inj h2]
abbrev KN (P : Program) (w : World) : HeapKind P w (List Leaf) := tupleKind (leafKind P w)
/-- the entries' keys and key objects -/
abbrev NKeys := List (Lay × Addr)
def NdP (P : Program) (w : World) (R : V → Prop) (d : Addr) (xs : NKeys) (h : Heap) : Prop :=
  (d == sysModules) = false ∧ xs.length ≤ sizeLine ∧ (xs.map (·.1)).Nodup ∧ ∃ o es ep, ∃ zs : List (List Leaf × Addr × Value), h.get? d = some o ∧ o.ExactDict ∧ o.data = .dict es ep ∧ es.toList = zs.map (entryOfKey (KN P w)) ∧
    zs.map (fun z => (z.1, z.2.1)) = xs.map (fun x => (x.1.map oL, x.2)) ∧ ∀ z ∈ zs, ∃ v, RelV v z.2.2 ∧ R v
def NDo (P : Program) (w : World) (R : V → Prop) (d : Addr) (xs : NKeys) : HO := .ext (NdP P w R d xs)
def KeysV (H : Hp) (xs : NKeys) : Prop := ∀ x ∈ xs, TupF H x.2 (x.1.map oV)
theorem KeysV.mono {H H' : Hp} {xs : NKeys} (e : SameN H H') (h : KeysV H xs) : KeysV H' xs := fun x hx => (h x hx).mono e
/-- at d; frozen or not -/
def NAt (P : Program) (w : World) (H : Hp) (R : V → Prop) (d : Addr) (xs : NKeys) : Prop := H d = some (NDo P w R d xs) ∨ ∃ o, H d = some (.frz o (NDo P w R d xs))
section
variable {X : Cx} {pins : List (Addr × Obj)} {σ : L2.St} {H : Hp} {s : Shared} {R : V → Prop} {d a : Addr} {xs : NKeys} {l : Lay}
theorem items_of : ∀ {l : Lay} {us : List Value}, Vals (l.map oV) us → ItemsAre (leafKind X.prog X.w) (l.map oL) us
  | [], _, .nil => .nil
  | o :: l, _, .cons r t => .cons (by
      cases o with
      | none => cases (show _ = Value.none from r); rfl
      | some z =>
        obtain ⟨tk, e⟩ := r
        subst e
        show Value.isStrOf z (.str z tk) = true
        exact decide_eq_true rfl) (items_of t)
theorem key_is (I : Inv X pins σ H s) (h : SqT X.K H a (l.map oV)) : (KN X.prog X.w).is s.heap (l.map oL) a := by
  obtain ⟨its, rv, p, _⟩ := I.tuple h
  obtain ⟨o, ho, hc, n, hd⟩ := (show s.heap.IsTuple a its.toArray from p)
  exact ⟨o, its.toArray, n, ho, hc, hd, by simpa using items_of rv⟩
theorem nd_p (I : Inv X pins σ H s) (h : NAt X.prog X.w H R d xs) : NdP X.prog X.w R d xs s.heap := by
  rcases h with h | ⟨o, h⟩
  · exact (I.hok d _ h).1
  · exact (I.hok d _ h).2.1
theorem nd_open (I : Inv X pins σ H s) (h : NAt X.prog X.w H R d xs) (k : KeysV H xs) :
    (d == sysModules) = false ∧ ∃ zs : List (List Leaf × Addr × Value), s.heap.DictOfH (KN X.prog X.w) d zs ∧ zs.map (fun z => (z.1, z.2.1)) = xs.map (fun x => (x.1.map oL, x.2)) ∧ ∀ z ∈ zs, ∃ v, RelV v z.2.2 ∧ R v := by
  obtain ⟨h1, h2, h3, o, es, ep, zs, g1, g2, g3, g4, g5, g6⟩ := nd_p I h
  refine ⟨h1, zs, ⟨o, es, ep, g1, g2, g3, g4, fun z hz => ?_, ?_⟩, g5, g6⟩
  · have : (z.1, z.2.1) ∈ xs.map (fun x => (x.1.map oL, x.2)) := g5 ▸ List.mem_map.mpr ⟨z, hz, rfl⟩
    obtain ⟨x, hx, e⟩ := List.mem_map.mp this
    injection e with e1 e2
    rw [← e1, ← e2]
    exact key_is I (k x hx).sq
  · have e : zs.map (·.1) = (xs.map (·.1)).map (List.map oL) := by
      have := congrArg (List.map (fun p : List Leaf × Addr => p.1)) g5
      rw [List.map_map, List.map_map] at this
      rw [List.map_map]
      exact this
    rw [e]
    exact List.Pairwise.map _ (fun a b hab z => hab (mapL_inj z)) h3
theorem at_key {zs : List (List Leaf × Addr × Value)} {xs : NKeys} (g : zs.map (fun z => (z.1, z.2.1)) = xs.map (fun x => (x.1.map oL, x.2))) (l : Lay) : (atKey zs (l.map oL)).isSome = decide (l ∈ xs.map (·.1)) := by
  unfold atKey
  rw [Option.isSome_map]
  by_cases h : l ∈ xs.map (·.1)
  · rw [decide_eq_true h]
    obtain ⟨x, hx, e⟩ := List.mem_map.mp h
    have : (x.1.map oL, x.2) ∈ zs.map (fun z => (z.1, z.2.1)) := g ▸ List.mem_map.mpr ⟨x, hx, rfl⟩
    obtain ⟨z, hz, ez⟩ := List.mem_map.mp this
    injection ez with e1 e2
    rw [List.find?_isSome]
    exact ⟨z, hz, by rw [e1, e]; exact decide_eq_true rfl⟩
  · rw [decide_eq_false h, Option.isSome_eq_false_iff, Option.isNone_iff_eq_none, List.find?_eq_none]
    intro z hz q
    have hq := of_decide_eq_true q
    have : (z.1, z.2.1) ∈ xs.map (fun x => (x.1.map oL, x.2)) := g ▸ List.mem_map.mpr ⟨z, hz, rfl⟩
    obtain ⟨x, hx, e⟩ := List.mem_map.mp this
    injection e with e1 e2
    exact h (List.mem_map.mpr ⟨x, hx, mapL_inj (e1.trans hq)⟩)
theorem at_val {zs : List (List Leaf × Addr × Value)} {k : List Leaf} {p : Addr × Value} (h : atKey zs k = some p) : ∃ z ∈ zs, z.2 = p := by
  unfold atKey at h
  obtain ⟨z, h1, h2⟩ := Option.map_eq_some_iff.mp h
  exact ⟨z, List.mem_of_find?_eq_some h1, h2⟩
/-- d[l] = v -/
def putN (xs : NKeys) (l : Lay) (a : Addr) : NKeys := if l ∈ xs.map (·.1) then xs else xs ++ [(l, a)]
theorem putN_keys (xs : NKeys) (l : Lay) (a : Addr) : (putN xs l a).map (·.1) = if l ∈ xs.map (·.1) then xs.map (·.1) else xs.map (·.1) ++ [l] := by
  unfold putN
  split
  · rfl
  · rw [List.map_append]; rfl
theorem nd_store {zs : List (List Leaf × Addr × Value)} {u : Value} {v : V} (g5 : zs.map (fun z => (z.1, z.2.1)) = xs.map (fun x => (x.1.map oL, x.2))) (g6 : ∀ z ∈ zs, ∃ v, RelV v z.2.2 ∧ R v) (rv : RelV v u) (hv : R v) (l : Lay) (a : Addr) :
    (storedH zs (l.map oL) a u).map (fun z => (z.1, z.2.1)) = (putN xs l a).map (fun x => (x.1.map oL, x.2)) ∧ ∀ z ∈ storedH zs (l.map oL) a u, ∃ v, RelV v z.2.2 ∧ R v := by
  have hk := at_key g5 l
  unfold storedH putN
  by_cases h : l ∈ xs.map (·.1)
  · rw [decide_eq_true h] at hk
    rw [if_pos hk, if_pos h]
    refine ⟨?_, fun z hz => ?_⟩
    · rw [← g5, List.map_map]
      refine List.map_congr_left fun z _ => ?_
      show ((putAt (l.map oL) u z).1, (putAt (l.map oL) u z).2.1) = _
      unfold putAt
      split <;> rfl
    · obtain ⟨y, hy, rfl⟩ := List.mem_map.mp hz
      unfold putAt
      split
      · exact ⟨v, rv, hv⟩
      · exact g6 y hy
  · rw [decide_eq_false h] at hk
    rw [if_neg (by rw [hk]; exact Bool.false_ne_true), if_neg h, List.map_append, List.map_append, g5]
    refine ⟨rfl, fun z hz => ?_⟩
    rcases List.mem_append.mp hz with hz | hz
    · exact g6 z hz
    · rw [List.mem_singleton.mp hz]
      exact ⟨v, rv, hv⟩
theorem putN_nodup (h : (xs.map (·.1)).Nodup) (l : Lay) (a : Addr) : ((putN xs l a).map (·.1)).Nodup := by
  rw [putN_keys]
  split
  · exact h
  · rename_i hl
    exact List.nodup_append.mpr ⟨h, by simp, fun x hx y hy z => by rw [List.mem_singleton.mp hy] at z; exact hl (z ▸ hx)⟩
theorem nd_new {h' : Heap} {zs : List (List Leaf × Addr × Value)} (h1 : (d == sysModules) = false) (h2 : xs.length ≤ sizeLine) (h3 : (xs.map (·.1)).Nodup) (hm : h'.DictOfH (KN X.prog X.w) d zs) (g5 : zs.map (fun z => (z.1, z.2.1)) = xs.map (fun x => (x.1.map oL, x.2))) (g6 : ∀ z ∈ zs, ∃ v, RelV v z.2.2 ∧ R v) :
    ObjOk X.prog X.w (upd H d (NDo X.prog X.w R d xs)) h' d (NDo X.prog X.w R d xs) := by
  obtain ⟨o, es, ep, e1, e2, e3, e4, _⟩ := hm
  exact ⟨⟨h1, h2, h3, o, es, ep, zs, e1, e2, e3, e4, g5, g6⟩, ⟨o, e1⟩, fun ha hb ⟨q1, q2, q3, o, es, ep, zs, w1, w⟩ st => ⟨q1, q2, q3, o, es, ep, zs, st _ w1, w⟩⟩
theorem hu1 {A : Around} {k : Nat} (hr : Room k A) : (KN X.prog X.w).room A.in1 := by
  show A.units + 1 < cLine
  exact Nat.lt_of_le_of_lt (Nat.add_le_add_left (by decide : 1 ≤ 64) _) hr.units
def rSetN (P : Program) (w : World) : TSet := fun o i v H Q => ∃ (R : V → Prop) (d a : Addr) (xs : NKeys) (l : Lay), o = .ref d ∧ i = .ref a ∧ H d = some (NDo P w R d xs) ∧ KeysV H xs ∧ TupF H a (l.map oV) ∧ R v ∧ xs.length < sizeLine ∧ ∀ H', (∀ b o, b ≠ d → H b = some o → H' b = some o) → H' d = some (NDo P w R d (putN xs l a)) → Q H'
theorem set_N {j : Nat} (hr : Room j X.A) : PSet X (rSetN X.prog X.w) := by
  intro pins s σ H o i v ov iv u Q I ro ri rv h
  obtain ⟨R, d, a, xs, l, rfl, rfl, hd, hk, ha, hv, hz, q⟩ := h
  cases (show ov = Value.ref d from ro)
  cases (show iv = Value.ref a from ri)
  obtain ⟨h1, zs, hm, g5, g6⟩ := nd_open I (.inl hd) hk
  obtain ⟨h1', h2, h3, _⟩ := nd_p I (.inl hd)
  have hl : zs.length = xs.length := by
    have := congrArg List.length g5
    rw [List.length_map, List.length_map] at this
    exact this
  refine wpAny_setItem_heap (knd := KN X.prog X.w) (hu1 hr) (key_is I ha.sq) hm (fun h' hm' sb => ?_) (by omega)
  obtain ⟨g7, g8⟩ := nd_store g5 g6 rv hv l a
  refine ⟨_, I.write (x := d) (e := d) (t' := s.toks + _) (by rw [hd]; exact True.intro) (.inl rfl) (fun b u hb e => (sb.2 b hb).trans e) (let ⟨o, _, _, e, _⟩ := hm'; ⟨o, e⟩) (nd_new h1 ?_ (putN_nodup h3 l a) hm' g7 g8), q _ (fun b o nb e => by rw [upd_ne nb]; exact e) upd_same⟩
  unfold putN
  split
  · exact h2
  · rw [List.length_append, List.length_singleton]; omega
theorem low_new (I : Inv X pins σ H s) : (s.heap.objs.size == sysModules) = false := beq_eq_false_iff_ne.mpr (Ne.symm (Nat.ne_of_lt I.big))
theorem nd_type (I : Inv X pins σ H s) (h : NAt X.prog X.w H R d xs) : s.TypeIs (.ref d) "dict" ∧ (∀ b, Value.ref d = .ref b → ∃ ob, s.heap.get? b = some ob ∧ ob.dict = none) := by
  obtain ⟨_, _, _, o, es, ep, zs, g1, g2, _⟩ := nd_p I h
  exact ⟨⟨o, g1, g2.1⟩, fun b e => by cases e; exact ⟨o, g1, g2.2.1⟩⟩
/-- {} -/
def tDNewN (P : Program) (w : World) : TE := fun _ H Q => ∃ R, ∀ p H', H p = none → Same H H' → H' p = some (NDo P w R p []) → Q (.ref p) H'
theorem pe_dnewN {pos : Pos} : PE X (.Dict [] [] pos) (tDNewN X.prog X.w) := ⟨fun pins s σ H Q I h => by
  obtain ⟨R, h⟩ := h
  refine wpAny_Dict_empty ⟨.ref s.heap.objs.size, _, I.laid (a := s.heap.objs.size) (o := NDo X.prog X.w R s.heap.objs.size []) (t' := s.toks) (fun _ _ q => Heap.get?_push_of_some _ q) (Nat.le_refl _) ?_, rfl, h _ _ (I.hok.fresh (Nat.le_refl _)) (Same.new (I.hok.fresh (Nat.le_refl _))) upd_same⟩
  exact nd_new (zs := []) (low_new I) (Nat.zero_le _) List.nodup_nil ⟨_, #[], 0, Heap.get?_push_size _ rfl, ⟨rfl, rfl, rfl⟩, rfl, rfl, (fun _ h => nomatch h), List.nodup_nil⟩ rfl (fun _ h => nomatch h)⟩
/-- d.get(k, x) -/
def tNGet (P : Program) (w : World) (td ty tx : TE) : TE := fun σ H Q => td σ H fun x H1 => ∃ d R xs, x = .ref d ∧ NAt P w H1 R d xs ∧ ty σ H1 fun y H2 => tx σ H2 fun z H3 => ∃ (a : Addr) (l : Lay), y = .ref a ∧ NAt P w H3 R d xs ∧ KeysV H3 xs ∧ TupF H3 a (l.map oV) ∧ R z ∧ ∀ v, R v → Q v H3
theorem pe_ngetOr {j : Nat} {o e f : Expr} {apos cpos : Pos} {td ty tx : TE} (hr : Room j X.A) (ho : PE X o td) (he : PE X e ty) (hf : PE X f tx) (m : M2 X o "get" apos e f cpos := by exact ⟨rfl, rfl, rfl, rfl⟩) :
    PE X (.Call (.Attribute o "get" apos) [e, f] [] cpos) (tNGet X.prog X.w td ty tx) := by
  refine ⟨fun pins s σ H Q I h => ?_⟩
  refine wpAny_Call_method m.base m.few m.line PySem.F.plainAttrs_dict PySem.F.slot_dict_get PySem.F.type_dict_get (thn (ho.run pins s σ H _ I h) fun u s1 ⟨x, H1, I1, rx, d, R, xs, ex, hd, q1⟩ => ?_)
  subst ex
  obtain rfl : u = Value.ref d := rx
  obtain ⟨t1, t2⟩ := nd_type I1 hd
  refine ⟨t1, t2, ?_⟩
  rw [m.trees]
  refine Calls.callWith_builtin rfl (Calls.evalArgs_plain (Calls.spliced_cons (thn (he.run pins s1 σ H1 _ I1 q1) fun iv s2 ⟨y, H2, I2, ry, q2⟩ =>
    Calls.spliced_cons (thn (hf.run pins s2 σ H2 _ I2 q2) fun fv s3 ⟨z, H3, I3, rz, a, l, ey, hd3, hk, ha, hz, q3⟩ => Calls.spliced_nil ?_))))
  subst ey
  cases (show iv = Value.ref a from ry)
  obtain ⟨h1, zs, hm, g5, g6⟩ := nd_open I3 hd3 hk
  refine getOr_keyed (knd := KN X.prog X.w) (k := l.map oL) (hu1 hr) (key_is I3 ha.sq) h1 ⟨zs, hm, rfl⟩ ?_
  rw [valueAt_pairsH]
  cases q : atKey zs (l.map oL) with
  | none => exact ⟨z, H3, I3.tok _, rz, q3 z hz⟩
  | some p =>
    obtain ⟨zz, hzz, e⟩ := at_val q
    obtain ⟨v, rv, hv⟩ := g6 zz hzz
    exact ⟨v, H3, I3.tok _, by rw [← e]; exact rv, q3 v hv⟩
/-- d[k] -/
def tNItem (P : Program) (w : World) (td ty : TE) : TE := fun σ H Q => td σ H fun x H1 => ty σ H1 fun y H2 => ∃ (d : Addr) (R : V → Prop) (xs : NKeys) (a : Addr) (l : Lay), x = .ref d ∧ y = .ref a ∧ NAt P w H2 R d xs ∧ KeysV H2 xs ∧ TupF H2 a (l.map oV) ∧ l ∈ xs.map (·.1) ∧ ∀ v, R v → Q v H2
theorem pe_ngetD {j : Nat} {o i : Expr} {pos : Pos} {td ty : TE} (hr : Room j X.A) (ho : PE X o td) (hi : PE X i ty) (hs : NoSl i := by exact fun _ _ => rfl) : PE X (.Subscript o i pos) (tNItem X.prog X.w td ty) := by
  refine ⟨fun pins s σ H Q I h => ?_⟩
  refine subD_of PySem.F.slot_dict_getitem.lookup hs (thn (ho.run pins s σ H _ I h) fun u s1 ⟨x, H1, I1, rx, q1⟩ => thn (hi.run pins s1 σ H1 _ I1 q1) fun iv s2 ⟨y, H2, I2, ry, d, R, xs, a, l, ex, ey, hd, hk, ha, hl, q2⟩ => ?_)
  subst ex ey
  obtain rfl : u = Value.ref d := rx
  cases (show iv = Value.ref a from ry)
  obtain ⟨h1, zs, hm, g5, g6⟩ := nd_open I2 hd hk
  have e := at_key g5 l
  rw [decide_eq_true hl] at e
  obtain ⟨p, hp⟩ := Option.isSome_iff_exists.mp e
  obtain ⟨zz, hzz, e2⟩ := at_val hp
  obtain ⟨v, rv, hv⟩ := g6 zz hzz
  refine ⟨(nd_type I2 hd).1, getItem_keyed (knd := KN X.prog X.w) (k := l.map oL) (v := p.2) (hu1 hr) (key_is I2 ha.sq) ⟨zs, hm, rfl⟩ ?_ ⟨v, H2, I2.tok _, by rw [← e2]; exact rv, q2 v hv⟩⟩
  rw [valueAt_pairsH, hp]
  rfl
/-- the keys as they stand -/
theorem nd_keys (I : Inv X pins σ H s) (h : NAt X.prog X.w H R d xs) : (d == sysModules) = false ∧ ∃ es ep, s.heap.DictRaw d es ep ∧ es.size = xs.length ∧ xs.length ≤ sizeLine ∧ ∀ (i : Nat) (l : Lay) (a : Addr), xs[i]? = some (l, a) → ∃ e : DictEntry, es[i]? = some e ∧ e.key = Value.ref a ∧ ∃ v, RelV v e.val ∧ R v := by
  obtain ⟨h1, h2, h3, o, es, ep, zs, g1, g2, g3, g4, g5, g6⟩ := nd_p I h
  refine ⟨h1, es, ep, ⟨o, g1, g2, g3⟩, ?_, h2, fun i l a hx => ?_⟩
  · rw [size_of_entries g4]
    have := congrArg List.length g5
    rw [List.length_map, List.length_map] at this
    exact this
  · have e : (zs.map (fun z => (z.1, z.2.1)))[i]? = some (l.map oL, a) := by rw [g5, List.getElem?_map, hx]; rfl
    rw [List.getElem?_map] at e
    obtain ⟨z, hz, ez⟩ := Option.map_eq_some_iff.mp e
    injection ez with e1 e2
    refine ⟨_, by rw [entry_at g4 i, hz]; rfl, by show Value.ref z.2.1 = _; rw [e2], g6 z (List.mem_of_getElem? hz)⟩
def refs (xs : NKeys) : List V := xs.map fun x => V.ref x.2
theorem vals_refs : ∀ xs : NKeys, Vals (refs xs) (xs.map fun x => Value.ref x.2)
  | [] => .nil
  | _ :: t => .cons rfl (vals_refs t)
theorem coll_refs {es : Array DictEntry} {acc : List Value} (hs : es.size = xs.length) (he : ∀ (i : Nat) (l : Lay) (a : Addr), xs[i]? = some (l, a) → ∃ e : DictEntry, es[i]? = some e ∧ e.key = Value.ref a ∧ ∃ v, RelV v e.val ∧ R v) (hl : acc.length = es.size)
    (ha : ∀ j v, acc[j]? = some v → ∃ hi : j < es.size, v = es[j].key) : acc = xs.map fun x => Value.ref x.2 := by
  refine List.ext_getElem? fun j => ?_
  rw [List.getElem?_map]
  by_cases hj : j < xs.length
  · obtain ⟨x, hx⟩ : ∃ x, xs[j]? = some x := ⟨_, List.getElem?_eq_getElem hj⟩
    obtain ⟨e, he1, he2, _⟩ := he j x.1 x.2 hx
    obtain ⟨v, hv⟩ : ∃ v, acc[j]? = some v := ⟨_, List.getElem?_eq_getElem (by omega)⟩
    obtain ⟨hi, ev⟩ := ha j v hv
    rw [hv, hx, ev]
    have : es[j] = e := by
      rw [Array.getElem?_eq_getElem hi] at he1
      exact Option.some.inj he1
    rw [this, he2]
    rfl
  · rw [List.getElem?_eq_none (by omega), List.getElem?_eq_none (by omega)]
    rfl
/-- list(d) -/
def rListN (P : Program) (w : World) : List V → Hp → VK → Prop := fun vs H Q => ∃ d R xs, vs = [.ref d] ∧ NAt P w H R d xs ∧ newL H (refs xs) Q
theorem cr_listN (hc : X.calm = true) : CallR X (.type "list") (rListN X.prog X.w) := by
  intro pins s σ H vs us Q I r h
  obtain ⟨d, R, xs, rfl, hd, q⟩ := h
  obtain ⟨u, rfl, ru⟩ := r.one
  cases (show u = Value.ref d from ru)
  obtain ⟨h1, es, ep, hr, hs, hz, he⟩ := nd_keys I hd
  refine PySem.W.kdl_call (KdlSrc.rawDict h1) (I.ok.hd hc) hr (by omega) fun h' tk acc c hk hS hacc => ?_
  have ea := coll_refs hs he (acc := acc.toList) (by rw [Array.length_toList]; exact hacc.1) fun j v e => hacc.2 j v (by rw [← Array.getElem?_toList]; exact e)
  refine ⟨.ref _, _, I.laid (t' := tk) (a := s.heap.objs.size) (o := .lst (refs xs)) hk (Nat.le_refl _) ⟨by unfold refs; rw [List.length_map]; exact hz, acc.toList, c, by rw [ea]; exact vals_refs xs, ?_⟩, rfl, q _ _ (I.hok.fresh (Nat.le_refl _)) (Same.new (I.hok.fresh (Nat.le_refl _))) upd_same⟩
  rw [Array.toArray_toList]
  exact hS
end
end CC

/-! text N2 -/
namespace CC
open PySem PySem.Spec PyProof.Rows L2
section
variable {X : Cx} {pins : List (Addr × Obj)} {σ : L2.St} {H : Hp} {s : Shared} {R : V → Prop} {d a : Addr} {xs : NKeys} {l : Lay} {o : Obj}
/-- the locked dict's own object -/
theorem nd_frz (I : Inv X pins σ H s) (h : H d = some (.frz o (NDo X.prog X.w R d xs))) : (d == sysModules) = false ∧ s.heap.get? d = some o ∧ o.ExactDict ∧ ∃ (es : Array DictEntry) (ep : Nat), o.data = .dict es ep ∧ es.size = xs.length ∧
    ∀ (i : Nat) (l : Lay) (a : Addr), xs[i]? = some (l, a) → ∃ e : DictEntry, es[i]? = some e ∧ e.key = Value.ref a ∧ ∃ v, RelV v e.val ∧ R v := by
  obtain ⟨h1, es, ep, ⟨o', e1, e2, e3⟩, hs, _, he⟩ := nd_keys I (.inr ⟨o, h⟩)
  have ho : s.heap.get? d = some o := (I.hok d _ h).1
  rw [ho] at e1
  cases e1
  exact ⟨h1, ho, e2, es, ep, e3, hs, he⟩
/-- the keys of the locked dict at d -/
def ItkN (P : Program) (w : World) (R : V → Prop) (d : Addr) (o : Obj) (xs : NKeys) : It :=
  ⟨fun i H => H d = some (.frz o (NDo P w R d xs)) ∧ i < xs.length, fun i H v H' => H' = H ∧ ∃ x, xs[i]? = some x ∧ v = .ref x.2, fun i H => H d = some (.frz o (NDo P w R d xs)) ∧ xs.length ≤ i⟩
/-- its pairs -/
def ItiN (P : Program) (w : World) (R : V → Prop) (d : Addr) (o : Obj) (xs : NKeys) : It :=
  ⟨fun i H => H d = some (.frz o (NDo P w R d xs)) ∧ i < xs.length, fun i H v H' => ∃ T x y, xs[i]? = some x ∧ R y ∧ v = .ref T ∧ H T = none ∧ H' = upd H T (.tup [.ref x.2, y]), fun i H => H d = some (.frz o (NDo P w R d xs)) ∧ xs.length ≤ i⟩
end
section
variable {P : Program} {w : World} {K : PySem.W.Frag} {tg : Expr} {d : Addr} {o : Obj} {es : Array DictEntry} {ep : Nat} {R : V → Prop} {xs : NKeys}
theorem turn_keysN (it : Addr) (hod : o.data = .dict es ep) : Turn P w K tg (ItkN P w R d o xs) [it] it (fun i h => h.IsKeyIter it d i xs.length ep) where
  mem := by simp
  obj := fun i h st b hb => by
    obtain rfl : b = it := by simpa using hb
    obtain ⟨oi, e, c, dd⟩ := st
    exact ⟨oi, e, fun v z => by rw [dd] at z; cases z⟩
  keep := fun i h h' st k => st.at fun oi e => k it (by simp) oi e
  item := by
    intro X hP hw hK hc i pins s σ H E I hf st hg
    subst hP hw hK
    obtain ⟨hd, hi⟩ := hg
    obtain ⟨f0, f1, f2, f3, f4, f5⟩ := hf it (by simp)
    obtain ⟨hs, hgd, hx, es', ep', hdt, hsz, ent⟩ := nd_frz I hd
    obtain ⟨rfl, rfl⟩ := dict_ep hod hdt
    obtain ⟨x, hxi⟩ : ∃ x, xs[i]? = some x := ⟨_, List.getElem?_eq_getElem hi⟩
    obtain ⟨en, hen, hkey, _⟩ := ent i x.1 x.2 hxi
    refine next_key_item st hgd hdt hsz hen fun h' st' sb => ?_
    have I1 : Inv X pins σ H { s with heap := h' } := I.turned (t' := s.toks) (fun b ob hb e => (sb.2 b hb).trans e) f0 f1 f3 f4 f5
    obtain ⟨oi, e, c, dd⟩ := id st'
    exact ⟨en.key, rfl, go_of (s := { s with heap := h' }) e c dd (by decide) ⟨.ref x.2, H, I1, hkey, ⟨rfl, x, hxi, rfl⟩, st', fun b hb => (hf b hb).1⟩⟩
  done := by
    intro X hP hw hK hc i pins s σ H E I hf st hg
    subst hP hw hK
    obtain ⟨hd, hi⟩ := hg
    obtain ⟨f0, f1, f2, f3, f4, f5⟩ := hf it (by simp)
    obtain ⟨hs, hgd, hx, es', ep', hdt, hsz, ent⟩ := nd_frz I hd
    obtain ⟨rfl, rfl⟩ := dict_ep hod hdt
    exact next_key_end (I.ok.hd hc) st hgd hdt hsz hi fun h' eb => ⟨rfl, I.turned (t' := s.toks) (fun b ob hb e => eb b ob hb e) f0 f1 f3 f4 f5⟩
  self := fun A i s Q E st h => (turn_keysT (P := P) (w := w) (K := K) (tg := tg) (kvs := xs.map fun _ => ([], V.non)) it hod).self A i s Q E (by rw [List.length_map]; exact st) h
theorem turn_itemsN {elts : List Expr} {kk : Nat} {tpos : Pos} (it : Addr) (hod : o.data = .dict es ep) :
    Turn P w K (.Tuple elts kk tpos) (ItiN P w R d o xs) [it] it (fun i h => ∃ ok ov, IsItemIter h it d i xs.length ep ok ov) where
  mem := by simp
  obj := fun i h st b hb => by
    obtain rfl : b = it := by simpa using hb
    obtain ⟨ok, ov, e⟩ := st
    exact ⟨_, e, fun v z => nomatch z⟩
  keep := fun i h h' st k => let ⟨ok, ov, e⟩ := st; ⟨ok, ov, k it (by simp) _ e⟩
  item := by
    intro X hP hw hK hc i pins s σ H E I hf st hg
    subst hP hw hK
    obtain ⟨hd, hi⟩ := hg
    obtain ⟨hs, hgd, hx, es', ep', hdt, hsz, ent⟩ := nd_frz I hd
    obtain ⟨rfl, rfl⟩ := dict_ep hod hdt
    obtain ⟨x, hxi⟩ : ∃ x, xs[i]? = some x := ⟨_, List.getElem?_eq_getElem hi⟩
    obtain ⟨en, hen, hkey, y, ry, hy⟩ := ent i x.1 x.2 hxi
    obtain ⟨ok, ov, he⟩ := st
    have hie : i < es'.size := by omega
    have een : es'[i] = en := by
      rw [Array.getElem?_eq_getElem hie] at hen
      exact Option.some.inj hen
    rw [← hsz] at he
    have hlt : it < s.heap.objs.size := Heap.lt_size he
    refine wpAny_pyNext_items_item_raw he ⟨o, hgd, hx, hdt⟩ hie fun h' ho hT hz hk => ?_
    refine ⟨_, rfl, wpAny_letOwnedTupleGo_items (s := { s with heap := h' }) ho fun h'' he' sb => ?_⟩
    rw [een, hkey] at hT
    have hT2 : h''.get? s.heap.objs.size = some { cls := .type "tuple", data := .seq #[.ref x.2, en.val] } := (sb.2 _ (Nat.ne_of_gt hlt)).trans hT
    have new : ObjOk X.prog X.w (upd H s.heap.objs.size (.tup [.ref x.2, y])) h'' s.heap.objs.size (.tup [.ref x.2, y]) :=
      ⟨by show 2 ≤ sizeLine; decide, [.ref x.2, en.val], .cons rfl (.cons ry .nil), ⟨_, hT2, rfl, _, rfl⟩⟩
    have I1 : Inv X pins σ (upd H s.heap.objs.size (.tup [.ref x.2, y])) { s with heap := h'' } :=
      I.turnedNew (t' := s.toks) (ch := [it]) (fun b ob hb e => (sb.2 b (by simpa using hb)).trans (hk b ob (by simpa using hb) e)) hf (Nat.le_refl _) new
    refine ⟨.ref s.heap.objs.size, _, I1, rfl, ⟨_, x, y, hxi, hy, rfl, I.hok.fresh (Nat.le_refl _), rfl⟩, ⟨es'[i].key, es'[i].val, ?_⟩, fun b hb => ?_⟩
    · rw [← hsz]; exact he'
    · have e : b = it := by simpa using hb
      rw [e, upd_ne (Nat.ne_of_lt hlt)]
      exact (hf it (by simp)).1
  done := by
    intro X hP hw hK hc i pins s σ H E I hf st hg
    subst hP hw hK
    obtain ⟨hd, hi⟩ := hg
    obtain ⟨f0, f1, f2, f3, f4, f5⟩ := hf it (by simp)
    obtain ⟨hs, hgd, hx, es', ep', hdt, hsz, ent⟩ := nd_frz I hd
    obtain ⟨rfl, rfl⟩ := dict_ep hod hdt
    obtain ⟨ok, ov, he⟩ := st
    rw [← hsz] at he
    exact wpAny_pyNext_items_end_raw (I.ok.hd hc) he ⟨o, hgd, hx, hdt⟩ (by omega) fun h' eb => ⟨rfl, I.turned (t' := s.toks) (fun b ob hb e => eb b ob hb e) f0 f1 f3 f4 f5⟩
  self := fun A i s Q E st h => let ⟨_, _, e⟩ := st; PySem.W.kcp_self e h
theorem walk_keysN : Walk (ItkN P w R d o xs) xs.length (fun H => H d = some (.frz o (NDo P w R d xs))) (fun i H v H' => H' = H ∧ ∃ x, xs[i]? = some x ∧ v = .ref x.2) :=
  ⟨fun _ _ hi q => ⟨q, hi⟩, fun _ q => ⟨q, Nat.le_refl _⟩, fun _ _ _ _ _ _ y => y⟩
theorem walk_itemsN : Walk (ItiN P w R d o xs) xs.length (fun H => H d = some (.frz o (NDo P w R d xs))) (fun i H v H' => ∃ T x y, xs[i]? = some x ∧ R y ∧ v = .ref T ∧ H T = none ∧ H' = upd H T (.tup [.ref x.2, y])) :=
  ⟨fun _ _ hi q => ⟨q, hi⟩, fun _ q => ⟨q, Nat.le_refl _⟩, fun _ _ _ _ _ _ y => y⟩
end
section
variable {X : Cx} {tg e : Expr} {td : TE} {apos cpos : Pos}
def iKeysN (P : Program) (w : World) (td : TE) : TI := fun σ H R => td σ H fun x H1 => ∃ d o Rv xs, x = .ref d ∧ H1 d = some (.frz o (NDo P w Rv d xs)) ∧ R (ItkN P w Rv d o xs) H1
def iItemsN (P : Program) (w : World) (td : TE) : TI := fun σ H R => td σ H fun x H1 => ∃ d o Rv xs, x = .ref d ∧ H1 d = some (.frz o (NDo P w Rv d xs)) ∧ R (ItiN P w Rv d o xs) H1
theorem pi_keysN (he : PE X e td) : PI X tg e (iKeysN X.prog X.w td) := by
  refine ⟨fun pins s σ H R I h => ?_⟩
  refine thn (he.run pins s σ H _ I h) fun u s1 ⟨x, H1, I1, rx, d, o, Rv, xs, ex, hd, q⟩ => ?_
  subst ex
  obtain rfl : u = Value.ref d := rx
  obtain ⟨hs, hgd, hx, es, ep, hdt, hsz, ent⟩ := nd_frz I1 hd
  refine iter_keys hs hgd hx hdt (pi_one (tk := s1.toks) I1 _ (turn_keysN _ hdt) ⟨_, Heap.get?_push_size _ rfl, rfl, ?_⟩ q)
  rw [hsz] <;> rfl
theorem pi_itemsN {elts : List Expr} {kk : Nat} {tpos : Pos} (he : PE X e td) (hbase : attributeBase e "items" X.env (eval e X.env) = eval e X.env := by rfl) (hline : (apos.endLine == cpos.line) = true := by rfl) :
    PI X (.Tuple elts kk tpos) (.Call (.Attribute e "items" apos) [] [] cpos) (iItemsN X.prog X.w td) := by
  refine ⟨fun pins s σ H R I h => ?_⟩
  refine wpAny_Call_method (T := "dict") (id := "dict.items") hbase rfl hline F.plainAttrs_dict F.slot_dict_items F.type_dict_items (thn (he.run pins s σ H _ I h) fun u s1 ⟨x, H1, I1, rx, d, o, Rv, xs, ex, hd, q⟩ => ?_)
  subst ex
  obtain rfl : u = Value.ref d := rx
  obtain ⟨hs, hgd, hx, es, ep, hdt, hsz, ent⟩ := nd_frz I1 hd
  have raw : s1.heap.DictRaw d es ep := ⟨o, hgd, hx, hdt⟩
  refine ⟨raw.typeIs, fun b e => by cases e; exact ⟨o, hgd, hx.2.1⟩, ?_⟩
  have I2 : Inv X pins σ H1 { s1 with heap := s1.heap.push { cls := .type "dict_items", data := .fields #[.ref d] } } := I1.kept (t' := s1.toks) fun b ob q => Heap.get?_push_of_some _ q
  have fin : wpAny (model X.prog X.w) X.A (pyIter (.ref s1.heap.objs.size)) (PIE X pins σ (.Tuple elts kk tpos) R) X.xe { s1 with heap := s1.heap.push { cls := .type "dict_items", data := .fields #[.ref d] } } := by
    refine wpAny_pyIter_items_raw (d := d) ⟨_, Heap.get?_push_size _ rfl, rfl, rfl⟩ (raw.push _) (pi_one (tk := s1.toks) I2 _ (turn_itemsN _ hdt) ⟨.none, .none, ?_⟩ q)
    rw [← hsz]
    exact Heap.get?_push_size _ rfl
  show wpAny _ _ (callWith cpos (.builtin "dict.items") [.ref d] [] []) _ X.xe s1
  exact method_meetsIn F.slot_dict_items F.entry_dict_items rfl (PySem.evalArgs_none ⟨rfl, raw.typeIs, F.args_dict_items_1 _, _, meets_dict_items_raw d hs, ⟨⟨es, ep, raw⟩, fin⟩⟩)
end
end CC

/-! text N3 -/
namespace CC
open PySem PySem.Spec PyProof.Rows L2
/-! ### {layout: .. for layout in ..} -/
section
variable {X : Cx} {pins : List (Addr × Obj)} {σ : L2.St} {H : Hp} {s : Shared}
theorem ndict_put {E : Value → Shared → Prop} {R : V → Prop} {d a : Addr} {xs : NKeys} {l : Lay} {v : V} {u uv : Value} {Q : Unit → Shared → Prop} (hu : X.A.units + 64 < cLine) (I : Inv X pins σ H s) (ru : RelV (.ref a) u) (rv : RelV v uv) (hd : H d = some (NDo X.prog X.w R d xs)) (hk : KeysV H xs) (ha : TupF H a (l.map oV)) (hv : R v) (hz : xs.length < sizeLine)
    (q : ∀ s', Inv X pins σ (upd H d (NDo X.prog X.w R d (putN xs l a))) s' → Q () s') : wpAny (model X.prog X.w) X.A (dictSet d u uv) Q E s := by
  cases (show u = Value.ref a from ru)
  obtain ⟨h1, zs, hm, g5, g6⟩ := nd_open I (.inl hd) hk
  obtain ⟨_, h2, h3, _⟩ := nd_p I (.inl hd)
  have hl : zs.length = xs.length := by
    have := congrArg List.length g5
    rw [List.length_map, List.length_map] at this
    exact this
  refine wpAny_dictSet_heap (knd := KN X.prog X.w) (show X.A.units < cLine by omega) (key_is I ha.sq) hm (fun h' hm' sb => ?_) (by omega)
  obtain ⟨g7, g8⟩ := nd_store g5 g6 rv hv l a
  refine q _ (I.write (x := d) (e := d) (t' := s.toks + _) (by rw [hd]; exact True.intro) (.inl rfl) (fun b u hb e => (sb.2 b hb).trans e) (let ⟨o, _, _, e, _⟩ := hm'; ⟨o, e⟩) (nd_new h1 ?_ (putN_nodup h3 l a) hm' g7 g8))
  unfold putN
  split
  · exact h2
  · rw [List.length_append, List.length_singleton]; omega
/-- the goal at one turn's end: the key object and the value go into the dict at D -/
def putD (P : Program) (w : World) (D : Addr) (y z : V) (H : Hp) (Nx : Hp → Prop) : Prop := ∃ (R : V → Prop) (a : Addr) (xs : NKeys) (l : Lay), y = .ref a ∧ H D = some (NDo P w R D xs) ∧ KeysV H xs ∧ TupF H a (l.map oV) ∧ R z ∧ xs.length < sizeLine ∧ Nx (upd H D (NDo P w R D (putN xs l a)))
def tDcN (P : Program) (w : World) (wi : TI) (g : TG) (tk tv : TE) (vs : List Nat) : TE := fun σ H Q => wi σ H fun J H1 => ∃ R : V → Prop, ∀ D, H1 D = none → ∃ W : Nat → Nat → Hp → Prop, (∃ m, W 0 m (upd H1 D (NDo P w R D []))) ∧ ∀ i m H, W i m H →
  (J.stop i H ∧ Q (.ref D) H) ∨ (J.go i H ∧ ∃ Nx : Hp → Prop, (∀ H', Nx H' → ∃ m', m' < m ∧ W (i + 1) m' H') ∧ ∀ x H', J.yld i H x H' → g x (wipe σ vs) H' fun σ2 H2 => wipe σ2 vs = wipe σ vs ∧ tk σ2 H2 fun y H4 => tv σ2 H4 fun z H5 => putD P w D y z H5 Nx)
theorem pe_dcG {j : Nat} {kx vx tg iter : Expr} {scope : Scope} {own : List (Str × Nat)} {pos : Pos} {wi : TI} {g : TG} {tk tv : TE} (hr : Room j X.A) (hc : X.calm = true) (hN : X.N.Nodup) (hi : PI X tg iter wi) (ok : BlkOk X.N X.env.scope scope own)
    (hg : ∀ (s : Shared) (H : Hp) (C : Addr) (cl : List (Str × Addr)) (fp : List Addr), PG (X.blk s H scope (compEnvC scope cl C X.env) fp) tg g)
    (hk : ∀ (s : Shared) (H : Hp) (C : Addr) (cl : List (Str × Addr)) (fp : List Addr), PE (X.blk s H scope (compEnvC scope cl C X.env) fp) kx tk)
    (hv : ∀ (s : Shared) (H : Hp) (C : Addr) (cl : List (Str × Addr)) (fp : List Addr), PE (X.blk s H scope (compEnvC scope cl C X.env) fp) vx tv) (hs : ∀ x, foldedSetIterable iter X.env x = pure x) :
    PE X (.DictComp kx vx [⟨tg, iter, [], 0⟩] scope pos) (tDcN X.prog X.w wi g tk tv (own.map (·.2))) := by
  refine ⟨fun pins s σ H Q I h => ?_⟩
  have hu : X.A.units + 64 < cLine := hr.units
  have free : ∀ y ∈ scope.names, y.2 = .free → ∃ c, X.env.cells.lookup y.1 = some c := fun y hy e => (ok.free y hy e).elim (fun k => I.ok.has _ (.inl k)) (fun k => I.ok.has _ (.inr k))
  rw [arm_eval_DictComp]
  refine wpAny_comprehension_free (use := none) rfl hs (closure_ok free) ok.kind (fun y hy e => (ok.uniq y hy).trans (congrArg some e)) (thn (hi.run pins s σ H _ I h) fun xv s1 hx => thn hx fun itv s2 ⟨it, fp, tn, J, H2, eit, I2, T, st2, f2, R, q⟩ => ?_)
  subst eit
  refine wpAny_newObj_type (newEnv_comp ?_)

  obtain ⟨D, hD⟩ : ∃ D, D = s2.heap.objs.size := ⟨_, rfl⟩
  rw [← hD]
  have lowD : (D == sysModules) = false := hD ▸ low_new I2
  have noD : H2 D = none := I2.hok.fresh (Nat.le_of_eq hD.symm)
  obtain ⟨W, ⟨m0, w0⟩, turn⟩ := q D noD
  generalize hs3 : ({ s2 with heap := s2.heap.push { cls := .type "dict", data := .dict #[] } } : Shared) = s3
  have hs3 := hs3.symm
  obtain ⟨H3, hH3⟩ : ∃ H3, H3 = upd H2 D (NDo X.prog X.w R D []) := ⟨_, rfl⟩
  have old3 : ∀ b o, s2.heap.get? b = some o → s3.heap.get? b = some o := fun b o e => by rw [hs3]; exact Heap.get?_push_of_some _ e
  have I3 : Inv X pins σ H3 s3 := by
    rw [hs3, hH3]
    refine I2.laid (t' := s2.toks) (fun b o e => Heap.get?_push_of_some _ e) (Nat.le_of_eq hD.symm) ?_
    refine nd_new (zs := []) lowD (Nat.zero_le _) List.nodup_nil ⟨{ cls := .type "dict", data := .dict #[] }, #[], 0, ?_, ⟨rfl, rfl, rfl⟩, rfl, rfl, (fun _ h => nomatch h), List.nodup_nil⟩ rfl (fun _ h => nomatch h)
    rw [hD]
    exact Heap.get?_push_size _ rfl
  rw [← hH3] at w0
  have small3 : ∀ b ∈ fp, b < s2.heap.objs.size := fun b hb => let ⟨_, e, _⟩ := T.obj _ _ st2 b hb; Heap.lt_size e
  have size3 : s3.heap.objs.size = s2.heap.objs.size + 1 := by rw [hs3, Heap.size_push]
  have f3 : ∀ b ∈ fp, FpOk X pins H3 b ∧ b < s3.heap.objs.size := fun b hb => ⟨⟨by rw [hH3, upd_ne (by rw [hD]; exact Nat.ne_of_lt (small3 b hb))]; exact (f2 b hb).1, (f2 b hb).2⟩, by rw [size3]; exact Nat.lt_succ_of_lt (small3 b hb)⟩
  have I4 := block_start I3 ok hN f3
  have pg := hg s3 H3 s3.heap.objs.size (cellsFrom (s3.heap.objs.size + 1) scope.names (cloFrom X.env.cells scope.names [])) fp
  have pk := hk s3 H3 s3.heap.objs.size (cellsFrom (s3.heap.objs.size + 1) scope.names (cloFrom X.env.cells scope.names [])) fp
  have pv := hv s3 H3 s3.heap.objs.size (cellsFrom (s3.heap.objs.size + 1) scope.names (cloFrom X.env.cells scope.names [])) fp
  show codeAny _ _ (.compStart (.DictComp kx vx [⟨tg, iter, [], 0⟩] scope pos) 0 (.ref it) (.ref D) (compEnvC scope (cellsFrom (s3.heap.objs.size + 1) scope.names (cloFrom X.env.cells scope.names [])) s3.heap.objs.size X.env)) (compPost (model X.prog X.w) X.A X.xe none _ (.ref D) s3.heap.objs.size) { s3 with heap := pushCells (s3.heap.push { cls := .type "dict", data := .dict #[] }) scope.names }
  obtain ⟨hp4, hh4⟩ : ∃ h, h = pushCells (s3.heap.push { cls := .type "dict", data := .dict #[] }) scope.names := ⟨_, rfl⟩
  rw [← hh4] at I4 ⊢
  have st4 : tn 0 hp4 := T.keep _ _ _ st2 fun b _ o e => by rw [hh4]; exact pushCells_keeps _ _ _ _ (Heap.get?_push_of_some _ (old3 b o e))
  generalize hce : compEnvC scope (cellsFrom (s3.heap.objs.size + 1) scope.names (cloFrom X.env.cells scope.names [])) s3.heap.objs.size X.env = ce at I4 pg pk pv ⊢
  have cL : ce.locals = s3.heap.objs.size := by rw [← hce]; rfl
  have clear : ∀ {σ' : L2.St} {H' : Hp} {s' : Shared}, Inv (X.blk s3 H3 scope ce fp) [] σ' H' s' → (∀ b ∈ fp, H' b = none) → ∀ b ∈ fp, FpOk (X.blk s3 H3 scope ce fp) [] H' b := fun {σ' H' s'} I' hn b hb =>
    ⟨hn b hb, (I'.ok.exf b hb).1, I'.ok.exfs b hb, .inl hb, (I'.ok.exf b hb).2, fun p hp => (List.not_mem_nil (show p ∈ ([] : List (Addr × Obj)) from hp)).elim⟩
  have loop : codeAny (model X.prog X.w) X.A (.compLoop (.DictComp kx vx [⟨tg, iter, [], 0⟩] scope pos) 0 (.ref it) (.ref D) ce) (compPost (model X.prog X.w) X.A X.xe none (EP X pins σ Q) (.ref D) s3.heap.objs.size) { s3 with heap := hp4 } := by
    refine compLoop_anyD (fun n s' => ∃ i H', Inv (X.blk s3 H3 scope ce fp) [] (wipe σ (own.map (·.2))) H' s' ∧ tn i s'.heap ∧ (∀ b ∈ fp, H' b = none) ∧ W i n H') (fun n s5 ⟨i, H5, I5, st5, n5, w5⟩ => ?_) m0 ⟨0, H3, I4, st4, fun b hb => (f3 b hb).1.1, w0⟩
    rcases turn i n H5 w5 with ⟨stop, qq⟩ | ⟨go, Nx, hNx, step⟩
    · refine thnF (T.done (X.blk s3 H3 scope ce fp) rfl rfl rfl hc i [] s5 _ H5 (fun _ _ => False) I5 (clear I5 n5) st5 stop) fun r s6 ⟨hr, I6⟩ => ?_
      subst hr
      have I7 : Inv X pins σ H5 s6 := I3.call' (ch := fp) I6.os I6.base I6.hok I6.bare fun b hb => let z := (f3 b hb).1.2; ⟨z.2.2.1, z.1, z.2.2.2.1, z.2.2.2.2⟩
      have nC : H5 ce.locals = none := I6.free
      obtain ⟨m, hn, _⟩ := I6.loc
      have hn : s6.heap.Ns ce.locals m := hn
      rw [cL] at hn nC
      obtain ⟨f0, f1, f2', f3', f4, f5⟩ := I3.fpOk (Nat.le_refl _) nC
      exact ⟨m, hn, fun h'' sb => ⟨.ref D, H5, I7.turned (t' := s6.toks) (fun b o hb e => (sb.2 b hb).trans e) f0 f1 f3' f4 f5, rfl, qq⟩⟩
    · refine thnF (T.item (X.blk s3 H3 scope ce fp) rfl rfl rfl hc i [] s5 _ H5 (fun _ _ => False) I5 (clear I5 n5) st5 go) fun r s6 ⟨u, hr, h6⟩ => ?_
      subst hr
      refine thnF h6 fun _ s7 ⟨x, H7, I7, r7, y7, st7, n7⟩ => ?_
      refine thnF (pg.run _ s7 _ H7 x u _ (I7.pinned (clear I7 n7) (T.obj _ _ st7)) r7 (step x H7 y7)) fun _ s8 ⟨σ8, H8, I8, hw8, q8⟩ => ?_
      refine thnF ((pts_nil (X := X.blk s3 H3 scope ce fp)).run _ s8 σ8 H8 (fun b H' => b = true ∧ H' = H8) I8 ⟨rfl, rfl⟩) fun b s9 ⟨H9, I9, eb, eH⟩ => ?_
      subst eb eH
      refine thnF (pk.run _ s9 σ8 _ _ I9 q8) fun z s10 ⟨yk, H10, I10, r10, q10⟩ => ?_
      refine thnF (pv.run _ s10 σ8 H10 _ I10 q10) fun z2 s11 ⟨yv, H11, I11, r11, Rv, a, xs, l, ek, hD11, hk11, ha11, hv11, hz11, nx⟩ => ?_
      subst ek
      refine ndict_put (X := X.blk s3 H3 scope ce fp) hu I11 r10 r11 hD11 hk11 ha11 hv11 hz11 fun s12 I12 => ?_
      obtain ⟨m', hm, w'⟩ := hNx _ nx
      have held : ∀ b ∈ fp, ∀ o, s7.heap.get? b = some o → s12.heap.get? b = some o ∧ upd H11 D (NDo X.prog X.w Rv D (putN xs l a)) b = none := fun b hb o e =>
        let z := I12.pin (b, o) (List.mem_append_right _ (List.mem_append_right _ (mem_pinsAt hb e)))
        ⟨z.1, z.2.1⟩
      refine ⟨m', hm, i + 1, _, (I12.unpinned (pins := [])).weak (by rw [← hw8, wipe_length]) (fun j v e => ?_), T.keep _ _ _ st7 fun b hb o e => (held b hb o e).1, fun b hb => ?_, w'⟩
      · rw [← hw8] at e
        exact (wipe_some e).1
      · obtain ⟨o, e, _⟩ := T.obj _ _ st7 b hb
        exact (held b hb o e).2
  exact codeAny_compStart_dict loop (T.self X.A 0 _ _ _ st4 loop)
theorem pe_dcN {j : Nat} {kx vx tg iter : Expr} {scope : Scope} {own : List (Str × Nat)} {pos : Pos} {wi : TI} {g : Fam TG} {tk tv : Fam TE} (hr : Room j X.A) (hc : X.calm = true) (hN : X.N.Nodup) (hi : PI X tg iter wi) (ok : BlkOk X.N X.env.scope scope own)
    (hg : ∀ (s : Shared) (H : Hp) (C : Addr) (cl : List (Str × Addr)) (fp : List Addr), PG (X.blk s H scope (compEnvC scope cl C X.env) fp) tg (g s H C cl fp))
    (hk : ∀ (s : Shared) (H : Hp) (C : Addr) (cl : List (Str × Addr)) (fp : List Addr), PE (X.blk s H scope (compEnvC scope cl C X.env) fp) kx (tk s H C cl fp))
    (hv : ∀ (s : Shared) (H : Hp) (C : Addr) (cl : List (Str × Addr)) (fp : List Addr), PE (X.blk s H scope (compEnvC scope cl C X.env) fp) vx (tv s H C cl fp))
    (eg : ∀ s H C cl fp, g s H C cl fp = g.at0 X := by intros; rfl) (ek : ∀ s H C cl fp, tk s H C cl fp = tk.at0 X := by intros; rfl) (ev : ∀ s H C cl fp, tv s H C cl fp = tv.at0 X := by intros; rfl)
    (hs : ∀ x, foldedSetIterable iter X.env x = pure x := by intro _; rfl) :
    PE X (.DictComp kx vx [⟨tg, iter, [], 0⟩] scope pos) (tDcN X.prog X.w wi (g.at0 X) (tk.at0 X) (tv.at0 X) (own.map (·.2))) :=
  pe_dcG hr hc hN hi ok (fun s H C cl fp => eg s H C cl fp ▸ hg s H C cl fp) (fun s H C cl fp => ek s H C cl fp ▸ hk s H C cl fp) (fun s H C cl fp => ev s H C cl fp ▸ hv s H C cl fp) hs
end
end CC

/-! text D3 -/
namespace CC
open PySem PySem.Spec PyProof.Rows L2
theorem bl_t {c : Prop} [Decidable c] (h : c) : V.bl (decide c) = V.bl true := congrArg V.bl (decide_eq_true h)
theorem bl_f {c : Prop} [Decidable c] (h : ¬ c) : V.bl (decide c) = V.bl false := congrArg V.bl (decide_eq_false h)
theorem nV_ne {a b : Nat} (h : a ≠ b) : ¬ nV a = nV b := fun z => h (Int.ofNat.inj (V.int.inj z))
theorem atI_nat {α : Type} {xs : List α} {j : Nat} {v : α} (h : xs[j]? = some v) : atI xs ((j : Nat) : Int) = some v := by
  have hj := (List.getElem?_eq_some_iff.mp h).1
  unfold atI ixN
  rw [if_pos (by omega), if_pos (by omega), Option.bind_some, Int.toNat_natCast]
  exact h
theorem atI_last {α : Type} {xs : List α} {v : α} (h : xs[xs.length - 1]? = some v) : atI xs (-1) = some v := by
  have hj := (List.getElem?_eq_some_iff.mp h).1
  unfold atI ixN
  rw [if_neg (by omega), if_pos (by omega), Option.bind_some, show (-1 + (xs.length : Int)).toNat = xs.length - 1 by omega]
  exact h
theorem map_get {α β : Type} {f : α → β} {l : List α} {i : Nat} {a : α} (h : l[i]? = some a) : (l.map f)[i]? = some (f a) := by
  rw [List.getElem?_map, h]
  rfl
theorem range_get {n i j : Nat} (h : (List.range n)[i]? = some j) : j = i ∧ i < n := by
  obtain ⟨h1, h2⟩ := List.getElem?_eq_some_iff.mp h
  rw [List.getElem_range] at h2
  rw [List.length_range] at h1
  exact ⟨h2.symm, h1⟩
theorem fm_filter {α : Type} (p : α → Prop) [DecidablePred p] (l : List α) : l.filterMap (fun a => if p a then some a else none) = l.filter (fun a => decide (p a)) := by
  induction l with
  | nil => rfl
  | cons a t ih =>
    by_cases h : p a
    · simp [h, ih]
    · simp [h, ih]
theorem nats_of {l : List Nat} {ys : List V} (p : Paired (fun v b => v = nV b) ys l) : ys = l.map nV := by
  induction p with
  | nil => rfl
  | cons r _ ih => rw [r, ih]; rfl
theorem lay_of {l : Lay} {ys : List V} (p : Paired (fun v b => v = oV b) ys l) : ys = l.map oV := by
  induction p with
  | nil => rfl
  | cons r _ ih => rw [r, ih]; rfl
theorem nV_get {l : List Nat} {i : Nat} {v : V} (h : (l.map nV)[i]? = some v) : ∃ n, l[i]? = some n ∧ v = nV n := by
  rw [List.getElem?_map] at h
  obtain ⟨n, h1, h2⟩ := Option.map_eq_some_iff.mp h
  exact ⟨n, h1, h2.symm⟩
theorem sV_get {l : List Str} {i : Nat} {v : V} (h : (l.map V.str)[i]? = some v) : ∃ n, l[i]? = some n ∧ v = .str n := by
  rw [List.getElem?_map] at h
  obtain ⟨n, h1, h2⟩ := Option.map_eq_some_iff.mp h
  exact ⟨n, h1, h2.symm⟩
theorem oV_get {l : Lay} {i : Nat} {v : V} (h : (l.map oV)[i]? = some v) : ∃ n, l[i]? = some n ∧ v = oV n := by
  rw [List.getElem?_map] at h
  obtain ⟨n, h1, h2⟩ := Option.map_eq_some_iff.mp h
  exact ⟨n, h1, h2.symm⟩
theorem word_ok {z : Str} (h : IsWord z) : PyData.strOk z = true := by
  unfold PyData.strOk
  rw [← Array.all_toList]
  refine List.all_eq_true.mpr fun c hc => ?_
  have h2 : ∀ c ∈ letters.cps.toList, decide (c < 0x110000) = true := by decide +kernel
  exact h2 c (h.2.2 c hc)
def doorD (d : Door) : PyData := .tuple [.int (d.1 : Nat), .int (d.2 : Nat)]
def storeD (ds : List Door) (cs : List Str) : PyData := .tuple [.tuple (ds.map doorD), .tuple (cs.map .str)]
theorem Sh_store {ds : List Door} {cs : List Str} (h : ∀ c ∈ cs, IsWord c) : Sh 3 (storeD ds cs) := Sh.tup fun d hd => by
  rcases List.mem_cons.mp hd with rfl | hd
  · refine Sh.tup fun e he => ?_
    obtain ⟨x, _, rfl⟩ := List.mem_map.mp he
    refine Sh.tup fun f hf => ?_
    rcases List.mem_cons.mp hf with rfl | hf
    · exact Sh.int _
    · rw [List.mem_singleton.mp hf]; exact Sh.int _
  · rw [List.mem_singleton.mp hd]
    refine Sh.tup fun e he => ?_
    obtain ⟨x, hx, rfl⟩ := List.mem_map.mp he
    exact Sh.str (word_ok (h x hx))
theorem Dp_parts {K : PySem.W.Frag} {H : Hp} {P d c : Addr} {ds : List Door} {cs : List Str} (h1 : SqT K H P [.ref d, .ref c]) (h2 : DoorsV K H (.ref d) ds) (h3 : SqT K H c (cs.map V.str)) : Dp K H (.ref P) (storeD ds cs) := by
  obtain ⟨a, as, e, ht, hp⟩ := h2
  cases e
  refine .tup h1 (.cons (.tup ht (DpAll.pair (fun v x h => ?_) hp)) (.cons (.tup h3 (DpAll.map (fun x => .str x) cs)) .nil))
  obtain ⟨b, rfl, hb⟩ := h
  exact .tup hb (.cons (.int _) (.cons (.int _) .nil))
section
variable {P : Program} {w : World} {K : PySem.W.Frag} {mg : Str → Option Value} {base : Heap} {C : Addr}
def spEqS (K : PySem.W.Frag) (C : Addr) : SpN := fun vs H Q => ∃ a b ds cs, vs = [.ref a, .ref b] ∧ StoreAt K C H a ds cs ∧ StoreAt K C H b ds cs ∧ ∀ H', Same H H' → Q (.bl true) H'
abbrev s_Store___eq__ : Stmt := inClass (topS 32) 6
abbrev N_Store___eq__ : List Str := ["self", "other"]
theorem sc_Store___eq__ : FnScope N_Store___eq__ ["self", "other"] (defScope s_Store___eq__) := ⟨rfl, rfl, rfl, by decide +kernel, rfl, by decide +kernel, by decide +kernel⟩
-- cells: []; calls: []
theorem met_Store___eq__ (B : Base K mg) (S : StoreB K mg C) : MetN P w K mg base 3 C "__eq__" (spEqS K C) := by
  refine S.eq.ok sc_Store___eq__ (fun vs H Q h => ?_) (fun f cdv A outer s H vs Q E hr h => ?_)
  · obtain ⟨a, b, ds, cs, rfl, _⟩ := h
    rfl
  · obtain ⟨a, b, ds, cs, rfl, sa, sb, q⟩ := h
    obtain ⟨pa, sl⟩ := S.parts
    obtain ⟨dxb, vsb, hb⟩ := sb.slt
    obtain ⟨ok, dx, ea, p, P', d, c, h1, h2, rfl, h4, h5, h6⟩ := id sa
    refine ⟨_, (pss_one (ps_ret (pe_and (pe_callB (SlX.call_isiSl (.ref C)) rfl B.f_isinstance (by decide +kernel) (pa_cons (pv 1) (pa_cons (pe_gc rfl S.gC) pa_nil))) (pe_one (pe_cmpR (op_eqD hr.units) (SlX.pe_sl (pv 0)) (pe_tup (pa_cons (pe_prN (prp_Store_doors B S) S.cls hr (by decide) (pv 1)) (pa_cons (pe_prN (prp_Store_crates B S) S.cls hr (by decide) (pv 1)) pa_nil))) (nomark _)))))
    ), ?_⟩
    refine ⟨_, rfl, b, C, dxb, vsb, .ref C, true, rfl, rfl, fun _ z => z, hb, S.cls, S.isi, S.kit, _, rfl, iteT ?_⟩
    refine ⟨_, rfl, _, _, _, _, _, _, _, rfl, h1, S.cls, sl, rfl, _, rfl, b, dxb, vsb, rfl, hb, b, ds, cs, rfl, sb, fun d2 hd2 => ⟨_, rfl, b, dxb, vsb, rfl, hb, b, ds, cs, rfl, sb, fun c2 hc2 => ⟨small (by simp), fun T nT => ?_⟩⟩⟩
    generalize hh : upd H T _ = H2
    obtain ⟨e2, hT⟩ := upH hh nT
    clear hh
    refine ⟨_, _, Dp_parts (e2.tup h4) (h5.mono e2.n) (e2.tup h6), Dp_parts (SqT.of hT) (hd2.mono e2.n) (e2.tup hc2), (Sh_store ok.2.2.2.2.1).shaped (by decide), (Sh_store ok.2.2.2.2.1).shaped (by decide), ?_⟩
    rw [Sh.refl (Sh_store ok.2.2.2.2.1)]
    exact q _ e2
def spDoorOf (K : PySem.W.Frag) (C : Addr) : SpN := fun vs H Q => ∃ a ds cs i d, vs = [.ref a, nV i] ∧ StoreAt K C H a ds cs ∧ (edges ds)[i]? = some d ∧ Q (nV d) H
abbrev s_Store_door_of : Stmt := inClass (topS 32) 7
abbrev N_Store_door_of : List Str := ["self", "place"]
theorem sc_Store_door_of : FnScope N_Store_door_of ["self", "place"] (defScope s_Store_door_of) := ⟨rfl, rfl, rfl, by decide +kernel, rfl, by decide +kernel, by decide +kernel⟩
-- cells: []; calls: ['is_number']
theorem met_Store_door_of (B : Base K mg) (S : StoreB K mg C) : MetN P w K mg base 2 C "door_of" (spDoorOf K C) := by
  refine S.door_of.ok sc_Store_door_of (fun vs H Q h => ?_) (fun f cdv A outer s H vs Q E hr h => ?_)
  · obtain ⟨a, ds, cs, i, d, rfl, _⟩ := h
    rfl
  · obtain ⟨a, ds, cs, i, d, rfl, sa, hd, q⟩ := h
    obtain ⟨pa, sl⟩ := S.edges
    obtain ⟨ok, dx, ea, p, P', d', c, h1, h2, rfl, h4, h5, h6⟩ := id sa
    have hi := (List.getElem?_eq_some_iff.mp hd).1
    refine ⟨_, (pss_cons (ps_if (pt_not (pt_val (pe_c (cal_is_number B) hr (by decide) rfl (pa_cons (pv 1) (pa_cons pe_int (pa_cons (pe_op op_sub (pe_callB call_len rfl B.f_len boot_len (pa_cons (SlX.pe_sl (pv 0)) pa_nil)) pe_int) pa_nil)))))) (
        (pss_one ps_never
        )) (pss_nil))
    (pss_one (ps_ret (pe_ix ix_tup (SlX.pe_sl (pv 0)) (pv 1) (fun _ _ => rfl)))
    )), ?_⟩
    refine ⟨_, rfl, _, rfl, _, _, _, _, _, _, _, rfl, h1, S.cls, sl, rfl, _, _, rfl, .inr ⟨_, h2, rfl⟩, _, _, rfl, rfl, _, _, _, rfl, _, rfl, ?_⟩
    rw [decide_eq_true (show (0 : Int) ≤ (i : Nat) by omega), decide_eq_true (show ((i : Nat) : Int) ≤ (((edges ds).map nV).length : Nat) - 1 by rw [List.length_map]; omega)]
    refine iteF ⟨_, rfl, _, _, _, _, _, _, _, rfl, h1, S.cls, sl, rfl, _, rfl, _, _, _, _, rfl, rfl, h2, atI_nat (map_get hd), q⟩
def placesOf (ds : List Door) (d : Nat) : List Nat := (List.range (places ds)).filter fun i => decide ((edges ds)[i]? = some d)
def spPlacesOf (K : PySem.W.Frag) (C : Addr) : SpN := fun vs H Q => ∃ a ds cs d, vs = [.ref a, nV d] ∧ StoreAt K C H a ds cs ∧ d < ds.length ∧ ∀ t H', Same H H' → SqT K H' t ((placesOf ds d).map nV) → Q (.ref t) H'
abbrev s_Store_places_of : Stmt := inClass (topS 32) 8
abbrev N_Store_places_of : List Str := ["self", "door", "place", "edge"]
theorem sc_Store_places_of : FnScope N_Store_places_of ["self", "door"] (defScope s_Store_places_of) := ⟨rfl, rfl, rfl, by decide +kernel, rfl, by decide +kernel, by decide +kernel⟩
-- cells: ['door']; calls: ['is_number']
theorem met_Store_places_of (B : Base K mg) (S : StoreB K mg C) : MetN P w K mg base 2 C "places_of" (spPlacesOf K C) := by
  refine S.places_of.ok sc_Store_places_of (fun vs H Q h => ?_) (fun f cdv A outer s H vs Q E hr h => ?_)
  · obtain ⟨a, ds, cs, d, rfl, _⟩ := h
    rfl
  · obtain ⟨a, ds, cs, d, rfl, sa, hd, q⟩ := h
    obtain ⟨p1, sl1⟩ := S.parts
    obtain ⟨p2, sl2⟩ := S.edges
    obtain ⟨ok, dx, ea, p, P', d', c, h1, h2, rfl, h4, h5, h6⟩ := id sa
    obtain ⟨_, as, e, ht, hp⟩ := h5
    cases e
    have hl := Paired.len hp
    refine ⟨_, (pss_cons (ps_if (pt_not (pt_val (pe_c (cal_is_number B) hr (by decide) rfl (pa_cons (pv 1) (pa_cons pe_int (pa_cons (pe_op op_sub (pe_callB call_len rfl B.f_len boot_len (pa_cons (pe_ix ix_tup (SlX.pe_sl (pv 0)) pe_int (fun _ _ => rfl)) pa_nil)) pe_int) pa_nil)))))) (
        (pss_one ps_never
        )) (pss_nil))
    (pss_one (ps_ret (pe_callTy call_tuple_of rfl B.f_tuple (by decide +kernel) (pa_cons (pe_lcX (own := [("place", 2), ("edge", 3)]) rfl sc_Store_places_of.nd (pi_enumT rfl B.f_enumerate (pa_cons (SlX.pe_sl (pv 0)) pa_nil)) (blkOk_by (own := [("place", 2), ("edge", 3)]) (N := N_Store_places_of) (sc := defScope s_Store_places_of) (by decide +kernel)) (fun _ _ _ _ _ => (pg_tup rfl (pgs_cons (pg_name (i := 2) sc_Store_places_of.nd rfl (.inl rfl)) (pgs_cons (pg_name (i := 3) sc_Store_places_of.nd rfl (.inl rfl)) pgs_nil)))) (fun _ _ _ _ _ => (pts_one (pt_cmpR op_eq (pv 3) (pv 1) (nomark _)))) (fun _ _ _ _ _ => (pv 2))) pa_nil)))
    )), ?_⟩
    refine ⟨_, rfl, _, rfl, _, _, _, _, _, _, _, rfl, h1, S.cls, sl1, rfl, _, _, _, _, rfl, rfl, h4, rfl, _, _, rfl, .inr ⟨_, ht, rfl⟩, _, _, rfl, rfl, _, _, _, rfl, _, rfl, ?_⟩
    rw [decide_eq_true (show (0 : Int) ≤ (d : Nat) by omega), decide_eq_true (show ((d : Nat) : Int) ≤ (as.length : Nat) - 1 by omega)]
    refine iteF ⟨_, rfl, _, _, _, _, _, _, _, rfl, h1, S.cls, sl2, rfl, _, _, rfl, h2, ?_⟩
    have he : (edges ds).length = places ds := edges_len ds
    have h6' : places ds ≤ 6 := places_le ok.1
    refine comp_it (walk_enumT (xs := (edges ds).map nV)) (List.range (places ds)) (fun i => if (edges ds)[i]? = some d then some i else none) (fun H v i => ∃ e, (edges ds)[i]? = some e ∧ PairV K H v (nV i) (nV e)) (fun _ v b => v = nV b) (fun _ _ _ _ _ h => h) (by rw [List.length_range, List.length_map, he])
      (fun _ e => e.tup h2) (by rw [List.length_map]; omega) (fun i H1 x H' j hj hy e => ?_) (fun i j x H' Qy Qn hj e hs ky kn => ?_) (fun D H' ys hD e g1 g2 => ?_)
    · obtain ⟨a1, b1, g1, g2, e1, hp1⟩ := pair_of (K := K) hy
      obtain ⟨rfl, hi⟩ := range_get hj
      obtain ⟨n, hn, rfl⟩ := nV_get g2
      cases g1
      exact ⟨e1, n, hn, hp1⟩
    · obtain ⟨n, hn, T, rfl, hT⟩ := hs
      refine ⟨_, _, rfl, hT, rfl, _, _, rfl, _, _, rfl, rfl, rfl, _, rfl, _, rfl, rfl, ?_⟩
      by_cases hnd : n = d
      · subst hnd
        exact ⟨true, bl_t rfl, iteT ⟨_, rfl, ky _ _ _ (if_pos hn) (Same.refl _) rfl⟩⟩
      · exact ⟨false, bl_f (nV_ne hnd), iteF (kn (if_neg fun z => hnd (Option.some.inj (hn.symm.trans z))) _ (Same.refl _))⟩
    · rw [fm_filter] at g2
      refine ⟨_, _, rfl, .inl ⟨SqL.of g1, fun T nT => ?_⟩⟩
      exact q _ _ (e.trans (Same.new nT)) (SqT.of (by rw [upd_same, nats_of g2]; rfl))
end
end CC

/-! text D4 -/
namespace CC
open PySem PySem.Spec PyProof.Rows L2
theorem walk_rng {n : Nat} : Walk (Itr 0 n) n (fun _ => True) (YFn nV) := walk_range.mono (fun _ h => h) fun i H x H' _ _ y => ⟨y.1, by rw [y.2]; exact congrArg V.int (by omega)⟩
/-! ### layouts: the mirror -/
def left (cs : List Str) (r : Lay) : List Str := cs.filter fun c => decide (some c ∉ r)
def ext (n : Nat) (cs : List Str) (k : Nat) (r : Lay) : List Lay := (if (left cs r).length < n - k then [r ++ [none]] else []) ++ (left cs r).map fun c => r ++ [some c]
def layAt (n : Nat) (cs : List Str) : Nat → List Lay
  | 0 => [[]]
  | k + 1 => (layAt n cs k).flatMap (ext n cs k)
def allLay (ds : List Door) (cs : List Str) : List Lay := layAt (places ds) cs (places ds)
theorem ext_len {n : Nat} {cs : List Str} {k : Nat} {r : Lay} (h : cs.length ≤ 5) : (ext n cs k r).length ≤ 6 := by
  have h1 : (left cs r).length ≤ cs.length := List.length_filter_le _ _
  unfold ext
  rw [List.length_append, List.length_map]
  split
  · rw [List.length_singleton]; omega
  · rw [List.length_nil]; omega
theorem flat_len {α β : Type} {f : α → List β} {m : Nat} : ∀ {l : List α}, (∀ a ∈ l, (f a).length ≤ m) → (l.flatMap f).length ≤ l.length * m
  | [], _ => by simp
  | a :: l, h => by
    rw [List.flatMap_cons, List.length_append, List.length_cons, Nat.succ_mul]
    have h1 := h a List.mem_cons_self
    have h2 := flat_len (l := l) (f := f) (m := m) fun b hb => h b (List.mem_cons_of_mem _ hb)
    omega
theorem layAt_len {n : Nat} {cs : List Str} (h : cs.length ≤ 5) : ∀ k, (layAt n cs k).length ≤ 6 ^ k
  | 0 => Nat.le_refl _
  | k + 1 => by
    have h1 := flat_len (l := layAt n cs k) (f := ext n cs k) (m := 6) fun r _ => ext_len h
    have h2 := layAt_len (n := n) h k
    show ((layAt n cs k).flatMap (ext n cs k)).length ≤ _
    rw [Nat.pow_succ]
    exact Nat.le_trans h1 (Nat.mul_le_mul_right 6 h2)
theorem smM {n : Nat} (h : n ≤ 10000000) : n ≤ sizeLine := Nat.le_trans h (by decide)
theorem smM' {n : Nat} (h : n < 10000000) : n < sizeLine := Nat.lt_of_lt_of_le h (by decide)
theorem ext_lens {n : Nat} {cs : List Str} {k : Nat} {r l : Lay} (h : l ∈ ext n cs k r) : l.length = r.length + 1 := by
  unfold ext at h
  rcases List.mem_append.mp h with h | h
  · split at h
    · rw [List.mem_singleton.mp h, List.length_append]; rfl
    · cases h
  · obtain ⟨c, _, rfl⟩ := List.mem_map.mp h
    rw [List.length_append]; rfl
theorem layAt_lens {n : Nat} {cs : List Str} : ∀ {k : Nat} {l : Lay}, l ∈ layAt n cs k → l.length = k
  | 0, l, h => by rw [List.mem_singleton.mp h]; rfl
  | k + 1, l, h => by
    obtain ⟨r, hr, hl⟩ := List.mem_flatMap.mp h
    rw [ext_lens hl, layAt_lens hr]
theorem pow6 {k : Nat} (h : k ≤ 6) : 6 ^ k ≤ 46656 := Nat.pow_le_pow_right (by decide) h
/-! ### layouts on the heap -/
def LayV (H : Hp) (v : V) (l : Lay) : Prop := ∃ a, v = .ref a ∧ TupF H a (l.map oV)
theorem LayV.mono {H H' : Hp} {v : V} {l : Lay} (e : SameN H H') (h : LayV H v l) : LayV H' v l := by
  obtain ⟨a, rfl, h⟩ := h
  exact ⟨a, rfl, h.mono e⟩
def LaysV (H : Hp) (a : Addr) (ls : List Lay) : Prop := ∃ vs, H a = some (.lst vs) ∧ Paired (LayV H) vs ls
theorem LaysV.mono {H H' : Hp} {a : Addr} {ls : List Lay} (e : Same H H') (h : LaysV H a ls) : LaysV H' a ls := by
  obtain ⟨vs, h1, h2⟩ := h
  exact ⟨vs, e _ _ h1, Paired.imp (fun _ _ h => h.mono e.n) h2⟩
theorem pmono {H H' : Hp} {vs : List V} {ls : List Lay} (e : SameN H H') (h : Paired (LayV H) vs ls) : Paired (LayV H') vs ls := Paired.imp (fun _ _ h => h.mono e) h
theorem flat_oV (l : Lay) : (l.map oV).all flatV = true := List.all_eq_true.mpr fun v hv => by
  obtain ⟨o, _, rfl⟩ := List.mem_map.mp hv
  exact oV_flat o
theorem eqV_oV : ∀ a b : Option Str, eqV (oV a) (oV b) = decide (a = b)
  | none, none => rfl
  | none, some _ => by rw [decide_eq_false (fun h => nomatch h)]; rfl
  | some _, none => by rw [decide_eq_false (fun h => nomatch h)]; rfl
  | some x, some y => by
    show (x == y) = _
    by_cases h : x = y
    · subst h; simp
    · rw [decide_eq_false (fun z => h (Option.some.inj z))]; exact beq_eq_false_iff_ne.mpr h
theorem inV_oV (o : Option Str) (l : Lay) : inV (oV o) (l.map oV) = decide (o ∈ l) := by
  unfold inV
  rw [List.any_map]
  by_cases h : o ∈ l
  · rw [decide_eq_true h]
    exact List.any_eq_true.mpr ⟨o, h, by show eqV (oV o) (oV o) = true; rw [eqV_oV]; exact decide_eq_true rfl⟩
  · rw [decide_eq_false h]
    refine List.any_eq_false.mpr fun x hx => ?_
    show ¬ eqV (oV x) (oV o) = true
    rw [eqV_oV]
    exact fun z => h (of_decide_eq_true z ▸ hx)
section
variable {P : Program} {w : World} {K : PySem.W.Frag} {mg : Str → Option Value} {base : Heap} {C : Addr}
def spAllLayouts (K : PySem.W.Frag) (C : Addr) : SpN := fun vs H Q => ∃ a ds cs, vs = [.ref a] ∧ StoreAt K C H a ds cs ∧ ∀ H' r, Same H H' → H r = none → LaysV H' r (allLay ds cs) → Q (.ref r) H'
abbrev s_all_layouts : Stmt := topS 33
abbrev N_all_layouts : List Str := ["store", "rows", "place", "longer", "row", "left", "name"]
theorem sc_all_layouts : FnScope N_all_layouts ["store"] (defScope s_all_layouts) := ⟨rfl, rfl, rfl, by decide +kernel, rfl, by decide +kernel, by decide +kernel⟩
-- cells: ['row']; calls: []
theorem cal_all_layouts (B : Base K mg) (S : StoreB K mg C) : Cal P w K mg base 3 "all_layouts" (spAllLayouts K C) := by
  refine B.d_all_layouts.ok sc_all_layouts (fun vs H Q h => ?_) (fun f cdv A outer s H vs Q E hr h => ?_)
  · obtain ⟨a, ds, cs, rfl, _⟩ := h
    rfl
  · obtain ⟨a, ds, cs, rfl, sa, q⟩ := h
    obtain ⟨dx, ws, ha⟩ := sa.slt
    have n6 : places ds ≤ 6 := places_le sa.1.1
    have c5 : cs.length ≤ 5 := sa.1.2.2.1
    refine ⟨_, (pss_cons (ps_set (i := 1) sc_all_layouts.nd rfl (.inl rfl) (pe_lstN (pa_cons (pe_tupF pa_nil) pa_nil)))
    (pss_cons (ps_for PassesOwn.never rfl (pi_range1 rfl B.f_range (pa_cons (pe_prN (prp_Store_size B S) S.cls hr (by decide) (pv 0)) pa_nil)) (pg_name (i := 2) sc_all_layouts.nd rfl (.inl rfl)) (
        (pss_cons (ps_set (i := 3) sc_all_layouts.nd rfl (.inl rfl) (pe_lstN pa_nil))
        (pss_cons (ps_for PassesOwn.never rfl (pi_list (pv 1)) (pg_name (i := 4) sc_all_layouts.nd rfl (.inr rfl)) (
            (pss_cons (ps_setLcX (i := 5) (own := [("name", 6)]) rfl sc_all_layouts.nd rfl rfl (sw_true rfl rfl rfl rfl) (pi_tup (pe_prN (prp_Store_crates B S) S.cls hr (by decide) (pv 0))) (blkOk_by (own := [("name", 6)]) (N := N_all_layouts) (sc := defScope s_all_layouts) (by decide +kernel)) (fun _ _ _ _ _ => (pg_name (i := 6) sc_all_layouts.nd rfl (.inl rfl))) (fun _ _ _ _ _ => (pts_one (pt_cmpR op_notIn_seq (pv 6) (pv 4) rfl))) (fun _ _ _ _ _ => (pv 6)))
            (pss_cons (ps_if (pt_cmpR op_lt (pe_callB call_len rfl B.f_len boot_len (pa_cons (pv 5) pa_nil)) (pe_op op_sub (pe_prN (prp_Store_size B S) S.cls hr (by decide) (pv 0)) (pv 2)) (nomark _)) (
                (pss_one (ps_expr (pe_bm PySem.F.plainAttrs_list PySem.F.slot_list_append PySem.F.type_list_append mt_append (pv 3) (pa_cons (pe_tupF (StX.pa_star (pv 4) (pa_cons pe_non pa_nil))) pa_nil)))
                )) (pss_nil))
            (pss_one (ps_expr (pe_bm PySem.F.plainAttrs_list PySem.F.slot_list_extend PySem.F.type_list_extend mt_extend (pv 3) (pa_cons (pe_lcX (own := [("name", 6)]) rfl sc_all_layouts.nd (pi_list (pv 5)) (blkOk_by (own := [("name", 6)]) (N := N_all_layouts) (sc := defScope s_all_layouts) (by decide +kernel)) (fun _ _ _ _ _ => (pg_name (i := 6) sc_all_layouts.nd rfl (.inl rfl))) (fun _ _ _ _ _ => pts_nil) (fun _ _ _ _ _ => (pe_tupF (StX.pa_star (pv 4) (pa_cons (pv 6) pa_nil))))) pa_nil)))
            )))))
        (pss_one (ps_set (i := 1) sc_all_layouts.nd rfl (.inl rfl) (pv 3))
        )))))
    (pss_one (ps_ret (pv 1))
    ))), ?_⟩
    refine ⟨small (by simp), fun T H1 nT e1 hT => ⟨small (by simp), fun R H2 nR e2 hR => ?_⟩⟩
    have nRH : H R = none := e1.free nR
    refine ⟨_, rfl, a, dx, ws, rfl, slt_mono (e1.trans e2).n ha, a, ds, cs, rfl, sa.mono (e1.trans e2).n, _, rfl, by omega, by omega, ?_⟩
    refine for_it walk_rng (fun i σ H3 => (∃ r j1 j2 j3 j4 j5, σ = [some (.ref a), some (.ref r), j1, j2, j3, j4, j5] ∧ H r = none ∧ LaysV H3 r (layAt (places ds) cs i)) ∧ Same H H3) ?_ (fun _ _ _ _ _ => trivial) (fun i y σ H4 H3 hi p hy => ?_) (fun σ H3 p => ?_)
    · exact ⟨⟨R, _, _, _, _, _, rfl, nRH, _, hR, .cons ⟨T, rfl, hT.mono e2.n⟩ .nil⟩, e1.trans e2⟩
    · obtain ⟨⟨r, j1, j2, j3, j4, j5, rfl, nr, rvs, hr3, pr3⟩, e3⟩ := p
      obtain ⟨rfl, rfl⟩ := hy
      have hi6 : i < places ds := by
        have : ((places ds : Nat) : Int).toNat = places ds := Int.toNat_natCast _
        exact this ▸ hi
      refine ⟨small (by simp), fun L H5 nL e5 hL => ?_⟩
      have nLH : H L = none := e3.free nL
      have hrL : r ≠ L := fun z => by rw [z, nL] at hr3; cases hr3
      have rl : (layAt (places ds) cs i).length ≤ 46656 := Nat.le_trans (layAt_len c5 i) (pow6 (by omega))
      refine ⟨_, rfl, _, rfl, ⟨_, SqL.of (e5 _ _ hr3)⟩, ?_⟩
      refine for_it walk_list (fun k σ H6 => (∃ j4 j5 j6, σ = [some (.ref a), some (.ref r), some (nV i), some (.ref L), j4, j5, j6]) ∧ Same H H6 ∧ H6 r = some (.lst rvs) ∧ Paired (LayV H6) rvs (layAt (places ds) cs i) ∧ LaysV H6 L (((layAt (places ds) cs i).take k).flatMap (ext (places ds) cs i))) ?_
        (fun k σ H6 _ p => SqL.of p.2.2.1) (fun k y σ H7 H6 hk p hy => ?_) (fun σ H6 p => ?_)
      · exact ⟨⟨_, _, _, rfl⟩, e3.trans e5, e5 _ _ hr3, pmono e5.n pr3, _, hL, .nil⟩
      · obtain ⟨⟨j4, j5, j6, rfl⟩, e6, hr6, pr6, lvs, hL6, pl6⟩ := p
        obtain ⟨rfl, hy⟩ := hy
        obtain ⟨l, hl, hlv⟩ := Paired.get1 pr6 hy
        obtain ⟨la, rfl, hla⟩ := hlv
        refine ⟨_, rfl, a, dx, ws, rfl, slt_mono e6.n ha, a, ds, cs, rfl, sa.mono e6.n, fun c hc => ⟨_, rfl, ⟨_, hc⟩, ?_⟩⟩
        have fl : ∀ (c : Str), inV (V.str c) (l.map oV) = decide (some c ∈ l) := fun c => inV_oV (some c) l
        refine comp_it walk_tup cs (fun c => if some c ∉ l then some c else none) (fun _ v c => v = .str c) (fun _ v b => v = .str b) (fun _ _ _ _ _ h => h) (by rw [List.length_map]) (fun _ e => e.tup hc)
          (by rw [List.length_map]; omega) (fun i H1 x H' c hc hy e => ?_) (fun i c x H' Qy Qn hc e hs ky kn => ?_) (fun D H' ys hD e g1 g2 => ?_)
        · obtain ⟨rfl, hx⟩ := hy
          obtain ⟨c', hc', rfl⟩ := sV_get hx
          rw [hc] at hc'
          cases hc'
          exact ⟨Same.refl _, rfl⟩
        · subst hs
          refine ⟨rfl, _, rfl, _, rfl, _, _, rfl, .inr (hla.mono e.n).sq, rfl, flat_oV l, ?_⟩
          by_cases hm : some c ∈ l
          · exact ⟨false, by rw [fl, decide_eq_true hm]; rfl, iteF (kn (if_neg fun z => z hm) _ (Same.refl _))⟩
          · exact ⟨true, by rw [fl, decide_eq_false hm]; rfl, iteT ⟨_, rfl, ky _ _ _ (if_pos hm) (Same.refl _) rfl⟩⟩
        rw [fm_filter] at g2
        have hD' : H' D = some (.lst ((left cs l).map V.str)) := by rw [g1, strs_of g2]; rfl
        have hLr : L ≠ r := Ne.symm hrL
        have hL' : H' L = some (.lst lvs) := e _ _ hL6
        have pl' := pmono e.n pl6
        have hll : lvs.length ≤ 46656 * 6 := by
          rw [Paired.len pl6]
          refine Nat.le_trans (flat_len (m := 6) fun r _ => ext_len c5) (Nat.mul_le_mul_right 6 (Nat.le_trans ?_ rl))
          rw [List.length_take]
          exact Nat.min_le_right _ _
        refine ⟨_, rfl, _, _, rfl, .inl ⟨_, SqL.of hD', rfl⟩, _, rfl, a, dx, ws, rfl, slt_mono (e6.trans e).n ha, a, ds, cs, rfl, sa.mono (e6.trans e).n, _, rfl, _, _, rfl, rfl, _, _, rfl, rfl, _, rfl, ?_⟩
        refine if_join (N := ?N) (fun H8 => (∀ b o, b ≠ L → H' b = some o → H8 b = some o) ∧ ∃ lvs8, H8 L = some (.lst lvs8) ∧ Paired (LayV H8) lvs8 (((layAt (places ds) cs i).take k).flatMap (ext (places ds) cs i) ++ if (left cs l).length < places ds - i then [l ++ [none]] else [])) ?hB ?hA ?hN
        case hB =>
          intro go hc
          have hc' : ¬ (left cs l).length < places ds - i := fun z => of_decide_eq_false hc (by rw [List.length_map]; omega)
          exact go H' ⟨fun _ _ _ h => h, lvs, hL', by rw [if_neg hc', List.append_nil]; exact pl'⟩
        case hA =>
          intro go hc
          have hc' : (left cs l).length < places ds - i := by
            have := of_decide_eq_true hc
            rw [List.length_map] at this
            omega
          refine ⟨_, rfl, .inl ⟨rfl, _, SqL.of hL'⟩, _, rfl, _, _, rfl, .inl (hla.mono e.n).sq, small ?_, fun T H8 nT e8 hT => ?_⟩
          · have := layAt_lens (List.mem_of_getElem? hl)
            rw [List.length_append, List.length_map]
            simp
            omega
          refine ⟨_, _, _, rfl, rfl, e8 _ _ hL', smM' (by omega), go _ ⟨fun b o nb h => by rw [upd_ne nb]; exact e8 _ _ h, _, upd_same, ?_⟩⟩
          rw [if_pos hc']
          refine pmono (SameN.wr (e8 _ _ hL')) (Paired.snoc (pmono e8.n pl') ⟨T, rfl, by rw [List.map_append]; exact hT⟩)
        case hN =>
          intro H8 J8
          obtain ⟨k8, lvs8, hL8, p8⟩ := J8
          have e8 : SameN H' H8 := SameN.list hL' k8
          have hD8 : H8 D = some (.lst ((left cs l).map V.str)) := k8 _ _ (fun z => by rw [z, hL6] at hD; cases hD) hD'
          have hla8 : TupF H8 la (l.map oV) := (hla.mono e.n).mono e8
          have hc5 : (left cs l).length ≤ 5 := Nat.le_trans (List.length_filter_le _ _) c5
          refine ⟨_, rfl, .inl ⟨rfl, _, SqL.of hL8⟩, _, rfl, _, rfl, ⟨_, SqL.of hD8⟩, ?_⟩
          refine comp_it walk_list (left cs l) (fun c => some (l ++ [some c])) (fun _ v c => v = .str c) LayV (fun _ _ _ _ e h => h.mono e) (by rw [List.length_map]) (fun _ e => SqL.of (e _ _ hD8))
            (by rw [List.length_map]; omega) (fun i H1 x H' c hc hy e => ?_) (fun i c x H9 Qy Qn hc e9 hs ky kn => ?_) (fun D9 H9 ys9 nD9 e9 g3 g4 => ?_)
          · obtain ⟨rfl, hx⟩ := hy
            obtain ⟨c', hc', rfl⟩ := sV_get hx
            rw [hc] at hc'
            cases hc'
            exact ⟨Same.refl _, rfl⟩
          · subst hs
            refine ⟨rfl, _, rfl, _, _, rfl, .inl (hla8.mono e9.n).sq, _, rfl, small ?_, fun T H10 nT e10 hT => ?_⟩
            · have := layAt_lens (List.mem_of_getElem? hl)
              simp
              omega
            · exact ky _ _ _ rfl e10 ⟨T, rfl, by rw [List.map_append]; exact hT⟩
          · rw [fm_some] at g4
            have hL9 := e9 _ _ hL8
            have l9 : ys9.length ≤ 5 := by rw [Paired.len g4, List.length_map]; exact hc5
            have l8 : lvs8.length ≤ 46656 * 6 + 1 := by
              rw [Paired.len p8, List.length_append, ← Paired.len pl6]
              have : (if (left cs l).length < places ds - i then [l ++ [none]] else []).length ≤ 1 := by split <;> simp
              omega
            have keep : Same H (upd H9 L (.lst (lvs8 ++ ys9))) := Same.but (Same.but (e6.trans e) nLH k8 |>.trans e9) nLH fun b o nb h => by rw [upd_ne nb]; exact h
            have kn : SameN H9 (upd H9 L (.lst (lvs8 ++ ys9))) := SameN.wr hL9
            refine ⟨_, _, _, _, rfl, rfl, hL9, g3, smM (by omega), ⟨_, _, _, rfl⟩, keep, ?_, ?_, _, upd_same, ?_⟩
            · rw [upd_ne hrL]
              exact e9 _ _ (k8 _ _ hrL (e _ _ hr6))
            · exact pmono (((e.n.trans e8).trans e9.n).trans kn) pr6
            · rw [take_succ_get hl, List.flatMap_append, List.flatMap_singleton]
              rw [show ext (places ds) cs i l = (if (left cs l).length < places ds - i then [l ++ [none]] else []) ++ (left cs l).map fun c => l ++ [some c] from rfl, ← List.append_assoc]
              exact pmono kn (Paired.app (pmono e9.n p8) g4)
      · obtain ⟨⟨j4, j5, j6, rfl⟩, e6, hr6, pr6, lv⟩ := p
        refine ⟨_, rfl, ⟨L, _, _, _, _, _, rfl, nLH, ?_⟩, e6⟩
        rw [Paired.len pr3, List.take_length] at lv
        exact lv
    · obtain ⟨⟨r, j1, j2, j3, j4, j5, rfl, nr, lv⟩, e3⟩ := p
      refine ⟨_, rfl, q _ _ e3 nr ?_⟩
      rw [Int.toNat_natCast] at lv
      exact lv
end
end CC

/-! text S2 -/
namespace CC
open PySem PySem.Spec PyProof.Rows L2
/-! ### sorted(layouts, key=rank) -/
def rankS (l : Lay) : List Str := l.map fun o => o.getD ""
def sortL (ls : List Lay) : List Lay := ls.mergeSort (PySem.W.dataLe false fun l => strsD (rankS l))
theorem rank_ne {l : Lay} (h : l ≠ []) : rankS l ≠ [] := fun z => h (List.map_eq_nil_iff.mp z)
section
open PySem.W PySem.Calls
variable {X : Cx} {pins : List (Addr × Obj)} {σ : L2.St} {H : Hp} {s : Shared} {n : Nat} {g : Addr} {sp : SpN} {Q : VK}
theorem sortK_list {l : Addr} {xs : List V} {ls : List Lay} (F : FnN X.prog X.w X.K X.mg X.base n g sp) (hr : Room (n + 2) X.A) (I : Inv X pins σ H s) (hl : SqL X.K H l xs) (hs : Paired (LayV H) xs ls) (hk : ∀ b ∈ ls, b ≠ [])
    (turn : ∀ H' x b, LayV H' x b → b ∈ ls → sp [x] H' fun v H2 => Same H' H2 ∧ KeyV X.K H2 v (rankS b)) (q : ∀ H' p, Same H H' → H p = none → LaysV H' p (sortL ls) → Q (.ref p) H') :
    wpAny (model X.prog X.w) X.A (call (.builtin "sorted") [.ref l] [(Str.ofString "key", .ref g)]) (EP X pins σ Q) X.xe s :=
  sortedI_run (k := rankS) (Src := LayV) F hr I hl hs (fun _ _ _ _ e h => h.mono e.n) (fun b hb => rank_ne (hk b hb)) (fun H' x b _ h hb => turn H' x b h hb) fun H' p ys e hp np pd => q H' p e np ⟨ys, hp, pd⟩
theorem paired_refs {H : Hp} : ∀ {xs : NKeys}, KeysV H xs → Paired (LayV H) (refs xs) (xs.map (·.1))
  | [], _ => .nil
  | x :: t, h => .cons ⟨x.2, rfl, h x List.mem_cons_self⟩ (paired_refs fun y hy => h y (List.mem_cons_of_mem _ hy))
theorem sortK_dict {d : Addr} {R : V → Prop} {xs : NKeys} (F : FnN X.prog X.w X.K X.mg X.base n g sp) (hr : Room (n + 2) X.A) (hc : X.calm = true) (I : Inv X pins σ H s) (hd : NAt X.prog X.w H R d xs) (hs : KeysV H xs) (hk : ∀ b ∈ xs.map (·.1), b ≠ [])
    (turn : ∀ H' x b, LayV H' x b → b ∈ xs.map (·.1) → sp [x] H' fun v H2 => Same H' H2 ∧ KeyV X.K H2 v (rankS b)) (q : ∀ H' p, Same H H' → H p = none → LaysV H' p (sortL (xs.map (·.1))) → Q (.ref p) H') :
    wpAny (model X.prog X.w) X.A (call (.builtin "sorted") [.ref d] [(Str.ofString "key", .ref g)]) (EP X pins σ Q) X.xe s := by
  obtain ⟨h1, es, ep, hraw, hsz, hz, he⟩ := nd_keys I hd
  have hr2 : Room n X.A.in1.in1 := (show Room (n + 1) X.A.in1 from hr.in1).in1
  refine call_function_entry_kw kind_sorted plain_sorted entry_sorted (ksk_s1 _ _) ?_
  unfold Builtin.«sorted»
  refine wpAny_bind (m := checkCount "sorted" 1 1 _) (wpAny_pure ?_)
  refine wpAny_bind (kdu_collect (A := X.A.in1) (KdlSrc.rawDict h1) (I.ok.hd hc) hraw (by omega) fun h' tk acc hkp hacc => ?_)
  have ea := coll_refs hsz he (acc := acc.toList) (by rw [Array.length_toList]; exact hacc.1) fun j v e => hacc.2 j v (by rw [← Array.getElem?_toList]; exact e)
  have I1 : Inv X pins σ H { s with heap := h', toks := tk } := I.kept hkp
  have rv : Vals (refs xs) acc.toList := by rw [ea]; exact vals_refs xs
  have hZ : acc.toList.length ≤ sizeLine := by rw [ea, List.length_map]; exact hz
  refine wpAny_bind (wpAny_newList ?_ hZ)
  have I2 : Inv X pins σ H { s with heap := h'.push { cls := .type "list", data := .seq acc.toList.toArray }, toks := tk } := I1.kept (t' := tk) fun b o e => Heap.get?_push_of_some _ e
  have le1 : h'.objs.size ≤ h'.objs.size := Nat.le_refl _
  have ho : (h'.push { cls := .type "list", data := .seq acc.toList.toArray }).get? h'.objs.size = some (seqObj "list" acc.toList.toArray 0) := Heap.get?_push_size _ rfl
  refine wpAny_bind (wpAny_holding (wpAny_call_entry_kw slot_list_sort ⟨_, ho, rfl⟩ entry_list_sort ?body (ksk_l1 _ _)))
  case body =>
    show wpAny (model X.prog X.w) X.A.in1.in1 (Builtin.«list.sort» ⟨[.ref h'.objs.size], [(Str.ofString "key", .ref g)]⟩) _ _ _
    rw [ksk_t1]
    refine keyI_tree (k := rankS) (Src := LayV) (bs := xs.map (·.1)) (s := { s with heap := h'.push { cls := .type "list", data := .seq acc.toList.toArray }, toks := tk }) F hr2 hr2.units (fun pins H s I => I.env0.in1.in1) I2 rv (paired_refs hs) (fun _ _ _ _ e h => h.mono e.n)
      (I1.fpOk le1 (I1.hok.fresh le1)) ho hZ (fun b hb => rank_ne (hk b hb)) (fun H' x b _ h hb => turn H' x b h hb) fun H' h2 tk2 gs d2 out c e' na I' fa' ho2 ko => ?_
    have hR : EachIs (fun v b => ∃ x, RelV x v ∧ LayV H x b) acc.toList (xs.map (·.1)) := by
      have : ∀ {ys : List V} {us : List Value} {bs : List Lay}, Vals ys us → Paired (LayV H) ys bs → EachIs (fun v b => ∃ x, RelV x v ∧ LayV H x b) us bs := fun {ys us bs} r p => by
        induction p generalizing us with
        | nil => cases r; exact .nil
        | cons q t ih =>
          cases r with
          | cons r1 r2 => exact .cons ⟨_, r1, q⟩ (ih r2)
      exact this rv (paired_refs hs)
    have hO := keyedOut_each (fun b => strsD (rankS b)) ko hR
    obtain ⟨ys, ry, py⟩ : ∃ ys, Vals ys out ∧ Paired (LayV H) ys (sortL (xs.map (·.1))) := by
      have : ∀ {us : List Value} {bs : List Lay}, EachIs (fun v b => ∃ x, RelV x v ∧ LayV H x b) us bs → ∃ ys, Vals ys us ∧ Paired (LayV H) ys bs := fun {us bs} e => by
        induction e with
        | nil => exact ⟨[], .nil, .nil⟩
        | cons q t ih =>
          obtain ⟨x, r, sx⟩ := q
          obtain ⟨ys, r2, p2⟩ := ih
          exact ⟨x :: ys, .cons r r2, .cons sx p2⟩
      exact this hO
    have ly : ys.length ≤ sizeLine := by
      rw [Paired.len py]
      unfold sortL
      rw [List.length_mergeSort, List.length_map]
      exact hz
    have I3 := Inv_track (ob := .lst ys) I' fa' ⟨ly, out, c, ry, ho2⟩
    have e2 : Same H (upd H' h'.objs.size (.lst ys)) := e'.trans (Same.new na)
    exact ⟨_, rfl, wpAny_pure ⟨_, rfl, .ref _, _, I3, rfl, q _ _ e2 (I1.hok.fresh le1) ⟨ys, upd_same, Paired.imp (fun _ _ h => h.mono e2.n) py⟩⟩⟩
end
section
variable {X : Cx} {j k : Nat} {x : Str} {spf : SpN} {e : Expr} {ta : TA} {p px kpos pos : Pos}
def rSortK (P : Program) (w : World) (K : PySem.W.Frag) (spf : SpN) (x : V) (H1 : Hp) (Q : VK) : Prop := ∃ (l : Addr) (ls : List Lay), x = .ref l ∧ ((∃ xs, SqL K H1 l xs ∧ Paired (LayV H1) xs ls) ∨ ∃ R ns, NAt P w H1 R l ns ∧ KeysV H1 ns ∧ ls = ns.map (·.1)) ∧ (∀ b ∈ ls, b ≠ []) ∧
  (∀ H' v b, LayV H' v b → b ∈ ls → spf [v] H' fun r H2 => Same H' H2 ∧ KeyV K H2 r (rankS b)) ∧ ∀ H' p, Same H1 H' → H1 p = none → LaysV H' p (sortL ls) → Q (.ref p) H'
def tSortK (P : Program) (w : World) (K : PySem.W.Frag) (spf : SpN) (ta : TA) : TE := fun σ H Q => ta σ H fun vs H1 => ∃ x, vs = [x] ∧ rSortK P w K spf x H1 Q
theorem pe_sortedK (c : Cal X.prog X.w X.K X.mg X.base k x spf) (hr : Room j X.A) (hk : k + 2 ≤ j) (hc : X.calm = true) (hgs : Gl X "sorted") (hms : X.mg "sorted" = none) (hgx : Gl X x) (ha : PA X [e] ta)
    (hdx : (x == ("__debug__" : Str)) = false := by decide) (hst : backTo pos (starEach [e] X.env) = (false, eval e X.env) :: backTo pos (starEach [] X.env) := by rfl) (hpl : (backTo pos (starEach [e] X.env)).any (·.1) = false := by rfl)
    (hall : (backToKw pos (keywordEach [⟨some "key", .Name x px, kpos⟩] X.env)).all (·.1.isSome) = true := by rfl) (hnone : (backToKw pos (keywordEach [⟨some "key", .Name x px, kpos⟩] X.env)).any (·.1.isNone) = false := by rfl) (hks : (backToKw pos (keywordEach [⟨some "key", .Name x px, kpos⟩] X.env)).filterMap (·.1) = [Str.ofString "key"] := by rfl) :
    PE X (.Call (.Name "sorted" p) [e] [⟨some "key", .Name x px, kpos⟩] pos) (tSortK X.prog X.w X.K spf ta) := by
  obtain ⟨f, fd, ps, F, hm, kp, b⟩ := c.ex
  have FN : FnN X.prog X.w X.K X.mg X.base k f spf := FnR.imp (F.raw b .nil) fun vs H Q E h => by rw [List.append_nil]; exact h
  refine ⟨fun pins s σ H Q I h => ?_⟩
  refine wpAny_Call_Name_kw (ld_blt I hgs hms (show bootBuiltins "sorted" = some (.builtin "sorted") by decide +kernel) ?_ (by decide) (by decide))
  refine PyProof.Rows.callWith_kw (thn (ha.run pos pins s σ H _ I h) fun us s1 ⟨vs, H1, I1, r1, q1⟩ =>
    thn ((pk_cons (nm := some "key") (kpos := kpos) (pe_glob (pos := px) hgx hm (show RelV (.ref f) (.ref f) from rfl) hdx) pk_nil).run pos pins s1 σ H1 (fun zs H2 => zs = [.ref f] ∧ H2 = H1) I1 ⟨rfl, rfl⟩) fun ws s2 ⟨zs, H2, I2, r2, e1, e2⟩ => ?_) hst hpl hall hnone
  rw [hks]
  subst e1 e2
  obtain ⟨w1, rfl, rw1⟩ := r2.one
  cases (show w1 = Value.ref f from rw1)
  obtain ⟨y, rfl, l, ls, rfl, hl, hne, turn, q⟩ := q1
  obtain ⟨u, rfl, ru⟩ := r1.one
  cases (show u = Value.ref l from ru)
  rcases hl with ⟨xs, hl, hp⟩ | ⟨R, ns, hd, hkv, rfl⟩
  · exact sortK_list FN (hr.mono hk) I2 hl hp hne turn q
  · exact sortK_dict FN (hr.mono hk) hc I2 hd hkv hne turn q
end
end CC

/-! text D5 -/
namespace CC
open PySem PySem.Spec PyProof.Rows L2
theorem bl_nt {c : Prop} [Decidable c] (h : ¬ c) : V.bl (!decide c) = V.bl true := congrArg V.bl (by rw [decide_eq_false h]; rfl)
theorem bl_nf {c : Prop} [Decidable c] (h : c) : V.bl (!decide c) = V.bl false := congrArg V.bl (by rw [decide_eq_true h]; rfl)
/-! ### sorted crates -/
def leC (a b : Str) : Prop := a.cps.toList ≤ b.cps.toList
theorem rising_pw : ∀ (p : Str) (l : List Str), risingS p l = true → (p :: l).Pairwise leC
  | p, [], _ => List.pairwise_singleton _ _
  | p, x :: r, h => by
    have h' : (!ltCps x.cps.toList p.cps.toList && risingS x r) = true := h
    rw [Bool.and_eq_true, Bool.not_eq_true', ltCps_eq, decide_eq_false_iff_not] at h'
    have ih := rising_pw x r h'.2
    have h1 : leC p x := List.not_lt.mp h'.1
    refine List.pairwise_cons.mpr ⟨fun y hy => ?_, ih⟩
    rcases List.mem_cons.mp hy with rfl | hy
    · exact h1
    · exact List.le_trans h1 (List.rel_of_pairwise_cons ih hy)
theorem sorted_pw : ∀ (l : List Str), sortedS l = true → l.Pairwise leC
  | [], _ => .nil
  | x :: r, h => rising_pw x r h
theorem chain_pw : ∀ (cs : List Str), (∀ (i : Nat) a b, cs[i]? = some a → cs[i + 1]? = some b → ltS a b = true) → cs.Pairwise leC ∧ cs.Nodup ∧ ∀ a b, cs.head? = some a → b ∈ cs.tail → a.cps.toList < b.cps.toList
  | [], _ => ⟨.nil, .nil, fun _ _ h => nomatch h⟩
  | [a], _ => ⟨List.pairwise_singleton _ _, List.pairwise_singleton _ _, fun _ _ _ h => nomatch h⟩
  | a :: b :: t, h => by
    have hab : a.cps.toList < b.cps.toList := of_decide_eq_true (h 0 a b rfl rfl)
    obtain ⟨p1, p2, p3⟩ := chain_pw (b :: t) fun i x y h1 h2 => h (i + 1) x y h1 h2
    have hlt : ∀ y ∈ b :: t, a.cps.toList < y.cps.toList := fun y hy => by
      rcases List.mem_cons.mp hy with rfl | hy
      · exact hab
      · exact List.lt_trans hab (p3 b y rfl hy)
    refine ⟨List.pairwise_cons.mpr ⟨fun y hy => List.le_of_lt (hlt y hy), p1⟩, List.nodup_cons.mpr ⟨fun hm => List.lt_irrefl _ (hlt a hm), p2⟩, fun x y e hy => ?_⟩
    cases e
    exact hlt y hy
theorem str_ext {x y : Str} (h : x.cps.toList = y.cps.toList) : x = y := by
  cases x; cases y
  congr 1
  exact Array.toList_inj.mp h
theorem sorted_is {cs ys : List Str} {n : Nat} (ok : OkCrates cs n) (hp : ys.Perm cs) (hs : sortedS ys = true) : ys = cs :=
  List.Perm.eq_of_pairwise (le := leC) (fun a b _ _ h1 h2 => str_ext (List.le_antisymm h1 h2)) (sorted_pw ys hs) (chain_pw cs ok.2.2.2.2).1 hp
theorem crates_nodup {cs : List Str} {n : Nat} (ok : OkCrates cs n) : cs.Nodup := (chain_pw cs ok.2.2.2.2).2.1
/-- what lies in a layout -/
def names (l : Lay) : List Str := l.filterMap id
/-- a layout of a store -/
def IsLay (n : Nat) (cs : List Str) (l : Lay) : Prop := l.length = n ∧ (names l).Perm cs
def seen (ds : List Door) (l : Lay) (d : Nat) : Lay := ((l.zip (edges ds)).filter fun p => decide (p.2 = d)).map (·.1)
theorem fm_filter_map {α β : Type} (p : α → Prop) [DecidablePred p] (f : α → β) (l : List α) : l.filterMap (fun a => if p a then some (f a) else none) = (l.filter (fun a => decide (p a))).map f := by
  induction l with
  | nil => rfl
  | cons a t ih =>
    by_cases h : p a
    · simp [h, ih]
    · simp [h, ih]
section
variable {P : Program} {w : World} {K : PySem.W.Frag} {mg : Str → Option Value} {base : Heap} {C : Addr}
def spRank (K : PySem.W.Frag) : SpN := fun vs H Q => ∃ v l, vs = [v] ∧ LayV H v l ∧ l.length ≤ 100 ∧ ∀ H' r, Same H H' → KeyV K H' r (rankS l) → Q r H'
abbrev s_rank : Stmt := topS 37
abbrev N_rank : List Str := ["layout", "name"]
theorem sc_rank : FnScope N_rank ["layout"] (defScope s_rank) := ⟨rfl, rfl, rfl, by decide +kernel, rfl, by decide +kernel, by decide +kernel⟩
-- cells: []; calls: []
theorem cal_rank (B : Base K mg) : Cal P w K mg base 1 "rank" (spRank K) := by
  refine B.d_rank.ok sc_rank (fun vs H Q h => ?_) (fun f cdv A outer s H vs Q E hr h => ?_)
  · obtain ⟨v, l, rfl, _⟩ := h
    rfl
  · obtain ⟨v, l, rfl, ⟨a, rfl, ht⟩, hl, q⟩ := h
    refine ⟨_, (pss_one (ps_ret (pe_callTy call_tupleF rfl B.f_tuple (by decide +kernel) (pa_cons (pe_lcX (own := [("name", 1)]) rfl sc_rank.nd (pi_tup (pv 0)) (blkOk_by (own := [("name", 1)]) (N := N_rank) (sc := defScope s_rank) (by decide +kernel)) (fun _ _ _ _ _ => (pg_name (i := 1) sc_rank.nd rfl (.inl rfl))) (fun _ _ _ _ _ => pts_nil) (fun _ _ _ _ _ => (pe_ifExp (pt_cmp (pc_isN (pv 1))) pe_str (pv 1)))) pa_nil)))
    ), ?_⟩
    refine ⟨_, rfl, _, rfl, ⟨_, ht.sq⟩, ?_⟩
    refine comp_it walk_tup l (fun o => some (o.getD "")) (fun _ v o => v = oV o) (fun _ v b => v = .str b) (fun _ _ _ _ _ h => h) (by rw [List.length_map]) (fun _ e => (ht.mono e.n).sq)
      (by rw [List.length_map]; omega) (fun i H1 x H' o ho hy e => ?_) (fun i o x H' Qy Qn ho e hs ky kn => ?_) (fun D H' ys hD e g1 g2 => ?_)
    · obtain ⟨rfl, hx⟩ := hy
      obtain ⟨o', ho', rfl⟩ := oV_get hx
      rw [ho] at ho'
      cases ho'
      exact ⟨Same.refl _, rfl⟩
    · subst hs
      cases o with
      | none => exact ⟨rfl, _, rfl, true, bl_t rfl, iteT (ky _ _ _ rfl (Same.refl _) rfl)⟩
      | some z => exact ⟨rfl, _, rfl, false, bl_f (fun h => nomatch h), iteF ⟨_, rfl, ky _ _ _ rfl (Same.refl _) rfl⟩⟩
    · rw [fm_some] at g2
      refine ⟨_, _, rfl, SqL.of g1, fun T H2 nT e2 hT => ?_⟩
      exact q _ _ (e.trans e2) ⟨T, rfl, by have := hT.sq (K := K); rwa [strs_of g2] at this⟩
def spInOrder (P : Program) (w : World) (K : PySem.W.Frag) : SpN := fun vs H Q => ∃ d R ns, vs = [.ref d] ∧ NAt P w H R d ns ∧ KeysV H ns ∧ (∀ b ∈ ns.map (·.1), b ≠ [] ∧ b.length ≤ 100) ∧ ∀ H' p, Same H H' → H p = none → LaysV H' p (sortL (ns.map (·.1))) → Q (.ref p) H'
abbrev s_in_order : Stmt := topS 38
abbrev N_in_order : List Str := ["some"]
theorem sc_in_order : FnScope N_in_order ["some"] (defScope s_in_order) := ⟨rfl, rfl, rfl, by decide +kernel, rfl, by decide +kernel, by decide +kernel⟩
-- cells: []; calls: []
theorem cal_in_order (B : Base K mg) : Cal P w K mg base 4 "in_order" (spInOrder P w K) := by
  refine B.d_in_order.ok sc_in_order (fun vs H Q h => ?_) (fun f cdv A outer s H vs Q E hr h => ?_)
  · obtain ⟨d, R, ns, rfl, _⟩ := h
    rfl
  · obtain ⟨d, R, ns, rfl, hd, hk, hb, q⟩ := h
    refine ⟨_, (pss_one (ps_ret (pe_sortedK (cal_rank B) hr (by decide) rfl rfl B.f_sorted rfl (pa_cons (pv 0) pa_nil)))
    ), ?_⟩
    exact ⟨_, rfl, _, rfl, d, _, rfl, .inr ⟨R, ns, hd, hk, rfl⟩, fun b h => (hb b h).1, fun H' v b hv hm => ⟨v, b, rfl, hv, (hb b hm).2, fun H2 r e2 kv => ⟨e2, kv⟩⟩, q⟩
def spSeen (K : PySem.W.Frag) (C : Addr) : SpN := fun vs H Q => ∃ a ds cs v l d, vs = [.ref a, v, nV d] ∧ StoreAt K C H a ds cs ∧ LayV H v l ∧ l.length = places ds ∧ ∀ H' r, Same H H' → LayV H' r (seen ds l d) → Q r H'
abbrev s_seen_behind : Stmt := topS 36
abbrev N_seen_behind : List Str := ["store", "layout", "door", "name", "edge"]
theorem sc_seen_behind : FnScope N_seen_behind ["store", "layout", "door"] (defScope s_seen_behind) := ⟨rfl, rfl, rfl, by decide +kernel, rfl, by decide +kernel, by decide +kernel⟩
-- cells: ['door']; calls: []
theorem cal_seen_behind (B : Base K mg) (S : StoreB K mg C) : Cal P w K mg base 2 "seen_behind" (spSeen K C) := by
  refine B.d_seen_behind.ok sc_seen_behind (fun vs H Q h => ?_) (fun f cdv A outer s H vs Q E hr h => ?_)
  · obtain ⟨a, ds, cs, v, l, d, rfl, _⟩ := h
    rfl
  · obtain ⟨a, ds, cs, v, l, d, rfl, sa, ⟨b, rfl, ht⟩, hl, q⟩ := h
    obtain ⟨p2, sl2⟩ := S.edges
    obtain ⟨ok, dx, ea, p, P', d', c, h1, h2, rfl, h4, h5, h6⟩ := id sa
    have n6 : places ds ≤ 6 := places_le ok.1
    have he : (edges ds).length = places ds := edges_len ds
    refine ⟨_, (pss_one (ps_ret (pe_callTy call_tupleF rfl B.f_tuple (by decide +kernel) (pa_cons (pe_lcX (own := [("name", 3), ("edge", 4)]) rfl sc_seen_behind.nd (RZ.pi_zipA rfl B.f_zip (pa_cons (pv 1) (pa_cons (SlX.pe_sl (pv 0)) pa_nil))) (blkOk_by (own := [("name", 3), ("edge", 4)]) (N := N_seen_behind) (sc := defScope s_seen_behind) (by decide +kernel)) (fun _ _ _ _ _ => (pg_tup rfl (pgs_cons (pg_name (i := 3) sc_seen_behind.nd rfl (.inl rfl)) (pgs_cons (pg_name (i := 4) sc_seen_behind.nd rfl (.inl rfl)) pgs_nil)))) (fun _ _ _ _ _ => (pts_one (pt_cmpR op_eq (pv 4) (pv 2) (nomark _)))) (fun _ _ _ _ _ => (pv 3))) pa_nil)))
    ), ?_⟩
    refine ⟨_, rfl, _, rfl, _, _, _, _, _, _, _, rfl, h1, S.cls, sl2, rfl, _, _, _, _, rfl, .inr ⟨ht.sq, h2, ?_⟩⟩
    refine comp_it (walk_zipT (n := places ds) (by rw [List.length_map, List.length_map, hl, he, Nat.min_self])) (l.zip (edges ds)) (fun p => if p.2 = d then some p.1 else none) (fun H v p => PairV K H v (oV p.1) (nV p.2)) (fun _ v b => v = oV b) (fun _ _ _ _ _ h => h) (by rw [List.length_zip, hl, he, Nat.min_self])
      (fun _ e => ⟨(ht.mono e.n).sq, e.tup h2⟩) (by omega) (fun i H1 x H' j hj hy e => ?_) (fun i j x H' Qy Qn hj e hs ky kn => ?_) (fun D H' ys hD e g1 g2 => ?_)
    · obtain ⟨a1, b1, k1, k2, e1, hp1⟩ := pair_of (K := K) hy
      obtain ⟨o, ho, rfl⟩ := oV_get k1
      obtain ⟨n, hn, rfl⟩ := nV_get k2
      rw [List.getElem?_zip_eq_some] at hj
      rw [ho, hn] at hj
      cases hj.1
      cases hj.2
      exact ⟨e1, hp1⟩
    · obtain ⟨T, rfl, hT⟩ := hs
      refine ⟨_, _, rfl, hT, rfl, _, _, rfl, _, _, rfl, rfl, rfl, _, rfl, _, rfl, rfl, ?_⟩
      by_cases hnd : j.2 = d
      · exact ⟨true, bl_t (by rw [hnd]), iteT ⟨_, rfl, ky _ _ _ (if_pos hnd) (Same.refl _) rfl⟩⟩
      · exact ⟨false, bl_f (nV_ne hnd), iteF (kn (if_neg hnd) _ (Same.refl _))⟩
    · rw [fm_filter_map] at g2
      refine ⟨_, _, rfl, SqL.of g1, fun T H2 nT e2 hT => ?_⟩
      exact q _ _ (e.trans e2) ⟨T, rfl, by rwa [lay_of g2] at hT⟩
def spIsLayout (K : PySem.W.Frag) (C : Addr) : SpN := fun vs H Q => ∃ a ds cs v l, vs = [.ref a, v] ∧ StoreAt K C H a ds cs ∧ LayV H v l ∧ IsLay (places ds) cs l ∧ ∀ H', Same H H' → Q (.bl true) H'
abbrev s_is_layout : Stmt := topS 34
abbrev N_is_layout : List Str := ["store", "value", "name"]
theorem sc_is_layout : FnScope N_is_layout ["store", "value"] (defScope s_is_layout) := ⟨rfl, rfl, rfl, by decide +kernel, rfl, by decide +kernel, by decide +kernel⟩
-- cells: []; calls: []
theorem cal_is_layout (B : Base K mg) (S : StoreB K mg C) : Cal P w K mg base 3 "is_layout" (spIsLayout K C) := by
  refine B.d_is_layout.ok sc_is_layout (fun vs H Q h => ?_) (fun f cdv A outer s H vs Q E hr h => ?_)
  · obtain ⟨a, ds, cs, v, l, rfl, _⟩ := h
    rfl
  · obtain ⟨a, ds, cs, v, l, rfl, sa, ⟨b, rfl, ht⟩, ⟨hl, hp⟩, q⟩ := h
    have n6 : places ds ≤ 6 := places_le sa.1.1
    obtain ⟨dx, ws, ha⟩ := sa.slt
    refine ⟨_, (pss_cons (ps_if (PW.pt (pw_or (pt_not (pt_val (pe_callB call_isi rfl B.f_isinstance (by decide +kernel) (pa_cons (pv 1) (pa_cons (pe_bltn (v := .ty "tuple") rfl B.f_tuple (by decide +kernel) rfl) pa_nil))))) (pw_or1 (pt_cmpR op_ne (pe_callB call_len rfl B.f_len boot_len (pa_cons (pv 1) pa_nil)) (pe_prN (prp_Store_size B S) S.cls hr (by decide) (pv 0)) (nomark _))))) (
        (pss_one (ps_ret pe_bl)
        )) (pss_nil))
    (pss_cons (ps_if (pt_not (pt_val (pe_callB (cr_all rfl) rfl B.f_all (by decide +kernel) (pa_cons (pe_lcX (own := [("name", 2)]) rfl sc_is_layout.nd (pi_tup (pv 1)) (blkOk_by (own := [("name", 2)]) (N := N_is_layout) (sc := defScope s_is_layout) (by decide +kernel)) (fun _ _ _ _ _ => (pg_name (i := 2) sc_is_layout.nd rfl (.inl rfl))) (fun _ _ _ _ _ => pts_nil) (fun _ _ _ _ _ => (pe_or (pe_cmp (pc_isN (pv 2))) (pe_one (pe_callB call_isi rfl B.f_isinstance (by decide +kernel) (pa_cons (pv 2) (pa_cons (pe_bltn (v := .ty "str") rfl B.f_str (by decide +kernel) rfl) pa_nil))))))) pa_nil)))) (
        (pss_one (ps_ret pe_bl)
        )) (pss_nil))
    (pss_one (ps_ret (pe_cmpR (op_eqD hr.units) (pe_callTy call_tupleF rfl B.f_tuple (by decide +kernel) (pa_cons (pe_callB cr_sortedS rfl B.f_sorted (by decide +kernel) (pa_cons (pe_lcX (own := [("name", 2)]) rfl sc_is_layout.nd (pi_tup (pv 1)) (blkOk_by (own := [("name", 2)]) (N := N_is_layout) (sc := defScope s_is_layout) (by decide +kernel)) (fun _ _ _ _ _ => (pg_name (i := 2) sc_is_layout.nd rfl (.inl rfl))) (fun _ _ _ _ _ => (pts_one (pt_cmp (pc_notN (pv 2))))) (fun _ _ _ _ _ => (pv 2))) pa_nil)) pa_nil)) (pe_prN (prp_Store_crates B S) S.cls hr (by decide) (pv 0)) (nomark _)))
    ))), ?_⟩
    refine ⟨_, rfl, _, _, _, _, _, rfl, .ty _, tyX_tup ht.sq, kit_tup_tup, _, rfl, ?_⟩
    refine iteF ⟨_, rfl, _, _, rfl, .inr ⟨_, ht.sq, rfl⟩, _, rfl, _, _, _, rfl, ha, _, _, _, rfl, sa, rfl, false, bl_nf (by rw [List.length_map, hl]; rfl), ?_⟩
    refine iteF ⟨_, rfl, _, rfl, ⟨_, ht.sq⟩, ?_⟩
    refine comp_it walk_tup l (fun o => some true) (fun _ v o => v = oV o) (fun _ v b => v = .bl b) (fun _ _ _ _ _ h => h) (by rw [List.length_map]) (fun _ e => (ht.mono e.n).sq)
      (by rw [List.length_map]; omega) (fun i H1 x H' o ho hy e => ?_) (fun i o x H' Qy Qn ho e hs ky kn => ?_) (fun D H' ys hD e g1 g2 => ?_)
    · obtain ⟨rfl, hx⟩ := hy
      obtain ⟨o', ho', rfl⟩ := oV_get hx
      rw [ho] at ho'
      cases ho'
      exact ⟨Same.refl _, rfl⟩
    · subst hs
      cases o with
      | none => exact ⟨rfl, _, rfl, true, bl_t rfl, iteT (ky _ _ _ rfl (Same.refl _) rfl)⟩
      | some z => exact ⟨rfl, _, rfl, false, bl_f (fun h => nomatch h), iteF ⟨_, rfl, _, _, _, _, _, rfl, .ty _, .base (.str z), kit_str_str, ky _ _ _ rfl (Same.refl _) rfl⟩⟩
    · rw [fm_some] at g2
      refine ⟨_, _, rfl, SqL.of (by rw [g1, bls_of g2]), ?_⟩
      rw [all_true (fun _ _ => rfl)]
      refine ⟨_, rfl, iteF ⟨_, rfl, _, rfl, ⟨_, (ht.mono e.n).sq⟩, ?_⟩⟩
      refine comp_it walk_tup l id (fun _ v o => v = oV o) (fun _ v b => v = .str b) (fun _ _ _ _ _ h => h) (by rw [List.length_map]) (fun _ e2 => (ht.mono (e.trans e2).n).sq)
        (by rw [List.length_map]; omega) (fun i H1 x H' o ho hy e => ?_) (fun i o x H' Qy Qn ho e hs ky kn => ?_) (fun D2 H2 ys2 hD2 e2 g3 g4 => ?_)
      · obtain ⟨rfl, hx⟩ := hy
        obtain ⟨o', ho', rfl⟩ := oV_get hx
        rw [ho] at ho'
        cases ho'
        exact ⟨Same.refl _, rfl⟩
      · subst hs
        cases o with
        | none => exact ⟨rfl, _, rfl, false, bl_nf rfl, iteF (kn rfl _ (Same.refl _))⟩
        | some z => exact ⟨rfl, _, rfl, true, bl_nt (fun h => nomatch h), iteT ⟨_, rfl, ky _ _ _ rfl (Same.refl _) rfl⟩⟩
      · have hc5 : (names l).length ≤ 5 := by rw [hp.length_eq]; exact sa.1.2.2.1
        refine ⟨_, names l, rfl, SqL.of (by rw [g3, strs_of g4]; rfl), by omega, fun zs p hz hs np => ?_⟩
        have ez : zs = cs := sorted_is sa.1.2 (hz.trans hp) hs
        subst ez
        generalize hh : upd H2 p _ = H3
        obtain ⟨e3, hP⟩ := upH hh np
        clear hh
        refine ⟨_, _, rfl, SqL.of hP, fun T H4 nT e4 hT => ?_⟩
        have e04 := ((e.trans e2).trans e3).trans e4
        have okz : NmOk (zs.map some) := fun z hz => by
          obtain ⟨y, hy, e⟩ := List.mem_map.mp hz
          cases e
          exact word_ok (sa.1.2.2.2.2.1 z hy)
        have em : zs.map V.str = (zs.map some).map oV := by rw [List.map_map]; rfl
        refine ⟨_, rfl, _, _, _, rfl, slt_mono e04.n ha, _, _, _, rfl, sa.mono e04.n, fun c hc => ?_⟩
        refine rEq_lay (l := zs.map some) (m := zs.map some) (by rw [← em]; exact hT.sq) (by rw [← em]; exact hc) okz okz ?_
        rw [decide_eq_true rfl]
        exact q _ e04
def spCheckLayout (K : PySem.W.Frag) (C : Addr) : SpN := fun vs H Q => ∃ a ds cs v l, vs = [.ref a, v] ∧ StoreAt K C H a ds cs ∧ LayV H v l ∧ IsLay (places ds) cs l ∧ ∀ H', Same H H' → Q .non H'
abbrev s_check_layout : Stmt := topS 35
abbrev N_check_layout : List Str := ["store", "layout"]
theorem sc_check_layout : FnScope N_check_layout ["store", "layout"] (defScope s_check_layout) := ⟨rfl, rfl, rfl, by decide +kernel, rfl, by decide +kernel, by decide +kernel⟩
-- cells: []; calls: ['is_layout']
theorem cal_check_layout (B : Base K mg) (S : StoreB K mg C) : Cal P w K mg base 4 "check_layout" (spCheckLayout K C) := by
  refine B.d_check_layout.ok sc_check_layout (fun vs H Q h => ?_) (fun f cdv A outer s H vs Q E hr h => ?_)
  · obtain ⟨a, ds, cs, v, l, rfl, _⟩ := h
    rfl
  · obtain ⟨a, ds, cs, v, l, rfl, sa, hv, hl, q⟩ := h
    refine ⟨_, (pss_one (ps_if (pt_not (pt_val (pe_c (cal_is_layout B S) hr (by decide) rfl (pa_cons (pv 0) (pa_cons (pv 1) pa_nil))))) (
        (pss_one ps_never
        )) (pss_nil))
    ), ?_⟩
    exact ⟨_, rfl, _, rfl, a, ds, cs, v, l, rfl, sa, hv, hl, fun H' e => ⟨_, rfl, iteF (q _ e)⟩⟩
end
end CC

/-! text D6 -/
namespace CC
open PySem PySem.Spec PyProof.Rows L2
/-! ### deeds -/
inductive Deed where
  | move (z : Str) | near (z : Str) | swap (a b : Str) | shuffle (d : Nat)
def Deed.items : Deed → List V
  | .move z => [.str "move", .str z]
  | .near z => [.str "near", .str z]
  | .swap a b => [.str "swap", .str a, .str b]
  | .shuffle d => [.str "shuffle", nV d]
def DeedV (K : PySem.W.Frag) (H : Hp) (v : V) (e : Deed) : Prop := ∃ a, v = .ref a ∧ SqT K H a e.items
theorem DeedV.mono {K : PySem.W.Frag} {H H' : Hp} {v : V} {d : Deed} (e : SameN H H') (h : DeedV K H v d) : DeedV K H' v d := by
  obtain ⟨a, rfl, h⟩ := h
  exact ⟨a, rfl, e.tup h⟩
def OkDeed (ds : List Door) (cs : List Str) : Deed → Prop
  | .move z => z ∈ cs
  | .near z => z ∈ cs
  | .swap a b => a ∈ cs ∧ b ∈ cs ∧ a ≠ b
  | .shuffle d => d < ds.length
theorem strs_flat (l : List Str) : (l.map V.str).all flatV = true := List.all_eq_true.mpr fun v hv => by
  obtain ⟨z, _, rfl⟩ := List.mem_map.mp hv
  rfl
theorem inV_str (z : Str) (l : List Str) : inV (.str z) (l.map V.str) = decide (z ∈ l) := by
  unfold inV
  rw [List.any_map]
  by_cases h : z ∈ l
  · rw [decide_eq_true h]
    exact List.any_eq_true.mpr ⟨z, h, by show (z == z) = true; exact beq_self_eq_true z⟩
  · rw [decide_eq_false h]
    refine List.any_eq_false.mpr fun x hx => ?_
    show ¬ (x == z) = true
    exact fun q => h (beq_iff_eq.mp q ▸ hx)
def Deed.ok : Deed → Prop
  | .move z => PyData.strOk z = true
  | .near z => PyData.strOk z = true
  | .swap a b => PyData.strOk a = true ∧ PyData.strOk b = true
  | .shuffle _ => True
theorem OkDeed.ok {ds : List Door} {cs : List Str} {e : Deed} (h : OkDeed ds cs e) (w : ∀ c ∈ cs, IsWord c) : e.ok := by
  cases e with
  | move z => exact word_ok (w z h)
  | near z => exact word_ok (w z h)
  | swap a b => exact ⟨word_ok (w a h.1), word_ok (w b h.2.1)⟩
  | shuffle d => trivial
theorem sh1 {d : PyData} {ds : List PyData} {n : Nat} (h : Sh n d) (t : ∀ x ∈ ds, Sh n x) : ∀ x ∈ d :: ds, Sh n x := fun x hx => by
  rcases List.mem_cons.mp hx with rfl | hx
  · exact h
  · exact t x hx
theorem sh0 {n : Nat} : ∀ x ∈ ([] : List PyData), Sh n x := fun _ h => nomatch h
theorem deed_unit {K : PySem.W.Frag} {H : Hp} {a b : Addr} {e : Deed} {Q : VK} (ok : e.ok) (h : SqT K H a e.items) (h2 : SqT K H b []) (q : Q (.bl false) H) : rEqD K (.ref a) (.ref b) H Q := by
  have s0 : ∀ {z : Str}, PyData.strOk z = true → Sh 0 (.str z) := fun h => Sh.str h
  have fin : ∀ {xs : List V}, xs ≠ [] → Q (.bl (decide (xs = []))) H := fun hx => by rw [decide_eq_false hx]; exact q
  cases e with
  | move z => exact rEq_unit _ 0 (by decide) h h2 (.cons (.str _) (.cons (.str _) .nil)) (sh1 (s0 (by decide +kernel)) (sh1 (s0 ok) sh0)) (fin (fun z => nomatch z))
  | near z => exact rEq_unit _ 0 (by decide) h h2 (.cons (.str _) (.cons (.str _) .nil)) (sh1 (s0 (by decide +kernel)) (sh1 (s0 ok) sh0)) (fin (fun z => nomatch z))
  | swap x y => exact rEq_unit _ 0 (by decide) h h2 (.cons (.str _) (.cons (.str _) (.cons (.str _) .nil))) (sh1 (s0 (by decide +kernel)) (sh1 (s0 ok.1) (sh1 (s0 ok.2) sh0))) (fin (fun z => nomatch z))
  | shuffle d => exact rEq_unit _ 0 (by decide) h h2 (.cons (.str _) (.cons (.int _) .nil)) (sh1 (s0 (by decide +kernel)) (sh1 (Sh.int _) sh0)) (fin (fun z => nomatch z))
theorem nV_lit : ∀ n : Nat, nV n = .int (n : Int) := fun _ => rfl
section
variable {P : Program} {w : World} {K : PySem.W.Frag} {mg : Str → Option Value} {base : Heap} {C : Addr}
def spIsCrate (K : PySem.W.Frag) (C : Addr) : SpN := fun vs H Q => ∃ a ds cs z, vs = [.ref a, .str z] ∧ StoreAt K C H a ds cs ∧ z ∈ cs ∧ Q (.bl true) H
abbrev s_is_crate : Stmt := topS 44
abbrev N_is_crate : List Str := ["store", "value"]
theorem sc_is_crate : FnScope N_is_crate ["store", "value"] (defScope s_is_crate) := ⟨rfl, rfl, rfl, by decide +kernel, rfl, by decide +kernel, by decide +kernel⟩
-- cells: []; calls: []
theorem cal_is_crate (B : Base K mg) (S : StoreB K mg C) : Cal P w K mg base 3 "is_crate" (spIsCrate K C) := by
  refine B.d_is_crate.ok sc_is_crate (fun vs H Q h => ?_) (fun f cdv A outer s H vs Q E hr h => ?_)
  · obtain ⟨a, ds, cs, z, rfl, _⟩ := h
    rfl
  · obtain ⟨a, ds, cs, z, rfl, sa, hz, q⟩ := h
    obtain ⟨dx, ws, ha⟩ := sa.slt
    refine ⟨_, (pss_one (ps_ret (pe_and (pe_callB call_isi rfl B.f_isinstance (by decide +kernel) (pa_cons (pv 1) (pa_cons (pe_bltn (v := .ty "str") rfl B.f_str (by decide +kernel) rfl) pa_nil))) (pe_one (pe_cmpR op_in_seq (pv 1) (pe_prN (prp_Store_crates B S) S.cls hr (by decide) (pv 0)) rfl))))
    ), ?_⟩
    refine ⟨_, rfl, _, _, _, _, _, rfl, .ty _, .base (.str z), kit_str_str, _, rfl, iteT ?_⟩
    refine ⟨_, rfl, _, rfl, _, _, _, rfl, ha, _, _, _, rfl, sa, fun c hc => ⟨_, _, rfl, .inr hc, rfl, strs_flat cs, ?_⟩⟩
    exact qb Q (by rw [inV_str, decide_eq_true hz]; rfl) q
def spIsDeed (K : PySem.W.Frag) (C : Addr) : SpN := fun vs H Q => ∃ a ds cs v e, vs = [.ref a, v] ∧ StoreAt K C H a ds cs ∧ DeedV K H v e ∧ OkDeed ds cs e ∧ ∀ H', Same H H' → Q (.bl true) H'
abbrev s_is_deed : Stmt := topS 45
abbrev N_is_deed : List Str := ["store", "deed", "word", "rest", "name"]
theorem sc_is_deed : FnScope N_is_deed ["store", "deed"] (defScope s_is_deed) := ⟨rfl, rfl, rfl, by decide +kernel, rfl, by decide +kernel, by decide +kernel⟩
-- cells: ['store']; calls: ['is_crate', 'is_number']
theorem cal_is_deed (B : Base K mg) (S : StoreB K mg C) : Cal P w K mg base 4 "is_deed" (spIsDeed K C) := by
  refine B.d_is_deed.ok sc_is_deed (fun vs H Q h => ?_) (fun f cdv A outer s H vs Q E hr h => ?_)
  · obtain ⟨a, ds, cs, v, e, rfl, _⟩ := h
    rfl
  · obtain ⟨a, ds, cs, v, e, rfl, sa, ⟨b, rfl, ht⟩, ok, q⟩ := h
    obtain ⟨dx, ws, ha⟩ := sa.slt
    have okc := sa.1.2.2.2.2.1
    refine ⟨_, (pss_cons (ps_if (PW.pt (pw_or (pt_not (pt_val (pe_callB call_isi rfl B.f_isinstance (by decide +kernel) (pa_cons (pv 1) (pa_cons (pe_bltn (v := .ty "tuple") rfl B.f_tuple (by decide +kernel) rfl) pa_nil))))) (pw_or1 (pt_cmpR (op_eqD hr.units) (pv 1) (pe_tupF pa_nil) (nomark _))))) (
        (pss_one (ps_ret pe_bl)
        )) (pss_nil))
    (pss_cons (ps_asg (pv 1) (pg_star rfl (pgs_cons (pg_name (i := 2) sc_is_deed.nd rfl (.inl rfl)) (pgs_star (pg_name (i := 3) sc_is_deed.nd rfl (.inl rfl)) pgs_nil))))
    (pss_cons (ps_if (pt_cmpR op_in_seq (pv 2) (pe_tupF (pa_cons (pe_gc rfl B.g_MOVE) (pa_cons (pe_gc rfl B.g_NEAR) pa_nil))) rfl) (
        (pss_one (ps_ret (pe_and (pe_cmpR op_eq (pe_callB call_len rfl B.f_len boot_len (pa_cons (pv 3) pa_nil)) pe_int (nomark _)) (pe_one (pe_c (cal_is_crate B S) hr (by decide) rfl (pa_cons (pv 0) (pa_cons (pe_ix ix_list (pv 3) pe_int (fun _ _ => rfl)) pa_nil))))))
        )) (pss_nil))
    (pss_cons (ps_if (pt_cmpR op_eq (pv 2) (pe_gc rfl B.g_SWAP) (nomark _)) (
        (pss_one (ps_ret (pe_and (pe_cmpR op_eq (pe_callB call_len rfl B.f_len boot_len (pa_cons (pv 3) pa_nil)) pe_int (nomark _)) (pe_and (pe_callB (cr_all rfl) rfl B.f_all (by decide +kernel) (pa_cons (pe_lcX (own := [("name", 4)]) rfl sc_is_deed.nd (pi_list (pv 3)) (blkOk_by (own := [("name", 4)]) (N := N_is_deed) (sc := defScope s_is_deed) (by decide +kernel)) (fun _ _ _ _ _ => (pg_name (i := 4) sc_is_deed.nd rfl (.inl rfl))) (fun _ _ _ _ _ => pts_nil) (fun _ _ _ _ _ => (pe_c (cal_is_crate B S) hr (by decide) rfl (pa_cons (pv 0) (pa_cons (pv 4) pa_nil))))) pa_nil)) (pe_one (pe_cmpR op_ne (pe_ix ix_list (pv 3) pe_int (fun _ _ => rfl)) (pe_ix ix_list (pv 3) pe_int (fun _ _ => rfl)) (nomark _))))))
        )) (pss_nil))
    (pss_one (ps_ret (pe_and (pe_cmpR op_eq (pv 2) (pe_gc rfl B.g_SHUFFLE) (nomark _)) (pe_and (pe_cmpR op_eq (pe_callB call_len rfl B.f_len boot_len (pa_cons (pv 3) pa_nil)) pe_int (nomark _)) (pe_one (pe_c (cal_is_number B) hr (by decide) rfl (pa_cons (pe_ix ix_list (pv 3) pe_int (fun _ _ => rfl)) (pa_cons pe_int (pa_cons (pe_op op_sub (pe_callB (call_lenN (met_Store___len__ B S) hr (by decide)) rfl B.f_len boot_len (pa_cons (pv 0) pa_nil)) pe_int) pa_nil))))))))
    ))))), ?_⟩
    refine ⟨_, rfl, _, _, _, _, _, rfl, .ty _, tyX_tup ht, kit_tup_tup, _, rfl, ?_⟩
    refine iteF ⟨_, rfl, small (by simp), fun T H1 nT e1 hT => ?_⟩
    refine deed_unit (ok.ok okc) (e1.tup ht) hT.sq ⟨_, rfl, iteF ?_⟩
    cases e with
    | move z =>
      refine ⟨_, rfl, b, .str "move", [.str z], rfl, e1.tup ht, by simp, fun D H2 nD e2 hD => ⟨_, _, rfl, _, _, rfl, rfl, ?_⟩⟩
      refine ⟨_, rfl, small (by simp), fun T2 H3 nT2 e3 hT2 => ?_⟩
      refine ⟨T2, [.str "move", .str "near"], rfl, .inr hT2.sq, rfl, rfl, true, rfl, iteT ?_⟩
      have e13 := (e1.trans e2).trans e3
      refine ⟨_, rfl, _, _, rfl, .inl ⟨_, SqL.of (e3 _ _ hD), rfl⟩, rfl, true, rfl, iteT ?_⟩
      exact ⟨_, rfl, _, rfl, _, _, _, _, rfl, rfl, SqL.of (e3 _ _ hD), rfl, a, ds, cs, z, rfl, sa.mono e13.n, ok, q _ e13⟩
    | near z =>
      refine ⟨_, rfl, b, .str "near", [.str z], rfl, e1.tup ht, by simp, fun D H2 nD e2 hD => ⟨_, _, rfl, _, _, rfl, rfl, ?_⟩⟩
      refine ⟨_, rfl, small (by simp), fun T2 H3 nT2 e3 hT2 => ?_⟩
      refine ⟨T2, [.str "move", .str "near"], rfl, .inr hT2.sq, rfl, rfl, true, rfl, iteT ?_⟩
      have e13 := (e1.trans e2).trans e3
      refine ⟨_, rfl, _, _, rfl, .inl ⟨_, SqL.of (e3 _ _ hD), rfl⟩, rfl, true, rfl, iteT ?_⟩
      exact ⟨_, rfl, _, rfl, _, _, _, _, rfl, rfl, SqL.of (e3 _ _ hD), rfl, a, ds, cs, z, rfl, sa.mono e13.n, ok, q _ e13⟩
    | swap x y =>
      refine ⟨_, rfl, b, .str "swap", [.str x, .str y], rfl, e1.tup ht, by simp, fun D H2 nD e2 hD => ⟨_, _, rfl, _, _, rfl, rfl, ?_⟩⟩
      refine ⟨_, rfl, small (by simp), fun T2 H3 nT2 e3 hT2 => ?_⟩
      refine ⟨T2, [.str "move", .str "near"], rfl, .inr hT2.sq, rfl, rfl, false, rfl, iteF ?_⟩
      refine ⟨_, rfl, rfl, true, rfl, iteT ?_⟩
      have e13 := (e1.trans e2).trans e3
      refine ⟨_, rfl, _, _, rfl, .inl ⟨_, SqL.of (e3 _ _ hD), rfl⟩, rfl, true, rfl, iteT ?_⟩
      have hR := e3 _ _ hD
      refine ⟨_, rfl, _, rfl, ⟨_, SqL.of hR⟩, ?_⟩
      refine comp_it walk_list [x, y] (fun c => some true) (fun _ v c => v = .str c) (fun _ v b => v = .bl b) (fun _ _ _ _ _ h => h) rfl (fun _ e => SqL.of (e _ _ hR))
        (by simp) (fun i H1 x H' c hc hy e => ?_) (fun i c x H' Qy Qn hc e hs ky kn => ?_) (fun D H' ys hD e g1 g2 => ?_)
      · obtain ⟨rfl, hx⟩ := hy
        obtain ⟨c', hc', rfl⟩ := sV_get (l := [_, _]) hx
        rw [hc] at hc'
        cases hc'
        exact ⟨Same.refl _, rfl⟩
      · subst hs
        have hm : c ∈ cs := by
          rcases List.mem_cons.mp (List.mem_of_getElem? hc) with rfl | h
          · exact ok.1
          · rw [List.mem_singleton.mp h]; exact ok.2.1
        exact ⟨rfl, _, rfl, _, rfl, a, ds, cs, c, rfl, sa.mono (e13.trans e).n, hm, ky _ _ _ rfl (Same.refl _) rfl⟩
      · rw [fm_some] at g2
        refine ⟨_, _, rfl, SqL.of (by rw [g1, bls_of g2]), ?_⟩
        rw [all_true (fun _ _ => rfl)]
        refine ⟨_, rfl, iteT ⟨_, rfl, _, _, _, _, rfl, rfl, SqL.of (e _ _ hR), rfl, _, rfl, _, _, _, _, rfl, rfl, SqL.of (e _ _ hR), rfl, rfl, ?_⟩⟩
        exact qb Q (by rw [decide_eq_false (fun z => ok.2.2 (V.str.inj z))]; rfl) (q _ (e13.trans e))
    | shuffle d =>
      refine ⟨_, rfl, b, .str "shuffle", [nV d], rfl, e1.tup ht, by simp, fun D H2 nD e2 hD => ⟨_, _, rfl, _, _, rfl, rfl, ?_⟩⟩
      refine ⟨_, rfl, small (by simp), fun T2 H3 nT2 e3 hT2 => ?_⟩
      refine ⟨T2, [.str "move", .str "near"], rfl, .inr hT2.sq, rfl, rfl, false, rfl, iteF ?_⟩
      refine ⟨_, rfl, rfl, false, rfl, iteF ?_⟩
      have e13 := (e1.trans e2).trans e3
      refine ⟨_, rfl, rfl, _, rfl, iteT ?_⟩
      refine ⟨_, rfl, _, _, rfl, .inl ⟨_, SqL.of (e3 _ _ hD), rfl⟩, rfl, _, rfl, iteT ?_⟩
      refine ⟨_, rfl, _, _, _, _, rfl, rfl, SqL.of (e3 _ _ hD), rfl, _, rfl, a, dx, ws, rfl, slt_mono e13.n ha, ⟨a, ds, cs, rfl, sa.mono e13.n, _, rfl, ?_, _, _, rfl, rfl, _, _, _, rfl, ?_⟩⟩
      · have := sa.1.1.2.1
        omega
      · have hd : d < ds.length := ok
        exact qb Q (by rw [decide_eq_true (show (0 : Int) ≤ ((d : Nat) : Int) by omega), decide_eq_true (show ((d : Nat) : Int) ≤ ((ds.length : Nat) : Int) - 1 by omega)]; rfl) (q _ e13)
end
end CC

/-! text D7 -/
namespace CC
open PySem PySem.Spec PyProof.Rows L2
theorem ixN_nat {n j : Nat} (h : j < n) : ixN n ((j : Nat) : Int) = some j := by
  unfold ixN
  rw [if_pos (by omega), if_pos (by omega), Int.toNat_natCast]
/-! ### what deeds do -/
def swapL (l : Lay) (i j : Nat) : Lay := (l.set i (l.getD j none)).set j (l.getD i none)
theorem getD_get {l : Lay} {i : Nat} (h : i < l.length) : l[i]? = some (l.getD i none) := by
  rw [List.getD_eq_getElem?_getD, List.getElem?_eq_getElem h]
  rfl
def idxOf (l : Lay) (z : Str) : Nat := l.idxOf (some z)
def AfterR (ds : List Door) (l : Lay) : Deed → Lay → Prop
  | .swap a b, m => m = swapL l (idxOf l a) (idxOf l b)
  | .move z, m => ∃ k, l[k]? = some none ∧ m = swapL l (idxOf l z) k
  | .near z, m => ∃ k, l[k]? = some none ∧ (k = idxOf l z + 1 ∨ idxOf l z = k + 1) ∧ m = swapL l (idxOf l z) k
  | .shuffle d, m => m.length = l.length ∧ (∀ i : Nat, (edges ds)[i]? ≠ some d → m[i]? = l[i]?) ∧ m.Perm l
theorem idx_get {l : Lay} {z : Str} (h : some z ∈ l) : l[idxOf l z]? = some (some z) ∧ ∀ m z', m < idxOf l z → l[m]? = some z' → z' ≠ some z := by
  unfold idxOf
  have hlt := List.idxOf_lt_length_of_mem h
  refine ⟨by rw [List.getElem?_eq_getElem hlt, List.getElem_idxOf hlt], fun m z' hm hz e => ?_⟩
  subst e
  have h1 := (List.getElem?_eq_some_iff.mp hz)
  obtain ⟨h1, h2⟩ := h1
  have q := List.not_of_lt_findIdx (p := fun x => x == some z) (xs := l) (show m < l.findIdx _ from hm)
  rw [h2] at q
  simp at q
def putC (l : Lay) (h : Nat) (b : Bool) (k : Nat) : Bool := decide (l[k]? = some none) && (!b || decide (k = h + 1 ∨ h = k + 1))
def putsL (l : Lay) (h : Nat) (b : Bool) (i : Nat) : List Lay := ((List.range i).filter (putC l h b)).map (swapL l h)
theorem putsL_succ (l : Lay) (h : Nat) (b : Bool) (i : Nat) : putsL l h b (i + 1) = putsL l h b i ++ if putC l h b i = true then [swapL l h i] else [] := by
  unfold putsL
  rw [List.range_succ, List.filter_append, List.map_append]
  by_cases c : putC l h b i = true
  · rw [if_pos c, List.filter_cons_of_pos c]; rfl
  · rw [if_neg c, List.filter_cons_of_neg c]; rfl
theorem putsL_len (l : Lay) (h : Nat) (b : Bool) (i : Nat) : (putsL l h b i).length ≤ i := by
  unfold putsL
  rw [List.length_map]
  exact Nat.le_trans (List.length_filter_le _ _) (Nat.le_of_eq List.length_range)
theorem putsL_mem {ds : List Door} {l m : Lay} {z : Str} {b : Bool} : m ∈ putsL l (idxOf l z) b l.length ↔ AfterR ds l (if b then .near z else .move z) m := by
  unfold putsL
  rw [List.mem_map]
  constructor
  · rintro ⟨k, hk, rfl⟩
    obtain ⟨_, hc⟩ := List.mem_filter.mp hk
    unfold putC at hc
    rw [Bool.and_eq_true, decide_eq_true_eq] at hc
    cases b with
    | false => exact ⟨k, hc.1, rfl⟩
    | true =>
      have h2 := hc.2
      rw [Bool.not_true, Bool.false_or, decide_eq_true_eq] at h2
      exact ⟨k, hc.1, h2, rfl⟩
  · cases b with
    | false =>
      rintro ⟨k, hk, rfl⟩
      refine ⟨k, List.mem_filter.mpr ⟨List.mem_range.mpr (List.getElem?_eq_some_iff.mp hk).1, ?_⟩, rfl⟩
      unfold putC
      rw [decide_eq_true hk]
      rfl
    | true =>
      rintro ⟨k, hk, h2, rfl⟩
      refine ⟨k, List.mem_filter.mpr ⟨List.mem_range.mpr (List.getElem?_eq_some_iff.mp hk).1, ?_⟩, rfl⟩
      unfold putC
      rw [decide_eq_true hk, decide_eq_true h2]
      rfl
section
variable {P : Program} {w : World} {K : PySem.W.Frag} {mg : Str → Option Value} {base : Heap} {C : Addr}
def spExchanged : SpN := fun vs H Q => ∃ v l i j, vs = [v, nV i, nV j] ∧ LayV H v l ∧ i < l.length ∧ j < l.length ∧ ∀ H' r, Same H H' → LayV H' r (swapL l i j) → Q r H'
abbrev s_exchanged : Stmt := topS 46
abbrev N_exchanged : List Str := ["layout", "one", "other", "found"]
theorem sc_exchanged : FnScope N_exchanged ["layout", "one", "other"] (defScope s_exchanged) := ⟨rfl, rfl, rfl, by decide +kernel, rfl, by decide +kernel, by decide +kernel⟩
-- cells: []; calls: []
theorem cal_exchanged (B : Base K mg) : Cal P w K mg base 1 "exchanged" spExchanged := by
  refine B.d_exchanged.ok sc_exchanged (fun vs H Q h => ?_) (fun f cdv A outer s H vs Q E hr h => ?_)
  · obtain ⟨v, l, i, j, rfl, _⟩ := h
    rfl
  · obtain ⟨v, l, i, j, rfl, ⟨a, rfl, ht⟩, hi, hj, q⟩ := h
    refine ⟨_, (pss_cons (ps_set (i := 3) sc_exchanged.nd rfl (.inl rfl) (pe_callTy call_listN rfl B.f_list (by decide +kernel) (pa_cons (pv 0) pa_nil)))
    (pss_cons (ps_asg (pe_tupF (pa_cons (pe_ix ix_list (pv 3) (pv 2) (fun _ _ => rfl)) (pa_cons (pe_ix ix_list (pv 3) (pv 1) (fun _ _ => rfl)) pa_nil))) (pg_tup rfl (pgs_cons (pg_sub (pv 3) (pv 1) set_list) (pgs_cons (pg_sub (pv 3) (pv 2) set_list) pgs_nil))))
    (pss_one (ps_ret (pe_callTy call_tupleF rfl B.f_tuple (by decide +kernel) (pa_cons (pv 3) pa_nil)))
    ))), ?_⟩
    refine ⟨_, rfl, _, _, rfl, .inr ht.sq, fun L H1 nL e1 hL => ?_⟩
    have gi := map_get (f := oV) (getD_get hi)
    have gj := map_get (f := oV) (getD_get hj)
    refine ⟨_, rfl, _, rfl, _, _, _, _, rfl, rfl, SqL.of hL, atI_nat gj, _, rfl, _, rfl, _, _, _, _, rfl, rfl, SqL.of hL, atI_nat gi, small (by simp), fun T H2 nT e2 hT => ?_⟩
    refine ⟨_, _, rfl, hT.sq, rfl, _, _, rfl, _, rfl, _, rfl, _, _, _, _, rfl, rfl, e2 _ _ hL, ixN_nat (by rw [List.length_map]; exact hi), ?_⟩
    refine ⟨_, _, rfl, _, rfl, _, rfl, _, _, _, _, rfl, rfl, upd_same, ixN_nat (by rw [List.length_set, List.length_map]; exact hj), rfl, ?_⟩
    refine ⟨_, rfl, _, _, rfl, SqL.of upd_same, fun T3 H3 nT3 e3 hT3 => ?_⟩
    have e03 : Same H H3 := Same.trans (((e1.trans e2).mut nL).mut nL) e3
    refine q _ _ e03 ⟨T3, rfl, ?_⟩
    unfold swapL
    rw [List.map_set, List.map_set]
    exact hT3
def spPut (K : PySem.W.Frag) (C : Addr) : SpN := fun vs H Q => ∃ s0 v l z b, vs = [s0, v, .str z, .bl b] ∧ LayV H v l ∧ l.length ≤ 6 ∧ some z ∈ l ∧ ∀ H' r ls, Same H H' → H r = none → LaysV H' r ls → ls.length ≤ 6 → (∀ m, m ∈ ls ↔ AfterR [] l (if b then .near z else .move z) m) → Q (.ref r) H'
abbrev s_put_elsewhere : Stmt := topS 47
abbrev N_put_elsewhere : List Str := ["store", "layout", "name", "is_near", "here", "found", "place", "other"]
theorem sc_put_elsewhere : FnScope N_put_elsewhere ["store", "layout", "name", "is_near"] (defScope s_put_elsewhere) := ⟨rfl, rfl, rfl, by decide +kernel, rfl, by decide +kernel, by decide +kernel⟩
-- cells: []; calls: ['exchanged']
theorem cal_put_elsewhere (B : Base K mg) (S : StoreB K mg C) : Cal P w K mg base 2 "put_elsewhere" (spPut K C) := by
  refine B.d_put_elsewhere.ok sc_put_elsewhere (fun vs H Q h => ?_) (fun f cdv A outer s H vs Q E hr h => ?_)
  · obtain ⟨s0, v, l, z, b, rfl, _⟩ := h
    rfl
  · obtain ⟨s0, v, l, z, b, rfl, ⟨a, rfl, ht⟩, hl, hz, q⟩ := h
    obtain ⟨g1, g2⟩ := idx_get hz
    refine ⟨_, (pss_cons (ps_set (i := 4) sc_put_elsewhere.nd rfl (.inl rfl) (pe_tm PySem.F.slot_tuple_index PySem.F.type_tuple_index mt_tidx (pv 1) (pa_cons (pv 2) pa_nil)))
    (pss_cons (ps_set (i := 5) sc_put_elsewhere.nd rfl (.inl rfl) (pe_lstN pa_nil))
    (pss_cons (ps_for PassesOwn.never rfl (pi_enumT rfl B.f_enumerate (pa_cons (pv 1) pa_nil)) (pg_tup rfl (pgs_cons (pg_name (i := 6) sc_put_elsewhere.nd rfl (.inl rfl)) (pgs_cons (pg_name (i := 7) sc_put_elsewhere.nd rfl (.inl rfl)) pgs_nil))) (
        (pss_one (ps_if (PW.pt (pw_and (pt_cmp (pc_isN (pv 7))) (pw_and1 (PW.pt (pw_or (pt_not (pt_val (pv 3))) (pw_or1 (pt_cmpR op_eq (pe_callB call_abs rfl B.f_abs (by decide +kernel) (pa_cons (pe_op op_sub (pv 6) (pv 4)) pa_nil)) pe_int (nomark _)))))))) (
            (pss_one (ps_expr (pe_bm PySem.F.plainAttrs_list PySem.F.slot_list_append PySem.F.type_list_append mt_append (pv 5) (pa_cons (pe_c (cal_exchanged B) hr (by decide) rfl (pa_cons (pv 1) (pa_cons (pv 4) (pa_cons (pv 6) pa_nil)))) pa_nil)))
            )) (pss_nil))
        )))
    (pss_one (ps_ret (pv 5))
    )))), ?_⟩
    have hno : ∀ m z', m < idxOf l z → (l.map oV)[m]? = some z' → eqV z' (.str z) = false := fun m z' hm hz' => by
      obtain ⟨o, ho, rfl⟩ := oV_get hz'
      rw [show V.str z = oV (some z) from rfl, eqV_oV]
      exact decide_eq_false (g2 m o hm ho)
    refine ⟨_, rfl, ⟨_, _, rfl, ht⟩, _, rfl, _, _, _, _, _, rfl, rfl, ht.sq, rfl, flat_oV l, map_get g1, by show (z == z) = true; exact beq_self_eq_true z, hno, ?_⟩
    refine ⟨small (by simp), fun L H1 nL e1 hL => ?_⟩
    refine ⟨_, rfl, a, _, rfl, (ht.mono e1.n).sq, ?_⟩
    have hll : (l.map oV).length = l.length := List.length_map ..
    have ih : idxOf l z < l.length := (List.getElem?_eq_some_iff.mp g1).1
    refine for_it walk_enumT (fun i σ H2 => (∃ j1 j2, σ = [some s0, some (.ref a), some (.str z), some (.bl b), some (nV (idxOf l z)), some (.ref L), j1, j2]) ∧ Same H H2 ∧ LaysV H2 L (putsL l (idxOf l z) b i)) ?_ (fun i σ H2 hi p => (ht.mono p.2.1.n).sq) (fun i y σ H2 H3 hi p hy => ?_) (fun σ H2 p => ?_)
    · exact ⟨⟨_, _, rfl⟩, e1, _, hL, .nil⟩
    · obtain ⟨⟨j1, j2, rfl⟩, e2, lvs, hL2, pl2⟩ := p
      obtain ⟨a1, b1, k1, k2, e3, T, rfl, hT⟩ := pair_of (K := K) hy
      cases k1
      obtain ⟨o, ho, rfl⟩ := oV_get k2
      have hL3 := e3 _ _ hL2
      have pl3 := pmono e3.n pl2
      have e23 := e2.trans e3
      have hi' : i < l.length := (List.getElem?_eq_some_iff.mp ho).1
      refine ⟨_, _, rfl, hT, rfl, _, _, rfl, _, _, rfl, rfl, _, rfl, _, rfl, ?_⟩
      have no : putC l (idxOf l z) b i = false → Same H H3 ∧ LaysV H3 L (putsL l (idxOf l z) b (i + 1)) := fun c => ⟨e23, lvs, hL3, by rw [putsL_succ, if_neg (by rw [c]; exact Bool.false_ne_true), List.append_nil]; exact pl3⟩
      have yes : putC l (idxOf l z) b i = true → ∀ H4 r, Same H3 H4 → LayV H4 r (swapL l (idxOf l z) i) → Same H (upd H4 L (.lst (lvs ++ [r]))) ∧ LaysV (upd H4 L (.lst (lvs ++ [r]))) L (putsL l (idxOf l z) b (i + 1)) := fun c H4 r e4 hr => by
        refine ⟨(e23.trans e4).mut nL, _, upd_same, ?_⟩
        rw [putsL_succ, if_pos c]
        exact pmono (SameN.wr (e4 _ _ hL3)) (Paired.snoc (pmono e4.n pl3) hr)
      cases o with
      | some x =>
        have c : putC l (idxOf l z) b i = false := by unfold putC; rw [ho]; rfl
        refine iteF ?_
        exact ⟨⟨_, _, rfl⟩, no c⟩
      | none =>
        have hll6 : lvs.length ≤ 6 := by
          rw [Paired.len pl2]
          exact Nat.le_trans (putsL_len _ _ _ _) (by omega)
        cases b with
        | false =>
          have c : putC l (idxOf l z) false i = true := by unfold putC; rw [ho]; rfl
          refine iteT ⟨_, rfl, _, rfl, iteT (iteT ?_)⟩
          exact ⟨_, rfl, .inl ⟨rfl, _, SqL.of hL3⟩, _, rfl, _, rfl, _, rfl, .ref a, l, _, i, rfl, ⟨a, rfl, ht.mono e23.n⟩, ih, hi', fun H4 r e4 hr => ⟨_, _, _, rfl, rfl, e4 _ _ hL3, small' (by omega), ⟨_, _, rfl⟩, yes c H4 r e4 hr⟩⟩
        | true =>
          refine iteT ⟨_, rfl, _, rfl, iteF ?_⟩
          refine ⟨_, rfl, _, rfl, _, _, rfl, rfl, _, rfl, rfl, ?_⟩
          by_cases h2 : i = idxOf l z + 1 ∨ idxOf l z = i + 1
          · have c : putC l (idxOf l z) true i = true := by unfold putC; rw [ho, decide_eq_true h2]; rfl
            refine ⟨true, bl_t ?_, iteT ?_⟩
            · refine congrArg V.int ?_
              split <;> omega
            · exact ⟨_, rfl, .inl ⟨rfl, _, SqL.of hL3⟩, _, rfl, _, rfl, _, rfl, .ref a, l, _, i, rfl, ⟨a, rfl, ht.mono e23.n⟩, ih, hi', fun H4 r e4 hr => ⟨_, _, _, rfl, rfl, e4 _ _ hL3, small' (by omega), ⟨_, _, rfl⟩, yes c H4 r e4 hr⟩⟩
          · have c : putC l (idxOf l z) true i = false := by unfold putC; rw [decide_eq_false h2, Bool.not_true, Bool.false_or, Bool.and_false]
            refine ⟨false, bl_f ?_, iteF ?_⟩
            · refine fun z => ?_
              have z2 := V.int.inj z
              split at z2 <;> omega
            · exact ⟨⟨_, _, rfl⟩, no c⟩
    · obtain ⟨⟨j1, j2, rfl⟩, e2, lv⟩ := p
      rw [hll] at lv
      exact ⟨_, rfl, q _ _ _ e2 nL lv (Nat.le_trans (putsL_len _ _ _ _) hl) fun m => putsL_mem⟩
end
end CC

/-! text D8 -/
namespace CC
open PySem PySem.Spec PyProof.Rows L2
/-! ### all orders of some things -/
theorem cut_to {l : Lay} {k : Nat} (h : k ≤ l.length) : cutV (l.map oV) none (some ((k : Nat) : Int)) = (l.take k).map oV := by
  unfold cutV
  rw [HT.sIx_none, HT.sIx_nat, List.length_map, Nat.min_eq_left h, List.drop_zero, Nat.sub_zero, List.map_take]
theorem cut_from {l : Lay} {k : Nat} (h : k ≤ l.length) : cutV (l.map oV) (some ((k : Nat) : Int)) none = (l.drop k).map oV := by
  unfold cutV
  rw [HT.sIx_none, HT.sIx_nat, List.length_map, Nat.min_eq_left h, List.map_drop, List.take_of_length_le (by rw [List.length_drop, List.length_map]; omega)]
theorem cut_mid {l : Lay} {i j : Nat} (h : i ≤ j) (hj : j ≤ l.length) : cutV (l.map oV) (some ((i : Nat) : Int)) (some ((j : Nat) : Int)) = ((l.drop i).take (j - i)).map oV := by
  unfold cutV
  rw [HT.sIx_nat, HT.sIx_nat, List.length_map, Nat.min_eq_left (show i ≤ l.length by omega), Nat.min_eq_left hj, ← List.map_drop, ← List.map_take]
theorem perm_erase {α : Type} : ∀ {l : List α} {k : Nat} (h : k < l.length), (l[k] :: l.eraseIdx k).Perm l
  | x :: t, 0, _ => List.Perm.refl _
  | x :: t, k + 1, h => by
    have hk : k < t.length := by simpa using h
    have ih := perm_erase (l := t) (k := k) hk
    rw [List.eraseIdx_cons_succ, List.getElem_cons_succ]
    exact (List.Perm.swap x t[k] (t.eraseIdx k)).trans (List.Perm.cons x ih)
theorem TupF.byk {P : Program} {w : World} {R : V → Prop} {H H' : Hp} {d a : Addr} {xs : List V} {ns : NKeys} (hd : H d = some (NDo P w R d ns)) (k : ∀ b o, b ≠ d → H b = some o → H' b = some o) (h : TupF H a xs) : TupF H' a xs := by
  obtain ⟨o, ho, hn⟩ := h
  refine ⟨o, k _ _ (fun z => ?_) ho, hn⟩
  rw [z, hd] at ho
  unfold NDo at ho
  cases ho
theorem SqT.byk {K : PySem.W.Frag} {P : Program} {w : World} {R : V → Prop} {H H' : Hp} {d a : Addr} {xs : List V} {ns : NKeys} (hd : H d = some (NDo P w R d ns)) (k : ∀ b o, b ≠ d → H b = some o → H' b = some o) (h : SqT K H a xs) : SqT K H' a xs := by
  have ne : ∀ {o : HO}, H a = some o → (∀ φ, o ≠ .ext φ) → a ≠ d := fun h n z => by
    rw [z, hd] at h
    exact n _ (Option.some.inj h).symm
  rcases h with (h | ⟨o, h⟩) | h
  · exact .inl (.inl (k _ _ (ne h (fun _ z => nomatch z)) h))
  · exact .inl (.inr ⟨o, k _ _ (ne h (fun _ z => nomatch z)) h⟩)
  · exact .inr h
theorem putN_mem {xs : NKeys} {l m : Lay} {a : Addr} : m ∈ (putN xs l a).map (·.1) ↔ m ∈ xs.map (·.1) ∨ m = l := by
  rw [putN_keys]
  split
  · rename_i h
    exact ⟨.inl, fun q => q.elim id fun e => e ▸ h⟩
  · rw [List.mem_append, List.mem_singleton]
theorem putN_len {xs : NKeys} {l : Lay} {a : Addr} : (putN xs l a).length ≤ xs.length + 1 := by
  unfold putN
  split
  · omega
  · rw [List.length_append, List.length_singleton]; omega
theorem putN_keysV {H : Hp} {xs : NKeys} {l : Lay} {a : Addr} (h : KeysV H xs) (ha : TupF H a (l.map oV)) : KeysV H (putN xs l a) := fun x hx => by
  unfold putN at hx
  split at hx
  · exact h x hx
  · rcases List.mem_append.mp hx with hx | hx
    · exact h x hx
    · rw [List.mem_singleton.mp hx]; exact ha
/-- the orders that begin with one of the first i -/
def OrdR (l : Lay) (i : Nat) (m : Lay) : Prop := ∃ k, k < i ∧ ∃ x, l[k]? = some x ∧ ∃ r, r.Perm (l.eraseIdx k) ∧ m = x :: r
theorem ord_all {l m : Lay} (h : l ≠ []) : OrdR l l.length m ↔ m.Perm l := by
  constructor
  · rintro ⟨k, hk, x, hx, r, hr, rfl⟩
    have e : (x :: l.eraseIdx k).Perm l := by
      obtain ⟨h1, h2⟩ := List.getElem?_eq_some_iff.mp hx
      subst h2
      exact perm_erase h1
    exact (List.Perm.cons x hr).trans e
  · intro hm
    cases m with
    | nil => exact absurd (List.nil_perm.mp hm) h
    | cons x r =>
      have hx : x ∈ l := hm.subset List.mem_cons_self
      obtain ⟨k, hk, e⟩ := List.getElem_of_mem hx
      refine ⟨k, hk, x, by rw [List.getElem?_eq_getElem hk, e], r, ?_, rfl⟩
      have e2 : (x :: l.eraseIdx k).Perm l := by
        subst e
        exact perm_erase hk
      exact (List.Perm.cons_inv (hm.trans e2.symm))
theorem erase_len {l : Lay} {k : Nat} (h : k < l.length) : (l.eraseIdx k).length = l.length - 1 := List.length_eraseIdx_of_lt h
section
variable {P : Program} {w : World} {K : PySem.W.Frag} {mg : Str → Option Value} {base : Heap} {C : Addr}
def spOrders (K : PySem.W.Frag) (n : Nat) : SpN := fun vs H Q => ∃ a l, vs = [.ref a] ∧ SqT K H a (l.map oV) ∧ l.length < n ∧ l.length ≤ 6 ∧ NmOk l ∧ ∀ H' r ls, Same H H' → H r = none → LaysV H' r ls → ls.length ≤ 6 ^ l.length → (∀ m, m ∈ ls ↔ m.Perm l) → Q (.ref r) H'
abbrev s_orders_of : Stmt := topS 48
abbrev N_orders_of : List Str := ["things", "found", "place", "thing", "rest", "row"]
theorem sc_orders_of : FnScope N_orders_of ["things"] (defScope s_orders_of) := ⟨rfl, rfl, rfl, by decide +kernel, rfl, by decide +kernel, by decide +kernel⟩
-- cells: []; calls: ['orders_of']
theorem cal_orders (B : Base K mg) : ∀ n, Cal P w K mg base (n + 1) "orders_of" (spOrders K n)
  | 0 => B.d_orders_of.ok sc_orders_of (fun vs H Q h => by obtain ⟨a, l, _, _, h0, _⟩ := h; omega) (fun f cdv A outer s H vs Q E hr h => by obtain ⟨a, l, _, _, h0, _⟩ := h; omega)
  | n + 1 => by
    have ih := cal_orders B n
    refine B.d_orders_of.ok sc_orders_of (fun vs H Q h => ?_) (fun f cdv A outer s H vs Q E hr h => ?_)
    · obtain ⟨a, l, rfl, _⟩ := h
      rfl
    · obtain ⟨a, l, rfl, ht, hn, h6, ok, q⟩ := h
      refine ⟨_, (pss_cons (ps_if (pt_cmpR (op_eqD hr.units) (pv 0) (pe_tupF pa_nil) (nomark _)) (
        (pss_one (ps_ret (pe_lstN (pa_cons (pe_tupF pa_nil) pa_nil)))
        )) (pss_nil))
    (pss_cons (ps_set (i := 1) sc_orders_of.nd rfl (.inl rfl) pe_dnewN)
    (pss_cons (ps_for PassesOwn.never rfl (pi_enumT rfl B.f_enumerate (pa_cons (pv 0) pa_nil)) (pg_tup rfl (pgs_cons (pg_name (i := 2) sc_orders_of.nd rfl (.inl rfl)) (pgs_cons (pg_name (i := 3) sc_orders_of.nd rfl (.inl rfl)) pgs_nil))) (
        (pss_one (ps_for PassesOwn.never rfl (pi_list (pe_c ih hr (Nat.le_refl _) rfl (pa_cons (pe_op op_catS (pe_slice sl_tupS (pv 0) po_none (po_some (pv 2))) (pe_slice sl_tupS (pv 0) (po_some (pe_op op_add (pv 2) pe_int)) po_none)) pa_nil))) (pg_name (i := 4) sc_orders_of.nd rfl (.inl rfl)) (
            (pss_cons (ps_set (i := 5) sc_orders_of.nd rfl (.inl rfl) (pe_tupF (pa_cons (pv 3) (StX.pa_star (pv 4) pa_nil))))
            (pss_one (ps_asg pe_bl (pg_sub (pv 1) (pv 5) (set_N hr)))
            ))))
        )))
    (pss_one (ps_ret (pe_callTy (cr_listN rfl) rfl B.f_list (by decide +kernel) (pa_cons (pv 1) pa_nil)))
    )))), ?_⟩
      refine ⟨_, rfl, small (by simp), fun T H1 nT e1 hT => ?_⟩
      refine rEq_lay (l := l) (m := []) (e1.tup ht) hT.sq ok (fun _ h => nomatch h) ⟨_, rfl, ite2 (fun hl => ?_) (fun hl => ?_)⟩
      · have hl := of_decide_eq_true hl
        subst hl
        refine ⟨small (by simp), fun T2 H2 nT2 e2 hT2 => ⟨small (by simp), fun L H3 nL e3 hL => ?_⟩⟩
        exact q _ _ [[]] ((e1.trans e2).trans e3) (e1.free (e2.free nL)) ⟨_, hL, .cons ⟨T2, rfl, hT2.mono e3.n⟩ .nil⟩ (by decide) fun m => by rw [List.mem_singleton, List.perm_nil]
      · have hl : l ≠ [] := fun z => hl (decide_eq_true z)
        refine ⟨fun v => v = .bl true, fun d H2 nd e2 hd => ?_⟩
        have e12 := e1.trans e2
        have ndH : H d = none := e1.free nd
        refine ⟨_, rfl, a, _, rfl, e12.tup ht, ?_⟩
        have hll : (l.map oV).length = l.length := List.length_map ..
        refine for_it walk_enumT (fun i σ H3 => (∃ j2 j3 j4 j5, σ = [some (.ref a), some (.ref d), j2, j3, j4, j5]) ∧ Same H H3 ∧ ∃ xs : NKeys, H3 d = some (NDo P w (fun v => v = .bl true) d xs) ∧ KeysV H3 xs ∧ xs.length ≤ i * 6 ^ (l.length - 1) ∧ ∀ m, m ∈ xs.map (·.1) ↔ OrdR l i m) ?_
          (fun i σ H3 hi p => p.2.1.tup ht) (fun i y σ H3 H4 hi p hy => ?_) (fun σ H3 p => ?_)
        · refine ⟨⟨_, _, _, _, rfl⟩, e12, [], hd, fun _ h => (nomatch h), Nat.zero_le _, fun m => ⟨fun h => (nomatch h), ?_⟩⟩
          rintro ⟨k, hk, _⟩
          omega
        · obtain ⟨⟨j2, j3, j4, j5, rfl⟩, e3, xs, hd3, hk3, hx3, hm3⟩ := p
          obtain ⟨a1, b1, k1, k2, e4, T4, rfl, hT4⟩ := pair_of (K := K) hy
          cases k1
          obtain ⟨o, ho, rfl⟩ := oV_get k2
          have hi' : i < l.length := (List.getElem?_eq_some_iff.mp ho).1
          refine ⟨_, _, rfl, hT4, rfl, _, _, rfl, _, _, rfl, rfl, ?_⟩
          have ht4 := (e3.trans e4).tup ht
          refine ⟨_, rfl, _, rfl, _, rfl, _, _, rfl, ht4, fun p1 H5 e5 h5 => ⟨_, rfl, _, rfl, _, _, rfl, rfl, _, rfl, _, _, rfl, e5.tup ht4, fun p2 H6 e6 h6 => ?_⟩⟩
          rw [cut_to (Nat.le_of_lt hi')] at h5
          rw [show ((i : Nat) : Int) + 1 = ((i + 1 : Nat) : Int) by omega, cut_from hi'] at h6
          refine ⟨_, _, _, _, rfl, rfl, e6.tup h5, h6, small ?_, fun p3 H7 e7 h7 => ?_⟩
          · rw [List.length_map, List.length_map, List.length_take, List.length_drop]
            omega
          rw [← List.map_append, ← List.eraseIdx_eq_take_drop_succ] at h7
          have hel := erase_len hi'
          refine ⟨_, _, rfl, h7, by omega, by omega, fun z hz => ok z (List.mem_of_mem_eraseIdx hz), fun H8 r ls e8 nr hls hln hmem => ?_⟩
          obtain ⟨rvs, hr8, pr8⟩ := hls
          have e48 : Same H4 H8 := ((e5.trans e6).trans e7).trans e8
          have e38 : Same H3 H8 := e4.trans e48
          refine ⟨_, rfl, ⟨_, SqL.of hr8⟩, ?_⟩
          have hdr : d ≠ r := fun z => by
            have := ((e4.trans e5).trans (e6.trans e7)) _ _ hd3
            rw [z, nr] at this
            cases this
          rw [hel] at hln
          have hx36 : i * 6 ^ (l.length - 1) + 6 ^ (l.length - 1) = (i + 1) * 6 ^ (l.length - 1) := by rw [Nat.succ_mul]
          have h65 : 6 ^ (l.length - 1) ≤ 7776 := Nat.pow_le_pow_right (n := 6) (by decide) (show l.length - 1 ≤ 5 by omega)
          have hi7 : i * 6 ^ (l.length - 1) ≤ 6 * 7776 := Nat.mul_le_mul (by omega) h65
          refine for_it walk_list (fun j σ H9 => (∃ j4 j5, σ = [some (.ref a), some (.ref d), some (nV i), some (oV o), j4, j5]) ∧ Same H H9 ∧ H9 r = some (.lst rvs) ∧ Paired (LayV H9) rvs ls ∧ ∃ xs : NKeys, H9 d = some (NDo P w (fun v => v = .bl true) d xs) ∧ KeysV H9 xs ∧ xs.length ≤ i * 6 ^ (l.length - 1) + j ∧
            ∀ m, m ∈ xs.map (·.1) ↔ OrdR l i m ∨ ∃ t ∈ ls.take j, m = o :: t) ?_ (fun j σ H9 _ p => SqL.of p.2.2.1) (fun j y σ H10 H9 hj p hy => ?_) (fun σ H9 p => ?_)
          · refine ⟨⟨_, _, rfl⟩, e3.trans e38, hr8, pr8, xs, e38 _ _ hd3, hk3.mono e38.n, by omega, fun m => ?_⟩
            rw [hm3 m, List.take_zero]
            exact ⟨.inl, fun h => h.elim id fun ⟨t, ht, _⟩ => nomatch ht⟩
          · obtain ⟨⟨j4, j5, rfl⟩, e9, hr9, pr9, xs9, hd9, hk9, hx9, hm9⟩ := p
            obtain ⟨rfl, hy⟩ := hy
            obtain ⟨t, htl, ⟨ta, rfl, hta⟩⟩ := Paired.get1 pr9 hy
            have hjl : j < ls.length := (List.getElem?_eq_some_iff.mp htl).1
            have tl : t.length = l.length - 1 := by
              have := ((hmem t).mp (List.mem_of_getElem? htl)).length_eq
              omega
            refine ⟨_, rfl, _, rfl, _, _, rfl, .inl hta.sq, small ?_, fun T5 H11 nT5 e11 hT5 => ?_⟩
            · simp
              omega
            rw [List.append_nil] at hT5
            have hk11 := hk9.mono e11.n
            refine ⟨_, rfl, _, rfl, _, d, T5, xs9, o :: t, rfl, rfl, e11 _ _ hd9, hk11, hT5, rfl, Nat.lt_of_le_of_lt (Nat.le_trans hx9 (show _ ≤ 60000 by omega)) (by decide), fun H12 k12 hd12 => ?_⟩
            have hd11 := e11 _ _ hd9
            refine ⟨⟨_, _, rfl⟩, Same.but (e9.trans e11) ndH k12, k12 _ _ (Ne.symm hdr) (e11 _ _ hr9), ?_, putN xs9 (o :: t) T5, hd12, fun x hx => TupF.byk hd11 k12 (putN_keysV hk11 hT5 x hx), Nat.le_trans putN_len (by omega), fun m => ?_⟩
            · exact Paired.imp (fun _ _ ⟨b, e, h⟩ => ⟨b, e, TupF.byk hd11 k12 (h.mono e11.n)⟩) pr9
            · rw [putN_mem, hm9 m, take_succ_get htl]
              constructor
              · rintro ((h | ⟨t', ht', rfl⟩) | rfl)
                · exact .inl h
                · exact .inr ⟨t', List.mem_append_left _ ht', rfl⟩
                · exact .inr ⟨t, List.mem_append_right _ (List.mem_singleton.mpr rfl), rfl⟩
              · rintro (h | ⟨t', ht', rfl⟩)
                · exact .inl (.inl h)
                · rcases List.mem_append.mp ht' with h | h
                  · exact .inl (.inr ⟨t', h, rfl⟩)
                  · rw [List.mem_singleton.mp h]
                    exact .inr rfl
          · obtain ⟨⟨j4, j5, rfl⟩, e9, hr9, pr9, xs9, hd9, hk9, hx9, hm9⟩ := p
            have hrl : rvs.length = ls.length := Paired.len pr8
            refine ⟨⟨_, _, _, _, rfl⟩, e9, xs9, hd9, hk9, by omega, fun m => ?_⟩
            rw [hm9 m, hrl, List.take_length]
            constructor
            · rintro (⟨k, hk, x, hx, r', hr', rfl⟩ | ⟨t, ht', rfl⟩)
              · exact ⟨k, by omega, x, hx, r', hr', rfl⟩
              · exact ⟨i, by omega, o, ho, t, (hmem t).mp ht', rfl⟩
            · rintro ⟨k, hk, x, hx, r', hr', rfl⟩
              by_cases hki : k = i
              · subst hki
                rw [ho] at hx
                cases hx
                exact .inr ⟨r', (hmem r').mpr hr', rfl⟩
              · exact .inl ⟨k, by omega, x, hx, r', hr', rfl⟩
        · obtain ⟨⟨j2, j3, j4, j5, rfl⟩, e3, xs, hd3, hk3, hx3, hm3⟩ := p
          rw [hll] at hx3 hm3
          have hpos : 0 < l.length := List.length_pos_iff.mpr hl
          refine ⟨_, rfl, d, _, xs, rfl, .inl hd3, fun r H4 nr e4 hr4 => ?_⟩
          refine q _ r (xs.map (·.1)) (e3.trans e4) (e3.free nr) ⟨_, hr4, paired_refs (hk3.mono e4.n)⟩ ?_ fun m => (hm3 m).trans (ord_all hl)
          rw [List.length_map]
          refine Nat.le_trans hx3 (Nat.le_trans (Nat.mul_le_mul_right _ h6) ?_)
          rw [Nat.mul_comm, ← Nat.pow_succ, show (l.length - 1).succ = l.length by omega]
          exact Nat.le_refl _
end
end CC

/-! text D9 -/
namespace CC
open PySem PySem.Spec PyProof.Rows L2
/-! ### a door's places lie side by side -/
def begOf (ds : List Door) (d : Nat) : Nat := places (ds.take d)
theorem places_cons (d : Door) (r : List Door) : places (d :: r) = d.2 + places r := by
  unfold places
  rw [List.map_cons, List.sum_cons]
theorem edgesFrom_at : ∀ (ds : List Door) (k d i : Nat), (edgesFrom k ds)[i]? = some (k + d) ↔ ∃ x, ds[d]? = some x ∧ begOf ds d ≤ i ∧ i < begOf ds d + x.2
  | [], k, d, i => by
    constructor
    · intro h; cases h
    · rintro ⟨x, h, _⟩; cases h
  | c :: r, k, d, i => by
    show (List.replicate c.2 k ++ edgesFrom (k + 1) r)[i]? = _ ↔ _
    by_cases hi : i < c.2
    · rw [List.getElem?_append_left (by rw [List.length_replicate]; exact hi), List.getElem?_replicate, if_pos hi]
      cases d with
      | zero =>
        constructor
        · intro _
          exact ⟨c, rfl, Nat.zero_le _, by show i < 0 + c.2; omega⟩
        · intro _; rfl
      | succ d =>
        constructor
        · intro h
          have := Option.some.inj h
          omega
        · rintro ⟨x, hx, h1, h2⟩
          have : begOf (c :: r) (d + 1) = c.2 + begOf r d := by unfold begOf; rw [List.take_succ_cons, places_cons]
          omega
    · rw [List.getElem?_append_right (by rw [List.length_replicate]; omega), List.length_replicate]
      cases d with
      | zero =>
        constructor
        · intro h
          have := edgesFrom_lt r (k + 1) _ (List.mem_of_getElem? h)
          omega
        · rintro ⟨x, hx, h1, h2⟩
          have e : x = c := (Option.some.inj hx).symm
          have : begOf (c :: r) 0 = 0 := rfl
          rw [e] at h2
          omega
      | succ d =>
        have ih := edgesFrom_at r (k + 1) d (i - c.2)
        have e : begOf (c :: r) (d + 1) = c.2 + begOf r d := by unfold begOf; rw [List.take_succ_cons, places_cons]
        rw [show k + (d + 1) = k + 1 + d by omega, ih, List.getElem?_cons_succ, e]
        constructor
        · rintro ⟨x, hx, h1, h2⟩; exact ⟨x, hx, by omega, by omega⟩
        · rintro ⟨x, hx, h1, h2⟩; exact ⟨x, hx, by omega, by omega⟩
theorem edges_at {ds : List Door} {d i : Nat} : (edges ds)[i]? = some d ↔ ∃ x, ds[d]? = some x ∧ begOf ds d ≤ i ∧ i < begOf ds d + x.2 := by
  have := edgesFrom_at ds 0 d i
  rwa [Nat.zero_add] at this
theorem beg_le {ds : List Door} {d : Nat} {x : Door} (h : ds[d]? = some x) : begOf ds d + x.2 ≤ places ds := by
  have e := e_sum ds d
  have hd := (List.getElem?_eq_some_iff.mp h).1
  have : ds.drop d = x :: ds.drop (d + 1) := by
    rw [List.drop_eq_getElem_cons hd]
    rw [List.getElem?_eq_getElem hd] at h
    rw [Option.some.inj h]
  rw [this, List.map_cons, List.sum_cons] at e
  unfold begOf places
  omega
theorem range_cut (N b n : Nat) (h : b + n ≤ N) : (List.range N).filter (fun i => decide (b ≤ i ∧ i < b + n)) = List.range' b n := by
  have e : List.range N = List.range' 0 b ++ (List.range' b n ++ List.range' (b + n) (N - (b + n))) := by
    rw [List.range_eq_range']
    have h2 : List.range' b n ++ List.range' (b + n) (N - (b + n)) = List.range' b (N - b) := by
      rw [List.range'_append_1, show n + (N - (b + n)) = N - b by omega]
    rw [h2]
    have h3 := List.range'_append_1 (s := 0) (m := b) (n := N - b)
    rw [Nat.zero_add] at h3
    rw [h3, show b + (N - b) = N by omega]
  rw [e, List.filter_append, List.filter_append]
  have f1 : (List.range' 0 b).filter (fun i => decide (b ≤ i ∧ i < b + n)) = [] := List.filter_eq_nil_iff.mpr fun i hi => by
    have := List.mem_range'_1.mp hi
    simp; omega
  have f3 : (List.range' (b + n) (N - (b + n))).filter (fun i => decide (b ≤ i ∧ i < b + n)) = [] := List.filter_eq_nil_iff.mpr fun i hi => by
    have := List.mem_range'_1.mp hi
    simp; omega
  have f2 : (List.range' b n).filter (fun i => decide (b ≤ i ∧ i < b + n)) = List.range' b n := List.filter_eq_self.mpr fun i hi => by
    have := List.mem_range'_1.mp hi
    simp; omega
  rw [f1, f2, f3, List.append_nil, List.nil_append]
theorem placesOf_eq {ds : List Door} {d : Nat} {x : Door} (h : ds[d]? = some x) : placesOf ds d = List.range' (begOf ds d) x.2 := by
  unfold placesOf
  rw [← range_cut (places ds) (begOf ds d) x.2 (beg_le h)]
  congr 1
  funext i
  refine decide_eq_decide.mpr (edges_at.trans ⟨?_, fun q => ⟨x, h, q⟩⟩)
  rintro ⟨y, hy, q⟩
  rw [h] at hy
  cases hy
  exact q
/-- what lies behind a door is shuffled -/
theorem shuf_mem {ds : List Door} {d : Nat} {x : Door} {l m : Lay} (h : ds[d]? = some x) (hl : l.length = places ds) :
    (∃ r, r.Perm ((l.drop (begOf ds d)).take x.2) ∧ m = l.take (begOf ds d) ++ r ++ l.drop (begOf ds d + x.2)) ↔ AfterR ds l (.shuffle d) m := by
  have hb := beg_le h
  have el : l = l.take (begOf ds d) ++ ((l.drop (begOf ds d)).take x.2 ++ l.drop (begOf ds d + x.2)) := by
    have e1 : (l.drop (begOf ds d)).take x.2 ++ (l.drop (begOf ds d)).drop x.2 = l.drop (begOf ds d) := List.take_append_drop ..
    rw [List.drop_drop] at e1
    rw [e1, List.take_append_drop]
  have hs : ((l.drop (begOf ds d)).take x.2).length = x.2 := by rw [List.length_take, List.length_drop]; omega
  constructor
  · rintro ⟨r, hr, rfl⟩
    have lr : r.length = x.2 := by rw [hr.length_eq, hs]
    refine ⟨?_, fun i hi => ?_, ?_⟩
    · rw [List.length_append, List.length_append, List.length_take, List.length_drop, lr]; omega
    · have hni : ¬ (begOf ds d ≤ i ∧ i < begOf ds d + x.2) := fun q => hi (edges_at.mpr ⟨x, h, q⟩)
      by_cases h1 : i < begOf ds d
      · rw [List.append_assoc, List.getElem?_append_left (by rw [List.length_take]; omega), List.getElem?_take_of_lt h1]
      · have h2 : begOf ds d + x.2 ≤ i := by omega
        rw [List.getElem?_append_right (by rw [List.length_append, List.length_take, lr]; omega), List.length_append, List.length_take, lr, List.getElem?_drop]
        congr 1
        omega
    · rw [List.append_assoc]
      conv => rhs; rw [el]
      exact (List.perm_append_left_iff _).mpr ((List.perm_append_right_iff _).mpr hr)
  · rintro ⟨h1, h2, h3⟩
    have et : m.take (begOf ds d) = l.take (begOf ds d) := List.ext_getElem? fun i => by
      by_cases hi : i < begOf ds d
      · rw [List.getElem?_take_of_lt hi, List.getElem?_take_of_lt hi]
        exact h2 i fun q => by
          obtain ⟨y, hy, q1, _⟩ := edges_at.mp q
          omega
      · rw [List.getElem?_eq_none (by rw [List.length_take]; omega), List.getElem?_eq_none (by rw [List.length_take]; omega)]
    have ed : m.drop (begOf ds d + x.2) = l.drop (begOf ds d + x.2) := List.ext_getElem? fun i => by
      rw [List.getElem?_drop, List.getElem?_drop]
      exact h2 _ fun q => by
        obtain ⟨y, hy, q1, q2⟩ := edges_at.mp q
        rw [h] at hy
        cases hy
        omega
    have em : m = m.take (begOf ds d) ++ ((m.drop (begOf ds d)).take x.2 ++ m.drop (begOf ds d + x.2)) := by
      have e1 : (m.drop (begOf ds d)).take x.2 ++ (m.drop (begOf ds d)).drop x.2 = m.drop (begOf ds d) := List.take_append_drop ..
      rw [List.drop_drop] at e1
      rw [e1, List.take_append_drop]
    refine ⟨(m.drop (begOf ds d)).take x.2, ?_, ?_⟩
    · rw [em, el, et, ed] at h3
      exact (List.perm_append_right_iff _).mp ((List.perm_append_left_iff _).mp h3)
    · rw [List.append_assoc, ← et, ← ed]
      exact em
end CC

/-! text D10 -/
namespace CC
open PySem PySem.Spec PyProof.Rows L2
section
variable {P : Program} {w : World} {K : PySem.W.Frag} {mg : Str → Option Value} {base : Heap} {C : Addr}
def spShuffled (K : PySem.W.Frag) (C : Addr) : SpN := fun vs H Q => ∃ a ds cs v l d, vs = [.ref a, v, nV d] ∧ StoreAt K C H a ds cs ∧ LayV H v l ∧ l.length = places ds ∧ NmOk l ∧ d < ds.length ∧ ∀ H' r ls, Same H H' → H r = none → LaysV H' r ls → ls.length ≤ 46656 → (∀ m, m ∈ ls ↔ AfterR ds l (.shuffle d) m) → Q (.ref r) H'
abbrev s_shuffled : Stmt := topS 49
abbrev N_shuffled : List Str := ["store", "layout", "door", "places", "begin", "end", "row"]
theorem sc_shuffled : FnScope N_shuffled ["store", "layout", "door"] (defScope s_shuffled) := ⟨rfl, rfl, rfl, by decide +kernel, rfl, by decide +kernel, by decide +kernel⟩
-- cells: ['begin', 'end', 'layout']; calls: ['Store.places_of', 'orders_of']
theorem cal_shuffled (B : Base K mg) (S : StoreB K mg C) : Cal P w K mg base 9 "shuffled" (spShuffled K C) := by
  have cal_orders_of := fun (B : Base K mg) => cal_orders (P := P) (w := w) (base := base) B 7
  refine B.d_shuffled.ok sc_shuffled (fun vs H Q h => ?_) (fun f cdv A outer s H vs Q E hr h => ?_)
  · obtain ⟨a, ds, cs, v, l, d, rfl, _⟩ := h
    rfl
  · obtain ⟨a, ds, cs, v, l, d, rfl, sa, ⟨b, rfl, ht⟩, hl, ok, hd, q⟩ := h
    obtain ⟨dx, ws, ha⟩ := sa.slt
    have n6 : places ds ≤ 6 := places_le sa.1.1
    obtain ⟨x, hx⟩ : ∃ x, ds[d]? = some x := ⟨_, List.getElem?_eq_getElem hd⟩
    have x1 : 1 ≤ x.2 := (sa.1.1.2.2.1 x (List.mem_of_getElem? hx)).2.2.1
    have hb := beg_le hx
    refine ⟨_, (pss_cons (ps_set (i := 3) sc_shuffled.nd rfl (.inl rfl) (pe_mS (met_Store_places_of B S) S.cls hr (by decide) (pv 0) (pa_cons (pv 2) pa_nil)))
    (pss_cons (ps_asg (pe_tupF (pa_cons (pe_ix ix_tup (pv 3) pe_int (fun _ _ => rfl)) (pa_cons (pe_op op_add (pe_ix ix_tup (pv 3) (pe_un un_neg pe_int) (fun _ _ => rfl)) pe_int) pa_nil))) (pg_tup rfl (pgs_cons (pg_name (i := 4) sc_shuffled.nd rfl (.inr rfl)) (pgs_cons (pg_name (i := 5) sc_shuffled.nd rfl (.inr rfl)) pgs_nil))))
    (pss_one (ps_ret (pe_lcX (own := [("row", 6)]) rfl sc_shuffled.nd (pi_list (pe_c (cal_orders_of B) hr (by decide) rfl (pa_cons (pe_slice sl_tupS (pv 1) (po_some (pv 4)) (po_some (pv 5))) pa_nil))) (blkOk_by (own := [("row", 6)]) (N := N_shuffled) (sc := defScope s_shuffled) (by decide +kernel)) (fun _ _ _ _ _ => (pg_name (i := 6) sc_shuffled.nd rfl (.inl rfl))) (fun _ _ _ _ _ => pts_nil) (fun _ _ _ _ _ => (pe_op op_catU (pe_op op_catU (pe_slice sl_tupS (pv 1) po_none (po_some (pv 4))) (pv 6)) (pe_slice sl_tupS (pv 1) (po_some (pv 5)) po_none)))))
    ))), ?_⟩
    refine ⟨_, rfl, a, dx, ws, rfl, ha, _, rfl, a, ds, cs, d, rfl, sa, hd, fun t H1 e1 h1 => ?_⟩
    rw [placesOf_eq hx] at h1
    have g0 : ((List.range' (begOf ds d) x.2).map nV)[0]? = some (nV (begOf ds d)) := map_get (by rw [List.getElem?_range'  (by omega)]; simp)
    have g1 : ((List.range' (begOf ds d) x.2).map nV)[((List.range' (begOf ds d) x.2).map nV).length - 1]? = some (nV (begOf ds d + x.2 - 1)) := by
      rw [List.length_map, List.length_range']
      refine map_get ?_
      rw [List.getElem?_range' (by omega)]
      congr 1
      omega
    refine ⟨_, rfl, _, _, _, _, rfl, rfl, h1, atI_nat g0, _, rfl, _, rfl, _, _, _, _, rfl, rfl, h1, atI_last g1, _, _, rfl, rfl, small (by simp), fun T H2 nT e2 hT => ?_⟩
    refine ⟨_, _, rfl, hT.sq, rfl, _, _, rfl, _, _, rfl, rfl, ?_⟩
    have hend : ((begOf ds d + x.2 - 1 : Nat) : Int) + 1 = ((begOf ds d + x.2 : Nat) : Int) := by omega
    have e12 := e1.trans e2
    have ht2 := ht.mono e12.n
    refine ⟨_, rfl, _, rfl, _, rfl, _, rfl, _, rfl, _, _, rfl, ht2.sq, fun p H3 e3 h3 => ?_⟩
    rw [hend, cut_mid (by omega) (by omega), show begOf ds d + x.2 - begOf ds d = x.2 by omega] at h3
    have hs : ((l.drop (begOf ds d)).take x.2).length = x.2 := by rw [List.length_take, List.length_drop]; omega
    refine ⟨_, _, rfl, h3, by omega, by omega, fun z hz => ok z (List.mem_of_mem_drop (List.mem_of_mem_take hz)), fun H4 r ls e4 nr hls hln hmem => ?_⟩
    obtain ⟨rvs, hr4, pr4⟩ := hls
    have e03 := e12.trans e3
    have e04 := e03.trans e4
    have hln2 : ls.length ≤ 46656 := Nat.le_trans hln (Nat.le_trans (Nat.pow_le_pow_right (n := 6) (by decide) (show _ ≤ 6 by omega)) (by decide))
    refine ⟨_, rfl, ⟨_, SqL.of hr4⟩, ?_⟩
    have hrl : rvs.length = ls.length := Paired.len pr4
    refine comp_it walk_list ls (fun r => some (l.take (begOf ds d) ++ r ++ l.drop (begOf ds d + x.2))) LayV LayV (fun _ _ _ _ e h => h.mono e) hrl.symm (fun _ e => SqL.of (e _ _ hr4))
      (by omega) (fun i H5 y H' c hc hy e => ?_) (fun i c y H5 Qy Qn hc e5 hs5 ky kn => ?_) (fun D5 H5 ys5 nD5 e5 g3 g4 => ?_)
    · obtain ⟨rfl, hy⟩ := hy
      obtain ⟨v', hv', hlv⟩ := Paired.get pr4 hc
      rw [hy] at hv'
      cases hv'
      exact ⟨Same.refl _, hlv.mono e.n⟩
    · obtain ⟨ra, rfl, hra⟩ := hs5
      have e05 := e04.trans e5
      have ht5 := (ht.mono e05.n).sq (K := K)
      have cl : c.length = x.2 := by rw [((hmem c).mp (List.mem_of_getElem? hc)).length_eq, hs]
      have cne : c ≠ [] := fun z => by rw [z] at cl; exact absurd cl (by simp; omega)
      refine ⟨rfl, _, rfl, _, rfl, _, rfl, _, _, rfl, ht5, fun p6 H6 e6 h6 => ?_⟩
      rw [cut_to (by omega)] at h6
      refine ⟨_, rfl, _, _, _, _, rfl, rfl, h6, (hra.mono e6.n).sq, small ?_, fun _ => hra.mono e6.n, fun _ z => absurd (List.map_eq_nil_iff.mp z) cne, fun p7 H7 e7 h7 => ?_⟩
      · rw [List.length_map, List.length_map, List.length_take]; omega
      rw [← List.map_append] at h7
      refine ⟨_, rfl, _, rfl, _, rfl, _, _, rfl, (e6.trans e7).tup ht5, fun p8 H8 e8 h8 => ?_⟩
      rw [hend, cut_from (by omega)] at h8
      have e58 := (e6.trans e7).trans e8
      refine ⟨_, _, _, _, rfl, rfl, (h7.mono e8.n).sq, h8, small ?_, fun z => ?_, fun _ _ => h7.mono e8.n, fun p9 H9 e9 h9 => ky _ _ _ rfl (e58.trans e9) ⟨p9, rfl, ?_⟩⟩
      · rw [List.length_map, List.length_map, List.length_append, List.length_take, List.length_drop]; omega
      · have := List.append_eq_nil_iff.mp (List.map_eq_nil_iff.mp z)
        exact absurd this.2 cne
      · rw [← List.map_append] at h9
        exact h9
    · rw [fm_some] at g4
      refine q H5 D5 _ (e04.trans e5) (e04.free nD5) ⟨ys5, g3, g4⟩ (by rw [List.length_map]; exact hln2) fun m => ?_
      rw [← shuf_mem hx hl, List.mem_map]
      constructor
      · rintro ⟨r, hr, rfl⟩; exact ⟨r, (hmem r).mp hr, rfl⟩
      · rintro ⟨r, hr, rfl⟩; exact ⟨r, (hmem r).mpr hr, rfl⟩
def spAllAfter (K : PySem.W.Frag) (C : Addr) : SpN := fun vs H Q => ∃ a ds cs v l u e, vs = [.ref a, v, u] ∧ StoreAt K C H a ds cs ∧ LayV H v l ∧ IsLay (places ds) cs l ∧ DeedV K H u e ∧ OkDeed ds cs e ∧ ∀ H' r ls, Same H H' → H r = none → LaysV H' r ls → ls.length ≤ 46656 → (∀ m, m ∈ ls ↔ AfterR ds l e m) → Q (.ref r) H'
theorem lay_ok {n : Nat} {cs : List Str} {l : Lay} (h : IsLay n cs l) (w : ∀ c ∈ cs, IsWord c) : NmOk l := fun z hz => word_ok (w z (h.2.subset (List.mem_filterMap.mpr ⟨some z, hz, rfl⟩)))
theorem lay_has {n : Nat} {cs : List Str} {l : Lay} (h : IsLay n cs l) {z : Str} (hz : z ∈ cs) : some z ∈ l := by
  obtain ⟨o, ho, e⟩ := List.mem_filterMap.mp (h.2.symm.subset hz)
  cases o with
  | none => cases e
  | some y => cases e; exact ho
theorem idx_no {l : Lay} {z : Str} (g2 : ∀ m z', m < idxOf l z → l[m]? = some z' → z' ≠ some z) : ∀ m z', m < idxOf l z → (l.map oV)[m]? = some z' → eqV z' (.str z) = false := fun m z' hm hz' => by
  obtain ⟨o, ho, rfl⟩ := oV_get hz'
  rw [show V.str z = oV (some z) from rfl, eqV_oV]
  exact decide_eq_false (g2 m o hm ho)
abbrev s_all_after : Stmt := topS 50
abbrev N_all_after : List Str := ["store", "layout", "deed", "word", "rest"]
theorem sc_all_after : FnScope N_all_after ["store", "layout", "deed"] (defScope s_all_after) := ⟨rfl, rfl, rfl, by decide +kernel, rfl, by decide +kernel, by decide +kernel⟩
-- cells: []; calls: ['exchanged', 'put_elsewhere', 'shuffled']
theorem cal_all_after (B : Base K mg) (S : StoreB K mg C) : Cal P w K mg base 10 "all_after" (spAllAfter K C) := by
  refine B.d_all_after.ok sc_all_after (fun vs H Q h => ?_) (fun f cdv A outer s H vs Q E hr h => ?_)
  · obtain ⟨a, ds, cs, v, l, u, e, rfl, _⟩ := h
    rfl
  · obtain ⟨a, ds, cs, v, l, u, e, rfl, sa, ⟨b, rfl, ht⟩, il, ⟨c, rfl, hc⟩, ok, q⟩ := h
    have n6 : places ds ≤ 6 := places_le sa.1.1
    have ww := sa.1.2.2.2.2.1
    have l6 : l.length ≤ 6 := by rw [il.1]; exact n6
    refine ⟨_, (pss_cons (ps_asg (pv 2) (pg_star rfl (pgs_cons (pg_name (i := 3) sc_all_after.nd rfl (.inl rfl)) (pgs_star (pg_name (i := 4) sc_all_after.nd rfl (.inl rfl)) pgs_nil))))
    (pss_cons (ps_if (pt_cmpR op_eq (pv 3) (pe_gc rfl B.g_SWAP) (nomark _)) (
        (pss_one (ps_ret (pe_lstN (pa_cons (pe_c (cal_exchanged B) hr (by decide) rfl (pa_cons (pv 1) (pa_cons (pe_tm PySem.F.slot_tuple_index PySem.F.type_tuple_index mt_tidx (pv 1) (pa_cons (pe_ix ix_list (pv 4) pe_int (fun _ _ => rfl)) pa_nil)) (pa_cons (pe_tm PySem.F.slot_tuple_index PySem.F.type_tuple_index mt_tidx (pv 1) (pa_cons (pe_ix ix_list (pv 4) pe_int (fun _ _ => rfl)) pa_nil)) pa_nil)))) pa_nil)))
        )) (pss_nil))
    (pss_cons (ps_if (pt_cmpR op_eq (pv 3) (pe_gc rfl B.g_SHUFFLE) (nomark _)) (
        (pss_one (ps_ret (pe_c (cal_shuffled B S) hr (by decide) rfl (pa_cons (pv 0) (pa_cons (pv 1) (pa_cons (pe_ix ix_list (pv 4) pe_int (fun _ _ => rfl)) pa_nil)))))
        )) (pss_nil))
    (pss_one (ps_ret (pe_c (cal_put_elsewhere B S) hr (by decide) rfl (pa_cons (pv 0) (pa_cons (pv 1) (pa_cons (pe_ix ix_list (pv 4) pe_int (fun _ _ => rfl)) (pa_cons (pe_cmpR op_eq (pv 3) (pe_gc rfl B.g_NEAR) (nomark _)) pa_nil))))))
    )))), ?_⟩
    cases e with
    | move z =>
      refine ⟨_, rfl, c, .str "move", [.str z], rfl, hc, by simp, fun D H2 nD e2 hD => ⟨_, _, rfl, _, _, rfl, rfl, ?_⟩⟩
      refine ⟨_, rfl, rfl, false, rfl, iteF ⟨_, rfl, rfl, false, rfl, iteF ?_⟩⟩
      exact ⟨_, rfl, _, rfl, _, rfl, _, _, _, _, rfl, rfl, SqL.of hD, rfl, _, rfl, rfl, .ref a, .ref b, l, z, false, rfl, ⟨b, rfl, ht.mono e2.n⟩, l6, lay_has il ok, fun H3 r ls e3 nr lv ln mem => q H3 r ls (e2.trans e3) (e2.free nr) lv (by omega) mem⟩
    | near z =>
      refine ⟨_, rfl, c, .str "near", [.str z], rfl, hc, by simp, fun D H2 nD e2 hD => ⟨_, _, rfl, _, _, rfl, rfl, ?_⟩⟩
      refine ⟨_, rfl, rfl, false, rfl, iteF ⟨_, rfl, rfl, false, rfl, iteF ?_⟩⟩
      exact ⟨_, rfl, _, rfl, _, rfl, _, _, _, _, rfl, rfl, SqL.of hD, rfl, _, rfl, rfl, .ref a, .ref b, l, z, true, rfl, ⟨b, rfl, ht.mono e2.n⟩, l6, lay_has il ok, fun H3 r ls e3 nr lv ln mem => q H3 r ls (e2.trans e3) (e2.free nr) lv (by omega) mem⟩
    | shuffle d =>
      refine ⟨_, rfl, c, .str "shuffle", [nV d], rfl, hc, by simp, fun D H2 nD e2 hD => ⟨_, _, rfl, _, _, rfl, rfl, ?_⟩⟩
      refine ⟨_, rfl, rfl, false, rfl, iteF ⟨_, rfl, rfl, true, rfl, iteT ?_⟩⟩
      exact ⟨_, rfl, _, rfl, _, rfl, _, _, _, _, rfl, rfl, SqL.of hD, rfl, a, ds, cs, .ref b, l, d, rfl, sa.mono e2.n, ⟨b, rfl, ht.mono e2.n⟩, il.1, lay_ok il ww, ok, fun H3 r ls e3 nr lv ln mem => q H3 r ls (e2.trans e3) (e2.free nr) lv ln mem⟩
    | swap x y =>
      refine ⟨_, rfl, c, .str "swap", [.str x, .str y], rfl, hc, by simp, fun D H2 nD e2 hD => ⟨_, _, rfl, _, _, rfl, rfl, ?_⟩⟩
      refine ⟨_, rfl, rfl, true, rfl, iteT ?_⟩
      obtain ⟨g1, g2⟩ := idx_get (lay_has il ok.1)
      obtain ⟨g3, g4⟩ := idx_get (lay_has il ok.2.1)
      have ht2 := ht.mono e2.n
      refine ⟨_, rfl, _, rfl, ⟨_, _, rfl, ht2⟩, _, rfl, _, _, _, _, rfl, rfl, SqL.of hD, rfl, _, _, _, _, _, rfl, rfl, ht2.sq, rfl, flat_oV l, map_get g1, by show (x == x) = true; exact beq_self_eq_true x, idx_no g2, ?_⟩
      refine ⟨_, rfl, ⟨_, _, rfl, ht2⟩, _, rfl, _, _, _, _, rfl, rfl, SqL.of hD, rfl, _, _, _, _, _, rfl, rfl, ht2.sq, rfl, flat_oV l, map_get g3, by show (y == y) = true; exact beq_self_eq_true y, idx_no g4, ?_⟩
      refine ⟨.ref b, l, _, _, rfl, ⟨b, rfl, ht2⟩, (List.getElem?_eq_some_iff.mp g1).1, (List.getElem?_eq_some_iff.mp g3).1, fun H3 r e3 hr3 => ⟨small (by simp), fun L H4 nL e4 hL => ?_⟩⟩
      exact q _ _ [_] ((e2.trans e3).trans e4) (e2.free (e3.free nL)) ⟨_, hL, .cons (hr3.mono e4.n) .nil⟩ (by simp) fun m => List.mem_singleton
end
end CC

/-! text M1 -/
namespace CC
open PySem PySem.Spec PyProof.Rows L2
/-! ### which layouts there are -/
theorem nodup_sub {α : Type} [DecidableEq α] : ∀ {a b : List α}, a.Nodup → (∀ x ∈ a, x ∈ b) → a.length ≤ b.length
  | [], _, _, _ => Nat.zero_le _
  | x :: t, b, hn, hs => by
    obtain ⟨h1, h2⟩ := List.nodup_cons.mp hn
    have hx := hs x List.mem_cons_self
    have ih := nodup_sub (a := t) (b := b.erase x) h2 fun y hy => (List.mem_erase_of_ne (fun e => h1 (by rw [← e]; exact hy))).mpr (hs y (List.mem_cons_of_mem _ hy))
    have := List.length_erase_of_mem hx
    have hp := List.length_pos_of_mem hx
    rw [List.length_cons]
    omega
theorem nodup_perm {α : Type} [DecidableEq α] : ∀ {a b : List α}, a.Nodup → (∀ x ∈ a, x ∈ b) → b.length ≤ a.length → a.Perm b
  | [], b, _, _, hl => by
    have : b = [] := List.length_eq_zero_iff.mp (Nat.le_zero.mp hl)
    rw [this]
  | x :: t, b, hn, hs, hl => by
    obtain ⟨h1, h2⟩ := List.nodup_cons.mp hn
    have hx := hs x List.mem_cons_self
    have e := List.length_erase_of_mem hx
    have ih := nodup_perm (a := t) (b := b.erase x) h2 (fun y hy => (List.mem_erase_of_ne (fun e => h1 (by rw [← e]; exact hy))).mpr (hs y (List.mem_cons_of_mem _ hy))) (by rw [List.length_cons] at hl; omega)
    exact (List.Perm.cons x ih).trans (List.perm_cons_erase hx).symm
theorem nodup_ext {α : Type} [DecidableEq α] {a b : List α} (ha : a.Nodup) (hb : b.Nodup) (h : ∀ x, x ∈ a ↔ x ∈ b) : a.Perm b :=
  nodup_perm ha (fun x hx => (h x).mp hx) (nodup_sub hb fun x hx => (h x).mpr hx)
def nones (l : Lay) : Nat := l.countP fun o => decide (o = none)
theorem len_split (l : Lay) : (names l).length + nones l = l.length := by
  induction l with
  | nil => rfl
  | cons o t ih =>
    unfold names nones at *
    cases o with
    | none => rw [List.countP_cons_of_pos (by rfl), List.length_cons, ← ih]; rfl
    | some z => rw [List.countP_cons_of_neg (by simp), List.length_cons, ← ih, List.filterMap_cons]; simp; omega
theorem names_mem {l : Lay} {z : Str} : z ∈ names l ↔ some z ∈ l := by
  unfold names
  rw [List.mem_filterMap]
  exact ⟨fun ⟨o, h, e⟩ => by cases o with | none => cases e | some y => cases e; exact h, fun h => ⟨some z, h, rfl⟩⟩
theorem names_app (a b : Lay) : names (a ++ b) = names a ++ names b := List.filterMap_append
theorem nones_app (a b : Lay) : nones (a ++ b) = nones a + nones b := List.countP_append
theorem left_len {cs : List Str} {r : Lay} (hc : cs.Nodup) (hn : (names r).Nodup) (hs : ∀ z ∈ names r, z ∈ cs) : (left cs r).length + (names r).length = cs.length := by
  have h1 : (cs.filter fun c => decide (some c ∈ r)).Perm (names r) := nodup_ext (hc.filter _) hn fun z => by
    rw [List.mem_filter, decide_eq_true_eq, ← names_mem]
    exact ⟨fun h => h.2, fun h => ⟨hs z h, h⟩⟩
  have h2 := List.length_eq_countP_add_countP (fun c => decide (some c ∈ r)) (l := cs)
  rw [List.countP_eq_length_filter, List.countP_eq_length_filter, h1.length_eq] at h2
  unfold left
  rw [h2, Nat.add_comm]
  congr 2
  refine List.filter_congr fun c _ => ?_
  by_cases h : some c ∈ r <;> simp [h]
structure Pre (n : Nat) (cs : List Str) (k : Nat) (r : Lay) : Prop where
  len : r.length = k
  nd : (names r).Nodup
  sub : ∀ z ∈ names r, z ∈ cs
  few : nones r ≤ n - cs.length
theorem pre_ext {n : Nat} {cs : List Str} {k : Nat} {r m : Lay} (hc : cs.Nodup) (hk : k < n) (hcn : cs.length ≤ n) (p : Pre n cs k r) : m ∈ ext n cs k r ↔ ∃ o, m = r ++ [o] ∧ Pre n cs (k + 1) (r ++ [o]) := by
  have ll := left_len hc p.nd p.sub
  have ls := len_split r
  have hcond : (left cs r).length < n - k ↔ nones r < n - cs.length := by
    have := p.len
    omega
  unfold ext
  rw [List.mem_append]
  constructor
  · rintro (h | h)
    · split at h
      · rename_i hlt
        rw [List.mem_singleton.mp h]
        refine ⟨none, rfl, by rw [List.length_append, p.len]; rfl, ?_, ?_, ?_⟩
        · rw [names_app]; simpa [names] using p.nd
        · rw [names_app]; simpa [names] using p.sub
        · rw [nones_app]
          have := hcond.mp hlt
          show nones r + 1 ≤ _
          omega
      · cases h
    · obtain ⟨c, hcl, rfl⟩ := List.mem_map.mp h
      unfold left at hcl
      obtain ⟨h1, h2⟩ := List.mem_filter.mp hcl
      have h2 := of_decide_eq_true h2
      refine ⟨some c, rfl, by rw [List.length_append, p.len]; rfl, ?_, ?_, ?_⟩
      · rw [names_app]
        show (names r ++ [c]).Nodup
        exact List.nodup_append.mpr ⟨p.nd, by simp, fun x hx y hy e => by rw [List.mem_singleton.mp hy] at e; exact h2 (names_mem.mp (e ▸ hx))⟩
      · intro z hz
        rw [names_app] at hz
        rcases List.mem_append.mp hz with hz | hz
        · exact p.sub z hz
        · have : z = c := List.mem_singleton.mp hz
          rw [this]; exact h1
      · rw [nones_app]
        show nones r + 0 ≤ _
        exact p.few
  · rintro ⟨o, rfl, q⟩
    cases o with
    | none =>
      left
      have := q.few
      rw [nones_app] at this
      have h1 : nones r + 1 ≤ n - cs.length := this
      rw [if_pos (hcond.mpr (by omega))]
      exact List.mem_singleton.mpr rfl
    | some c =>
      right
      have nd := q.nd
      rw [names_app] at nd
      have hn : c ∉ names r := fun h => (List.nodup_append.mp nd).2.2 c h c (List.mem_singleton.mpr rfl) rfl
      refine List.mem_map.mpr ⟨c, List.mem_filter.mpr ⟨q.sub c (by rw [names_app]; exact List.mem_append_right _ (List.mem_singleton.mpr rfl)), decide_eq_true fun h => hn (names_mem.mpr h)⟩, rfl⟩
theorem pre_prev {n : Nat} {cs : List Str} {k : Nat} {r : Lay} {o : Option Str} (p : Pre n cs (k + 1) (r ++ [o])) : Pre n cs k r := by
  refine ⟨?_, ?_, ?_, ?_⟩
  · have := p.len
    rw [List.length_append, List.length_singleton] at this
    omega
  · have := p.nd
    rw [names_app] at this
    exact (List.nodup_append.mp this).1
  · intro z hz
    exact p.sub z (by rw [names_app]; exact List.mem_append_left _ hz)
  · have := p.few
    rw [nones_app] at this
    omega
theorem layAt_mem {n : Nat} {cs : List Str} (hc : cs.Nodup) (hcn : cs.length ≤ n) : ∀ {k : Nat} {m : Lay}, k ≤ n → (m ∈ layAt n cs k ↔ Pre n cs k m)
  | 0, m, _ => by
    constructor
    · intro h
      rw [List.mem_singleton.mp h]
      exact { len := rfl, nd := List.Pairwise.nil, sub := fun _ h => (nomatch h), few := Nat.zero_le _ }
    · intro p
      rw [List.length_eq_zero_iff.mp p.len]
      exact List.mem_singleton.mpr rfl
  | k + 1, m, hk => by
    show m ∈ (layAt n cs k).flatMap (ext n cs k) ↔ _
    rw [List.mem_flatMap]
    constructor
    · rintro ⟨r, hr, hm⟩
      have pr := (layAt_mem hc hcn (by omega)).mp hr
      obtain ⟨o, rfl, q⟩ := (pre_ext hc (by omega) hcn pr).mp hm
      exact q
    · intro p
      have hne : m ≠ [] := fun z => by have := p.len; rw [z] at this; cases this
      obtain ⟨r, o, rfl⟩ : ∃ r o, m = r ++ [o] := ⟨m.dropLast, m.getLast hne, (List.dropLast_concat_getLast hne).symm⟩
      have pr := pre_prev p
      exact ⟨r, (layAt_mem hc hcn (by omega)).mpr pr, (pre_ext hc (by omega) hcn pr).mpr ⟨o, rfl, p⟩⟩
theorem pre_full {n : Nat} {cs : List Str} {m : Lay} (hc : cs.Nodup) (hcn : cs.length ≤ n) : Pre n cs n m ↔ IsLay n cs m := by
  have ls := len_split m
  constructor
  · intro p
    have := p.len
    have := p.few
    exact ⟨p.len, nodup_perm p.nd p.sub (by omega)⟩
  · rintro ⟨h1, h2⟩
    have := h2.length_eq
    exact ⟨h1, h2.symm.nodup hc, fun z hz => h2.subset hz, by omega⟩
theorem allLay_mem {ds : List Door} {cs : List Str} {m : Lay} (ok : OkCrates cs (places ds)) : m ∈ allLay ds cs ↔ IsLay (places ds) cs m :=
  (layAt_mem (crates_nodup ok) ok.2.2.1 (Nat.le_refl _)).trans (pre_full (crates_nodup ok) ok.2.2.1)
theorem nodup_fm {α β : Type} {f : α → List β} : ∀ {l : List α}, l.Nodup → (∀ a ∈ l, (f a).Nodup) → (∀ a b m, m ∈ f a → m ∈ f b → a = b) → (l.flatMap f).Nodup
  | [], _, _, _ => List.Pairwise.nil
  | a :: t, hn, h1, h2 => by
    obtain ⟨n1, n2⟩ := List.nodup_cons.mp hn
    rw [List.flatMap_cons]
    refine List.nodup_append.mpr ⟨h1 a List.mem_cons_self, nodup_fm n2 (fun x hx => h1 x (List.mem_cons_of_mem _ hx)) h2, fun x hx y hy e => ?_⟩
    obtain ⟨b, hb, hyb⟩ := List.mem_flatMap.mp hy
    exact n1 (by rw [h2 a b x hx (by rw [e]; exact hyb)]; exact hb)
theorem layAt_nodup {n : Nat} {cs : List Str} (hc : cs.Nodup) : ∀ k, (layAt n cs k).Nodup
  | 0 => List.pairwise_singleton _ _
  | k + 1 => by
    show ((layAt n cs k).flatMap (ext n cs k)).Nodup
    have hd : ∀ {r m}, m ∈ ext n cs k r → m.dropLast = r := fun {r m} h => by
      unfold ext at h
      rcases List.mem_append.mp h with h | h
      · split at h
        · rw [List.mem_singleton.mp h, List.dropLast_concat]
        · cases h
      · obtain ⟨c, _, rfl⟩ := List.mem_map.mp h
        rw [List.dropLast_concat]
    refine nodup_fm (layAt_nodup hc k) (fun r _ => ?_) (fun a b m ha hb => (hd ha).symm.trans (hd hb))
    · unfold ext
      refine List.nodup_append.mpr ⟨by split <;> simp, ?_, fun x hx y hy e => ?_⟩
      · unfold left
        exact List.Pairwise.map _ (fun a b hab z => hab (by simpa using z)) (hc.filter _)
      · subst e
        obtain ⟨c, _, rfl⟩ := List.mem_map.mp hy
        split at hx
        · simp at hx
        · cases hx
theorem keys_few {ds : List Door} {cs : List Str} {ks : List Lay} (ok : OkCrates cs (places ds)) (h6 : places ds ≤ 6) (hn : ks.Nodup) (h : ∀ k ∈ ks, IsLay (places ds) cs k) : ks.length ≤ 46656 :=
  Nat.le_trans (nodup_sub hn fun k hk => (allLay_mem ok).mpr (h k hk)) (Nat.le_trans (layAt_len ok.2.1 _) (pow6 h6))
/-! ### deeds keep layouts -/
theorem set_perm {α : Type} (d : α) : ∀ {l : List α} {i : Nat} {x : α} (_ : i < l.length), (l.getD i d :: l.set i x).Perm (x :: l)
  | a :: t, 0, x, _ => List.Perm.swap x a t
  | a :: t, i + 1, x, h => by
    have hi : i < t.length := by simpa using h
    have ih := set_perm d (l := t) (i := i) (x := x) hi
    rw [List.set_cons_succ, List.getD_cons_succ]
    exact (List.Perm.swap a (t.getD i d) (t.set i x)).trans ((List.Perm.cons a ih).trans (List.Perm.swap x a t))
theorem swap_perm {l : Lay} {i j : Nat} (hi : i < l.length) (hj : j < l.length) : (swapL l i j).Perm l := by
  unfold swapL
  have hj' : j < (l.set i (l.getD j none)).length := by rw [List.length_set]; exact hj
  have p1 := set_perm none (l := l.set i (l.getD j none)) (i := j) (x := l.getD i none) hj'
  have p2 := set_perm none (l := l) (i := i) (x := l.getD j none) hi
  have gj : (l.set i (l.getD j none)).getD j none = l.getD j none := by
    rw [List.getD_eq_getElem?_getD, List.getElem?_set]
    split
    · rename_i e
      subst e
      first | rfl | (rw [if_pos hi]; rfl)
    · rw [List.getD_eq_getElem?_getD]
  rw [gj] at p1
  exact List.Perm.cons_inv (p1.trans ((List.Perm.refl _).trans (by
    exact p2)))
theorem perm_lay {n : Nat} {cs : List Str} {l m : Lay} (h : IsLay n cs l) (p : m.Perm l) : IsLay n cs m := ⟨p.length_eq.trans h.1, (p.filterMap id).trans h.2⟩
theorem after_perm {n : Nat} {ds : List Door} {cs : List Str} {l m : Lay} {e : Deed} (h : IsLay n cs l) (ok : OkDeed ds cs e) (r : AfterR ds l e m) : m.Perm l := by
  have ix : ∀ {z}, z ∈ cs → idxOf l z < l.length := fun hz => (List.getElem?_eq_some_iff.mp (idx_get (lay_has h hz)).1).1
  cases e with
  | move z => obtain ⟨k, hk, rfl⟩ := r; exact swap_perm (ix ok) (List.getElem?_eq_some_iff.mp hk).1
  | near z => obtain ⟨k, hk, _, rfl⟩ := r; exact swap_perm (ix ok) (List.getElem?_eq_some_iff.mp hk).1
  | swap a b =>
    have r : m = swapL l (idxOf l a) (idxOf l b) := r
    rw [r]
    exact swap_perm (ix ok.1) (ix ok.2.1)
  | shuffle d => exact r.2.2
end CC

/-! text D11 -/
namespace CC
open PySem PySem.Spec PyProof.Rows L2
/-! ### all that is neither a list nor a dict stays -/
def SameM (H H' : Hp) : Prop := ∀ b o, H b = some o → (∀ xs, o ≠ .lst xs) → (∀ f, o ≠ .ext f) → H' b = some o
theorem SameN.m {H H' : Hp} (e : SameN H H') : SameM H H' := fun b o h n _ => e b o h n
theorem SameM.trans {H H1 H2 : Hp} (a : SameM H H1) (b : SameM H1 H2) : SameM H H2 := fun c o h n k => b c o (a c o h n k) n k
theorem SameM.tup {K : PySem.W.Frag} {H H' : Hp} {a : Addr} {xs : List V} (e : SameM H H') (h : SqT K H a xs) : SqT K H' a xs := by
  rcases h with (h | ⟨o, h⟩) | h
  · exact .inl (.inl (e _ _ h (fun _ z => nomatch z) (fun _ z => nomatch z)))
  · exact .inl (.inr ⟨o, e _ _ h (fun _ z => nomatch z) (fun _ z => nomatch z)⟩)
  · exact .inr h
theorem SameM.tupF {H H' : Hp} {a : Addr} {xs : List V} (e : SameM H H') (h : TupF H a xs) : TupF H' a xs := let ⟨o, h, d⟩ := h; ⟨o, e _ _ h (fun _ z => nomatch z) (fun _ z => nomatch z), d⟩
theorem SameM.lay {H H' : Hp} {v : V} {l : Lay} (e : SameM H H') (h : LayV H v l) : LayV H' v l := let ⟨a, q, h⟩ := h; ⟨a, q, e.tupF h⟩
theorem SameM.keys {H H' : Hp} {xs : NKeys} (e : SameM H H') (h : KeysV H xs) : KeysV H' xs := fun x hx => e.tupF (h x hx)
theorem SameM.doors {K : PySem.W.Frag} {H H' : Hp} {v : V} {ds : List Door} (e : SameM H H') (h : DoorsV K H v ds) : DoorsV K H' v ds := by
  obtain ⟨a, as, q, h, p⟩ := h
  exact ⟨a, as, q, e.tup h, Paired.imp (fun _ _ ⟨b, q, h⟩ => ⟨b, q, e.tup h⟩) p⟩
theorem SameM.store {K : PySem.W.Frag} {C : Addr} {H H' : Hp} {a : Addr} {ds : List Door} {cs : List Str} (e : SameM H H') (ka : ∀ o, H a = some o → H' a = some o) (h : StoreAt K C H a ds cs) : StoreAt K C H' a ds cs := by
  obtain ⟨ok, dx, ea, p, P, d, c, h1, h2, h3, h4, h5, h6⟩ := h
  refine ⟨ok, dx, ea, p, P, d, c, ?_, e.tup h2, h3, e.tup h4, e.doors h5, e.tup h6⟩
  rcases h1 with ⟨h1, h2⟩ | ⟨h1, h2⟩
  · exact .inl ⟨ka _ h1, h2⟩
  · exact .inr ⟨ka _ h1, e _ _ h2 (fun _ z => nomatch z) (fun _ z => nomatch z)⟩
theorem StoreAt.here {K : PySem.W.Frag} {C : Addr} {H : Hp} {a : Addr} {ds : List Door} {cs : List Str} (h : StoreAt K C H a ds cs) : H a ≠ none := by
  obtain ⟨dx, vs, h⟩ := h.slt
  rcases h with ⟨h, _⟩ | ⟨h, _⟩ <;> (rw [h]; exact fun z => nomatch z)
/-! ### rows of a log -/
inductive LRow where
  | deed (e : Deed) | opened (d : Nat) (told : Lay)
def RowV (K : PySem.W.Frag) (H : Hp) (v : V) : LRow → Prop
  | .deed e => DeedV K H v e
  | .opened d t => ∃ a T, v = .ref a ∧ SqT K H a [.str "open", nV d, .ref T] ∧ TupF H T (t.map oV)
theorem SameM.row {K : PySem.W.Frag} {H H' : Hp} {v : V} {r : LRow} (e : SameM H H') (h : RowV K H v r) : RowV K H' v r := by
  cases r with
  | deed d => obtain ⟨a, q, h⟩ := h; exact ⟨a, q, e.tup h⟩
  | opened d t => obtain ⟨a, T, q, h, k⟩ := h; exact ⟨a, T, q, e.tup h, e.tupF k⟩
def Told (cs : List Str) (o : Option Str) : Prop := o = none ∨ o = some "?" ∨ ∃ z ∈ cs, o = some z
def OkRow (ds : List Door) (cs : List Str) : LRow → Prop
  | .deed e => OkDeed ds cs e
  | .opened d t => d < ds.length ∧ t.length = (placesOf ds d).length ∧ ∀ o ∈ t, Told cs o
def LRow.isOpen : LRow → Bool
  | .deed _ => false
  | .opened _ _ => true
def pairOk (n t : Option Str) : Bool := !(!decide (n = t) && (!decide (t = some "?") || decide (n = none)))
def isSo (a b : Lay) : Bool := (a.zip b).all fun p => pairOk p.1 p.2
def BehR (ds : List Door) (l : Lay) : LRow → Lay → Prop
  | .deed e, m => AfterR ds l e m
  | .opened d t, m => isSo (seen ds l d) t = true ∧ m = l
theorem eqv_qm (z : Str) : (V.str z = V.str "?") = (z = "?") := propext ⟨fun h => V.str.inj h, fun h => congrArg V.str h⟩
section
variable {P : Program} {w : World} {K : PySem.W.Frag} {mg : Str → Option Value} {base : Heap} {C : Addr}
def spIsSighting (K : PySem.W.Frag) (C : Addr) : SpN := fun vs H Q => ∃ a ds cs v r, vs = [.ref a, v] ∧ StoreAt K C H a ds cs ∧ RowV K H v r ∧ OkRow ds cs r ∧ ∀ H', Same H H' → Q (.bl r.isOpen) H'
abbrev s_is_sighting : Stmt := topS 54
abbrev N_is_sighting : List Str := ["store", "value", "name"]
theorem sc_is_sighting : FnScope N_is_sighting ["store", "value"] (defScope s_is_sighting) := ⟨rfl, rfl, rfl, by decide +kernel, rfl, by decide +kernel, by decide +kernel⟩
-- cells: ['store']; calls: ['Store.places_of', 'is_crate', 'is_number']
theorem cal_is_sighting (B : Base K mg) (S : StoreB K mg C) : Cal P w K mg base 4 "is_sighting" (spIsSighting K C) := by
  refine B.d_is_sighting.ok sc_is_sighting (fun vs H Q h => ?_) (fun f cdv A outer s H vs Q E hr h => ?_)
  · obtain ⟨a, ds, cs, v, r, rfl, _⟩ := h
    rfl
  · obtain ⟨a, ds, cs, v, r, rfl, sa, hv, ok, q⟩ := h
    obtain ⟨dx, ws, ha⟩ := sa.slt
    have n6 : places ds ≤ 6 := places_le sa.1.1
    refine ⟨_, (pss_cons (ps_if (PW.pt (pw_or (pt_not (pt_val (pe_callB call_isi rfl B.f_isinstance (by decide +kernel) (pa_cons (pv 1) (pa_cons (pe_bltn (v := .ty "tuple") rfl B.f_tuple (by decide +kernel) rfl) pa_nil))))) (pw_or (pt_cmpR op_ne (pe_callB call_len rfl B.f_len boot_len (pa_cons (pv 1) pa_nil)) pe_int (nomark _)) (pw_or1 (pt_cmpR op_ne (pe_ix ix_tup (pv 1) pe_int (fun _ _ => rfl)) (pe_gc rfl B.g_OPEN) (nomark _)))))) (
        (pss_one (ps_ret pe_bl)
        )) (pss_nil))
    (pss_cons (ps_if (PW.pt (pw_or (pt_not (pt_val (pe_c (cal_is_number B) hr (by decide) rfl (pa_cons (pe_ix ix_tup (pv 1) pe_int (fun _ _ => rfl)) (pa_cons pe_int (pa_cons (pe_op op_sub (pe_callB (call_lenN (met_Store___len__ B S) hr (by decide)) rfl B.f_len boot_len (pa_cons (pv 0) pa_nil)) pe_int) pa_nil)))))) (pw_or1 (pt_not (pt_val (pe_callB call_isi rfl B.f_isinstance (by decide +kernel) (pa_cons (pe_ix ix_tup (pv 1) pe_int (fun _ _ => rfl)) (pa_cons (pe_bltn (v := .ty "tuple") rfl B.f_tuple (by decide +kernel) rfl) pa_nil)))))))) (
        (pss_one (ps_ret pe_bl)
        )) (pss_nil))
    (pss_cons (ps_if (pt_cmpR op_ne (pe_callB call_len rfl B.f_len boot_len (pa_cons (pe_ix ix_tup (pv 1) pe_int (fun _ _ => rfl)) pa_nil)) (pe_callB call_len rfl B.f_len boot_len (pa_cons (pe_mS (met_Store_places_of B S) S.cls hr (by decide) (pv 0) (pa_cons (pe_ix ix_tup (pv 1) pe_int (fun _ _ => rfl)) pa_nil)) pa_nil)) (nomark _)) (
        (pss_one (ps_ret pe_bl)
        )) (pss_nil))
    (pss_one (ps_ret (pe_callB (cr_all rfl) rfl B.f_all (by decide +kernel) (pa_cons (pe_lcX (own := [("name", 2)]) rfl sc_is_sighting.nd (pi_tup (pe_ix ix_tup (pv 1) pe_int (fun _ _ => rfl))) (blkOk_by (own := [("name", 2)]) (N := N_is_sighting) (sc := defScope s_is_sighting) (by decide +kernel)) (fun _ _ _ _ _ => (pg_name (i := 2) sc_is_sighting.nd rfl (.inl rfl))) (fun _ _ _ _ _ => pts_nil) (fun _ _ _ _ _ => (pe_or (pe_cmp (pc_isN (pv 2))) (pe_or (pe_cmpR op_eq (pv 2) (pe_gc rfl B.g_FROSTED) (nomark _)) (pe_one (pe_c (cal_is_crate B S) hr (by decide) rfl (pa_cons (pv 0) (pa_cons (pv 2) pa_nil)))))))) pa_nil)))
    )))), ?_⟩
    cases r with
    | deed e =>
      obtain ⟨b, rfl, ht⟩ := hv
      refine ⟨_, rfl, _, _, _, _, _, rfl, .ty _, tyX_tup ht, kit_tup_tup, _, rfl, iteF ?_⟩
      cases e with
      | move z => exact ⟨_, rfl, _, _, rfl, .inr ⟨_, ht, rfl⟩, rfl, true, rfl, iteT (iteT (q _ (Same.refl _)))⟩
      | near z => exact ⟨_, rfl, _, _, rfl, .inr ⟨_, ht, rfl⟩, rfl, true, rfl, iteT (iteT (q _ (Same.refl _)))⟩
      | swap x y => exact ⟨_, rfl, _, _, rfl, .inr ⟨_, ht, rfl⟩, rfl, false, rfl, iteF ⟨_, rfl, _, _, _, _, rfl, rfl, ht, rfl, rfl, true, rfl, iteT (q _ (Same.refl _))⟩⟩
      | shuffle d => exact ⟨_, rfl, _, _, rfl, .inr ⟨_, ht, rfl⟩, rfl, true, rfl, iteT (iteT (q _ (Same.refl _)))⟩
    | opened d t =>
      obtain ⟨b, T, rfl, ht, hT⟩ := hv
      obtain ⟨hd, hlen, told⟩ := ok
      have dn : d < ds.length := hd
      obtain ⟨x, hx⟩ : ∃ x, ds[d]? = some x := ⟨_, List.getElem?_eq_getElem hd⟩
      have pl : (placesOf ds d).length ≤ 6 := by
        rw [placesOf_eq hx, List.length_range']
        have := beg_le hx
        omega
      refine ⟨_, rfl, _, _, _, _, _, rfl, .ty _, tyX_tup ht, kit_tup_tup, _, rfl, iteF ?_⟩
      refine ⟨_, rfl, _, _, rfl, .inr ⟨_, ht, rfl⟩, rfl, false, rfl, iteF ⟨_, rfl, _, _, _, _, rfl, rfl, ht, rfl, rfl, false, rfl, iteF ?_⟩⟩
      refine ⟨_, rfl, _, _, _, _, rfl, rfl, ht, rfl, _, rfl, a, dx, ws, rfl, ha, ⟨a, ds, cs, rfl, sa, _, rfl, ?_, _, _, rfl, rfl, _, _, _, rfl, ?_⟩⟩
      · have := sa.1.1.2.1
        omega
      · rw [decide_eq_true (show (0 : Int) ≤ ((d : Nat) : Int) by omega), decide_eq_true (show ((d : Nat) : Int) ≤ ((ds.length : Nat) : Int) - 1 by omega)]
        refine ⟨_, rfl, iteF ⟨_, rfl, _, _, _, _, rfl, rfl, ht, rfl, _, _, _, _, _, rfl, .ty _, tyX_tup hT.sq, kit_tup_tup, _, rfl, iteF ?_⟩⟩
        refine ⟨_, rfl, _, _, _, _, rfl, rfl, ht, rfl, _, _, rfl, .inr ⟨_, hT.sq, rfl⟩, _, rfl, a, dx, ws, rfl, ha, _, rfl, _, _, _, _, rfl, rfl, ht, rfl, a, ds, cs, d, rfl, sa, hd, fun t2 H1 e1 h1 => ?_⟩
        refine ⟨_, _, rfl, .inr ⟨_, h1, rfl⟩, rfl, false, bl_nf (by rw [List.length_map, List.length_map, hlen]), iteF ?_⟩
        have ht1 := e1.tup ht
        have hT1 := hT.mono e1.n
        refine ⟨_, rfl, _, _, _, _, rfl, rfl, ht1, rfl, _, rfl, ⟨_, hT1.sq⟩, ?_⟩
        refine comp_it walk_tup t (fun o => some true) (fun _ v o => v = oV o) (fun _ v b => v = .bl b) (fun _ _ _ _ _ h => h) (by rw [List.length_map]) (fun _ e => (hT1.mono e.n).sq)
          (by rw [List.length_map]; omega) (fun i H2 y H' o ho hy e => ?_) (fun i o y H' Qy Qn ho e hs ky kn => ?_) (fun D H' ys hD e g1 g2 => ?_)
        · obtain ⟨rfl, hy⟩ := hy
          obtain ⟨o', ho', rfl⟩ := oV_get hy
          rw [ho] at ho'
          cases ho'
          exact ⟨Same.refl _, rfl⟩
        · subst hs
          have tq := told o (List.mem_of_getElem? ho)
          cases o with
          | none => exact ⟨rfl, _, rfl, true, bl_t rfl, iteT (ky _ _ _ rfl (Same.refl _) rfl)⟩
          | some z =>
            refine ⟨rfl, _, rfl, false, bl_f (fun h => nomatch h), iteF ⟨_, rfl, rfl, ?_⟩⟩
            by_cases hz : z = "?"
            · exact ⟨true, bl_t (congrArg V.str hz), iteT (ky _ _ _ rfl (Same.refl _) rfl)⟩
            · have hc : z ∈ cs := by
                rcases tq with h | h | ⟨z', hz', h⟩
                · cases h
                · exact absurd (Option.some.inj h) hz
                · cases h; exact hz'
              exact ⟨false, bl_f (fun h => hz (V.str.inj h)), iteF ⟨_, rfl, _, rfl, a, ds, cs, z, rfl, sa.mono (e1.trans e).n, hc, ky _ _ _ rfl (Same.refl _) rfl⟩⟩
        · rw [fm_some] at g2
          refine ⟨_, _, rfl, SqL.of (by rw [g1, bls_of g2]), ?_⟩
          rw [all_true (fun _ _ => rfl)]
          exact q _ (e1.trans e)
def LogV (K : PySem.W.Frag) (H : Hp) (v : V) (rs : List LRow) : Prop := ∃ L vs, v = .ref L ∧ H L = some (.lst vs) ∧ Paired (RowV K H) vs rs
def spCheckLog (K : PySem.W.Frag) (C : Addr) : SpN := fun vs H Q => ∃ a ds cs v rs, vs = [.ref a, v] ∧ StoreAt K C H a ds cs ∧ LogV K H v rs ∧ rs.length ≤ 100 ∧ (∀ r ∈ rs, OkRow ds cs r) ∧ ∀ H', Same H H' → Q .non H'
abbrev s_check_log : Stmt := topS 55
abbrev N_check_log : List Str := ["store", "log", "index", "row"]
theorem sc_check_log : FnScope N_check_log ["store", "log"] (defScope s_check_log) := ⟨rfl, rfl, rfl, by decide +kernel, rfl, by decide +kernel, by decide +kernel⟩
-- cells: []; calls: ['is_deed', 'is_sighting']
theorem cal_check_log (B : Base K mg) (S : StoreB K mg C) : Cal P w K mg base 5 "check_log" (spCheckLog K C) := by
  refine B.d_check_log.ok sc_check_log (fun vs H Q h => ?_) (fun f cdv A outer s H vs Q E hr h => ?_)
  · obtain ⟨a, ds, cs, v, rs, rfl, _⟩ := h
    rfl
  · obtain ⟨a, ds, cs, v, rs, rfl, sa, ⟨L, us, rfl, hL, pr⟩, r100, ok, q⟩ := h
    refine ⟨_, (pss_one (ps_for PassesOwn.never rfl (pi_enum rfl B.f_enumerate (pa_cons (pv 1) pa_nil)) (pg_tup rfl (pgs_cons (pg_name (i := 2) sc_check_log.nd rfl (.inl rfl)) (pgs_cons (pg_name (i := 3) sc_check_log.nd rfl (.inl rfl)) pgs_nil))) (
        (pss_one (ps_if (PW.pt (pw_and (pt_not (pt_val (pe_c (cal_is_sighting B S) hr (by decide) rfl (pa_cons (pv 0) (pa_cons (pv 3) pa_nil))))) (pw_and1 (pt_not (pt_val (pe_c (cal_is_deed B S) hr (by decide) rfl (pa_cons (pv 0) (pa_cons (pv 3) pa_nil)))))))) (
            (pss_one ps_never
            )) (pss_nil))
        )))
    ), ?_⟩
    refine ⟨_, rfl, _, _, rfl, SqL.of hL, ?_⟩
    refine for_it walk_enum (fun i σ H3 => (∃ j2 j3, σ = [some (.ref a), some (.ref L), j2, j3]) ∧ Same H H3) ⟨⟨_, _, rfl⟩, Same.refl _⟩ (fun i σ H3 _ p => SqL.of (p.2 _ _ hL)) (fun i y σ H4 H3 hi p hy => ?_) (fun σ H3 p => q _ p.2)
    obtain ⟨⟨j2, j3, rfl⟩, e3⟩ := p
    obtain ⟨a1, b1, k1, k2, e4, T4, rfl, hT4⟩ := pair_of (K := K) hy
    cases k1
    obtain ⟨r, hr, hrv⟩ := Paired.get1 pr k2
    have e34 := e3.trans e4
    have okr := ok r (List.mem_of_getElem? hr)
    have hrv := e34.n.m.row hrv
    refine ⟨_, _, rfl, hT4, rfl, _, _, rfl, _, _, rfl, rfl, ?_⟩
    refine ⟨_, rfl, _, rfl, a, ds, cs, b1, r, rfl, sa.mono e34.n, hrv, okr, fun H5 e5 => ⟨_, rfl, ?_⟩⟩
    cases r with
    | opened d t => exact iteF (iteF ⟨⟨_, _, rfl⟩, e34.trans e5⟩)
    | deed e => exact iteT ⟨_, rfl, _, rfl, a, ds, cs, b1, e, rfl, sa.mono (e34.trans e5).n, e5.n.m.row (r := .deed e) hrv, okr, fun H6 e6 => ⟨_, rfl, iteF ⟨⟨_, _, rfl⟩, (e34.trans e5).trans e6⟩⟩⟩
def spIsSo (K : PySem.W.Frag) (C : Addr) : SpN := fun vs H Q => ∃ a ds cs v l u d t, vs = [.ref a, v, u] ∧ StoreAt K C H a ds cs ∧ LayV H v l ∧ l.length = places ds ∧ RowV K H u (.opened d t) ∧ t.length ≤ 6 ∧ ∀ H', Same H H' → Q (.bl (isSo (seen ds l d) t)) H'
abbrev s_is_so : Stmt := topS 56
abbrev N_is_so : List Str := ["store", "layout", "sighting", "word", "door", "seen", "name", "told"]
theorem sc_is_so : FnScope N_is_so ["store", "layout", "sighting"] (defScope s_is_so) := ⟨rfl, rfl, rfl, by decide +kernel, rfl, by decide +kernel, by decide +kernel⟩
-- cells: []; calls: ['seen_behind']
theorem cal_is_so (B : Base K mg) (S : StoreB K mg C) : Cal P w K mg base 3 "is_so" (spIsSo K C) := by
  refine B.d_is_so.ok sc_is_so (fun vs H Q h => ?_) (fun f cdv A outer s H vs Q E hr h => ?_)
  · obtain ⟨a, ds, cs, v, l, u, d, t, rfl, _⟩ := h
    rfl
  · obtain ⟨a, ds, cs, v, l, u, d, t, rfl, sa, hv, hl, ⟨b, T, rfl, ht, hT⟩, t6, q⟩ := h
    refine ⟨_, (pss_cons (ps_asg (pv 2) (pg_tup rfl (pgs_cons (pg_name (i := 3) sc_is_so.nd rfl (.inl rfl)) (pgs_cons (pg_name (i := 4) sc_is_so.nd rfl (.inl rfl)) (pgs_cons (pg_name (i := 5) sc_is_so.nd rfl (.inl rfl)) pgs_nil)))))
    (pss_cons (ps_for PassesOwn.never rfl (RZ.pi_zipA rfl B.f_zip (pa_cons (pe_c (cal_seen_behind B S) hr (by decide) rfl (pa_cons (pv 0) (pa_cons (pv 1) (pa_cons (pv 4) pa_nil)))) (pa_cons (pv 5) pa_nil))) (pg_tup rfl (pgs_cons (pg_name (i := 6) sc_is_so.nd rfl (.inl rfl)) (pgs_cons (pg_name (i := 7) sc_is_so.nd rfl (.inl rfl)) pgs_nil))) (
        (pss_one (ps_if (PW.pt (pw_and (pt_cmpR op_ne (pv 6) (pv 7) (nomark _)) (pw_and1 (PW.pt (pw_or (pt_cmpR op_ne (pv 7) (pe_gc rfl B.g_FROSTED) (nomark _)) (pw_or1 (pt_cmp (pc_isN (pv 6))))))))) (
            (pss_one (ps_ret pe_bl)
            )) (pss_nil))
        )))
    (pss_one (ps_ret pe_bl)
    ))), ?_⟩
    refine ⟨_, rfl, _, _, rfl, ht, rfl, _, _, rfl, _, _, rfl, _, _, rfl, rfl, ?_⟩
    refine ⟨_, rfl, _, rfl, _, rfl, a, ds, cs, v, l, d, rfl, sa, hv, hl, fun H1 r e1 ⟨c, er, hr1⟩ => ?_⟩
    subst er
    refine ⟨_, rfl, _, _, _, _, rfl, .inr ⟨hr1.sq, (hT.mono e1.n).sq, ?_⟩⟩
    refine for_it (walk_zipT (n := ((seen ds l d).zip t).length) (by rw [List.length_map, List.length_map, List.length_zip])) (fun i σ H3 => (∃ j6 j7, σ = [some (.ref a), some v, some (.ref b), some (.str "open"), some (nV d), some (.ref T), j6, j7]) ∧ Same H1 H3 ∧ (((seen ds l d).zip t).take i).all (fun p => pairOk p.1 p.2) = true) ⟨⟨_, _, rfl⟩, Same.refl _, rfl⟩
      (fun i σ H3 _ p => ⟨(hr1.mono p.2.1.n).sq, (hT.mono (e1.trans p.2.1).n).sq⟩) (fun i y σ H3 H4 hi p hy => ?_) (fun σ H3 p => ?_)
    · obtain ⟨⟨j6, j7, rfl⟩, e3, hall⟩ := p
      obtain ⟨a1, b1, k1, k2, e4, T4, rfl, hT4⟩ := pair_of (K := K) hy
      obtain ⟨o1, ho1, rfl⟩ := oV_get k1
      obtain ⟨o2, ho2, rfl⟩ := oV_get k2
      have hz : ((seen ds l d).zip t)[i]? = some (o1, o2) := List.getElem?_zip_eq_some.mpr ⟨ho1, ho2⟩
      have e34 := e3.trans e4
      have good : pairOk o1 o2 = true → (((seen ds l d).zip t).take (i + 1)).all (fun p => pairOk p.1 p.2) = true := fun h => by
        rw [take_succ_get hz, List.all_append, hall, Bool.true_and]
        show (pairOk o1 o2 && true) = true
        rw [h]; rfl
      have bad : pairOk o1 o2 = false → Q (.bl false) H4 := fun h => qb Q (by
        refine Eq.symm (List.all_eq_false.mpr ⟨(o1, o2), List.mem_of_getElem? hz, ?_⟩)
        show ¬ pairOk o1 o2 = true
        rw [h]; exact Bool.false_ne_true) (q H4 (e1.trans e34))
      refine ⟨_, _, rfl, hT4, rfl, _, _, rfl, _, _, rfl, rfl, ?_⟩
      refine ⟨_, rfl, _, rfl, oV_scal o1 o2, ?_⟩
      by_cases h12 : o1 = o2
      · exact ⟨false, bl_nf (congrArg oV h12), iteF (iteF ⟨⟨_, _, rfl⟩, e34, good (by unfold pairOk; rw [decide_eq_true h12]; rfl)⟩)⟩
      · refine ⟨true, bl_nt (fun z => h12 (oV_inj z)), iteT ⟨_, rfl, oV_scal o2 (some "?"), ?_⟩⟩
        by_cases hq : o2 = some "?"
        · refine ⟨false, bl_nf (congrArg oV hq), iteF ⟨_, rfl, ?_⟩⟩
          cases o1 with
          | none => exact ⟨true, bl_t rfl, iteT (bad (by unfold pairOk; rw [decide_eq_false h12, decide_eq_true hq]; rfl))⟩
          | some z => exact ⟨false, bl_f (fun h => nomatch h), iteF ⟨⟨_, _, rfl⟩, e34, good (by unfold pairOk; rw [decide_eq_false h12, decide_eq_true hq]; rfl)⟩⟩
        · exact ⟨true, bl_nt (fun z => hq (oV_inj z)), iteT (iteT (bad (by unfold pairOk; rw [decide_eq_false h12, decide_eq_false hq]; rfl)))⟩
    · obtain ⟨_, e3, hall⟩ := p
      rw [List.take_length] at hall
      exact qb Q hall.symm (q H3 (e1.trans e3))
def spBehindRow (K : PySem.W.Frag) (C : Addr) : SpN := fun vs H Q => ∃ a ds cs v l u r, vs = [.ref a, v, u] ∧ StoreAt K C H a ds cs ∧ LayV H v l ∧ IsLay (places ds) cs l ∧ RowV K H u r ∧ OkRow ds cs r ∧ ∀ H' p ls, Same H H' → H p = none → LaysV H' p ls → ls.length ≤ 46656 → (∀ m, m ∈ ls ↔ BehR ds l r m) → Q (.ref p) H'
abbrev s_behind_row : Stmt := topS 57
abbrev N_behind_row : List Str := ["store", "layout", "row"]
theorem sc_behind_row : FnScope N_behind_row ["store", "layout", "row"] (defScope s_behind_row) := ⟨rfl, rfl, rfl, by decide +kernel, rfl, by decide +kernel, by decide +kernel⟩
-- cells: []; calls: ['all_after', 'is_so']
theorem cal_behind_row (B : Base K mg) (S : StoreB K mg C) : Cal P w K mg base 11 "behind_row" (spBehindRow K C) := by
  refine B.d_behind_row.ok sc_behind_row (fun vs H Q h => ?_) (fun f cdv A outer s H vs Q E hr h => ?_)
  · obtain ⟨a, ds, cs, v, l, u, r, rfl, _⟩ := h
    rfl
  · obtain ⟨a, ds, cs, v, l, u, r, rfl, sa, hv, il, hu, ok, q⟩ := h
    refine ⟨_, (pss_cons (ps_if (pt_cmpR op_eq (pe_ix ix_tup (pv 2) pe_int (fun _ _ => rfl)) (pe_gc rfl B.g_OPEN) (nomark _)) (
        (pss_one (ps_ret (pe_ifExp (pt_val (pe_c (cal_is_so B S) hr (by decide) rfl (pa_cons (pv 0) (pa_cons (pv 1) (pa_cons (pv 2) pa_nil))))) (pe_lstN (pa_cons (pv 1) pa_nil)) (pe_lstN pa_nil)))
        )) (pss_nil))
    (pss_one (ps_ret (pe_c (cal_all_after B S) hr (by decide) rfl (pa_cons (pv 0) (pa_cons (pv 1) (pa_cons (pv 2) pa_nil)))))
    )), ?_⟩
    cases r with
    | opened d t =>
      obtain ⟨b, T, rfl, ht, hT⟩ := id hu
      have t6 : t.length ≤ 6 := by
        obtain ⟨hd, hlen, _⟩ := ok
        obtain ⟨x, hx⟩ : ∃ x, ds[d]? = some x := ⟨_, List.getElem?_eq_getElem hd⟩
        rw [hlen, placesOf_eq hx, List.length_range']
        have := beg_le hx
        have : places ds ≤ 6 := places_le sa.1.1
        omega
      refine ⟨_, rfl, _, _, _, _, rfl, rfl, ht, rfl, rfl, true, rfl, iteT ?_⟩
      refine ⟨_, rfl, _, rfl, _, rfl, a, ds, cs, v, l, .ref b, d, t, rfl, sa, hv, il.1, hu, t6, fun H1 e1 => ⟨_, rfl, ite2 (fun h => ?_) (fun h => ?_)⟩⟩
      · exact ⟨_, rfl, small (by simp), fun D H2 nD e2 hD => q _ _ [l] (e1.trans e2) (e1.free nD) ⟨_, hD, .cons (hv.mono (e1.trans e2).n) .nil⟩ (by simp) fun m => by
          rw [List.mem_singleton]
          exact ⟨fun e => ⟨h, e⟩, fun e => e.2⟩⟩
      · exact ⟨small (by simp), fun D H2 nD e2 hD => q _ _ [] (e1.trans e2) (e1.free nD) ⟨_, hD, .nil⟩ (by simp) fun m => ⟨fun h => (nomatch h), fun e => absurd e.1 h⟩⟩
    | deed e =>
      obtain ⟨b, rfl, ht⟩ := id hu
      have hd : ∃ h tl, e.items = .str h :: tl ∧ h ≠ "open" := by
        cases e with
        | move z => exact ⟨_, _, rfl, by decide⟩
        | near z => exact ⟨_, _, rfl, by decide⟩
        | swap x y => exact ⟨_, _, rfl, by decide⟩
        | shuffle d => exact ⟨_, _, rfl, by decide⟩
      obtain ⟨h, tl, eh, hne⟩ := hd
      refine ⟨_, rfl, _, _, _, _, rfl, rfl, ht, by rw [eh]; exact atI_nat (xs := V.str h :: tl) (j := 0) rfl, rfl, false, bl_f (fun z => hne (V.str.inj z)), iteF ?_⟩
      exact ⟨_, rfl, _, rfl, _, rfl, a, ds, cs, v, l, .ref b, e, rfl, sa, hv, il, hu, ok, fun H' p ls e' np lv ln mem => q H' p ls e' np lv ln mem⟩
end
end CC

/-! text D12 -/
namespace CC
open PySem PySem.Spec PyProof.Rows L2
/-! ### where a log leads -/
def Reach (ds : List Door) (rs : List LRow) (S : Lay → Prop) : Lay → Prop := rs.foldl (fun S r m => ∃ l, S l ∧ BehR ds l r m) S
theorem reach_snoc {ds : List Door} {rs : List LRow} {r : LRow} {S : Lay → Prop} {m : Lay} : Reach ds (rs ++ [r]) S m ↔ ∃ l, Reach ds rs S l ∧ BehR ds l r m := by
  unfold Reach
  rw [List.foldl_append]
  exact Iff.rfl
theorem beh_lay {ds : List Door} {cs : List Str} {l m : Lay} {r : LRow} (h : IsLay (places ds) cs l) (ok : OkRow ds cs r) (b : BehR ds l r m) : IsLay (places ds) cs m := by
  cases r with
  | opened d t => rw [b.2]; exact h
  | deed e => exact perm_lay h (after_perm h ok b)
def isI (v : V) : Prop := ∃ i, v = .int i
theorem ndo_ne_lst {P : Program} {w : World} {R : V → Prop} {H : Hp} {d L : Addr} {ns : NKeys} {xs : List V} (hd : H d = some (NDo P w R d ns)) (hL : H L = some (.lst xs)) : L ≠ d := fun z => by
  rw [z, hd] at hL
  unfold NDo at hL
  cases hL
section
variable {P : Program} {w : World} {K : PySem.W.Frag} {mg : Str → Option Value} {base : Heap} {C : Addr}
/-- a dict of counts -/
structure CntAt (P : Program) (w : World) (ds : List Door) (cs : List Str) (H : Hp) (d : Addr) (ns : NKeys) : Prop where
  at' : H d = some (NDo P w isI d ns)
  keys : KeysV H ns
  nd : (ns.map (·.1)).Nodup
  lay : ∀ m ∈ ns.map (·.1), IsLay (places ds) cs m
def spCounts (P : Program) (w : World) (K : PySem.W.Frag) (C : Addr) : SpN := fun vs H Q => ∃ a ds cs d ns v rs, vs = [.ref a, .ref d, v] ∧ StoreAt K C H a ds cs ∧ a ≠ d ∧ CntAt P w ds cs H d ns ∧ LogV K H v rs ∧ rs.length ≤ 100 ∧ (∀ r ∈ rs, OkRow ds cs r) ∧
  ∀ H' d' ns', Same H H' → CntAt P w ds cs H' d' ns' → (∀ m, m ∈ ns'.map (·.1) ↔ Reach ds rs (fun l => l ∈ ns.map (·.1)) m) → Q (.ref d') H'
abbrev s_counts_behind : Stmt := topS 58
abbrev N_counts_behind : List Str := ["store", "counts", "log", "row", "later", "layout", "count", "other"]
theorem sc_counts_behind : FnScope N_counts_behind ["store", "counts", "log"] (defScope s_counts_behind) := ⟨rfl, rfl, rfl, by decide +kernel, rfl, by decide +kernel, by decide +kernel⟩
-- cells: []; calls: ['behind_row']
theorem cal_counts_behind (B : Base K mg) (S : StoreB K mg C) : Cal P w K mg base 12 "counts_behind" (spCounts P w K C) := by
  refine B.d_counts_behind.ok sc_counts_behind (fun vs H Q h => ?_) (fun f cdv A outer s H vs Q E hr h => ?_)
  · obtain ⟨a, ds, cs, d, ns, v, rs, rfl, _⟩ := h
    rfl
  · obtain ⟨a, ds, cs, d0, ns0, v, rs, rfl, sa, ad0, c0, ⟨L, us, rfl, hL, pr⟩, r100, okr, q⟩ := h
    have n6 : places ds ≤ 6 := places_le sa.1.1
    have few : ∀ {ns : NKeys}, (ns.map (·.1)).Nodup → (∀ m ∈ ns.map (·.1), IsLay (places ds) cs m) → ns.length ≤ 46656 := fun {ns} h1 h2 => by
      have := keys_few sa.1.2 n6 h1 h2
      rwa [List.length_map] at this
    refine ⟨_, (pss_cons (ps_for PassesOwn.never rfl (pi_list (pv 2)) (pg_name (i := 3) sc_counts_behind.nd rfl (.inl rfl)) (
        (pss_cons (ps_set (i := 4) sc_counts_behind.nd rfl (.inl rfl) pe_dnewN)
        (pss_cons (ps_lock (ps_for PassesOwn.never rfl (pi_itemsN (pv 1)) (pg_tup rfl (pgs_cons (pg_name (i := 5) sc_counts_behind.nd rfl (.inl rfl)) (pgs_cons (pg_name (i := 6) sc_counts_behind.nd rfl (.inl rfl)) pgs_nil))) (
            (pss_one (ps_for PassesOwn.never rfl (pi_list (pe_c (cal_behind_row B S) hr (by decide) rfl (pa_cons (pv 0) (pa_cons (pv 5) (pa_cons (pv 3) pa_nil))))) (pg_name (i := 7) sc_counts_behind.nd rfl (.inl rfl)) (
                (pss_one (ps_asg (pe_op op_add (pe_ngetOr hr (pv 4) (pv 7) pe_int) (pv 6)) (pg_sub (pv 4) (pv 7) (set_N hr)))
                )))
            ))))
        (pss_one (ps_set (i := 1) sc_counts_behind.nd rfl (.inl rfl) (pv 4))
        )))))
    (pss_one (ps_ret (pv 1))
    )), ?_⟩
    refine ⟨_, rfl, _, rfl, ⟨_, SqL.of hL⟩, ?_⟩
    refine for_it walk_list (fun i σ H3 => ∃ d ns, (∃ j3 j4 j5 j6 j7, σ = [some (.ref a), some (.ref d), some (.ref L), j3, j4, j5, j6, j7]) ∧ Same H H3 ∧ a ≠ d ∧ CntAt P w ds cs H3 d ns ∧ ∀ m, m ∈ ns.map (·.1) ↔ Reach ds (rs.take i) (fun l => l ∈ ns0.map (·.1)) m) ?_
      (fun i σ H3 _ ⟨_, _, _, e3, _⟩ => SqL.of (e3 _ _ hL)) (fun i y σ H3' H3 hi p hy => ?_) (fun σ H3 p => ?_)
    · exact ⟨d0, ns0, ⟨_, _, _, _, _, rfl⟩, Same.refl _, ad0, c0, fun m => Iff.rfl⟩
    · obtain ⟨d, ns, ⟨j3, j4, j5, j6, j7, rfl⟩, e3, ad, c3, mem3⟩ := p
      obtain ⟨rfl, hy⟩ := hy
      obtain ⟨r, hr1, hrv⟩ := Paired.get1 pr hy
      have ok1 := okr r (List.mem_of_getElem? hr1)
      refine ⟨isI, fun e H4 ne e4 he => ?_⟩
      have hd4 := e4 _ _ c3.at'
      have de : d ≠ e := fun z => by have := c3.at'; rw [z, ne] at this; cases this
      have ae : a ≠ e := fun z => by have := (sa.mono e3.n).here; rw [z] at this; exact this ne
      refine ⟨d, _, hd4, True.intro, fun od => ?_⟩
      refine ⟨_, rfl, d, od, isI, ns, rfl, upd_same, ?_⟩
      have hk4 : KeysV H4 ns := c3.keys.mono e4.n
      refine for_it walk_itemsN (fun k σ H5 => (∃ j5 j6 j7, σ = [some (.ref a), some (.ref d), some (.ref L), some y, some (.ref e), j5, j6, j7]) ∧ (∀ b o, b ≠ d → b ≠ e → H4 b = some o → H5 b = some o) ∧ H5 d = some (.frz od (NDo P w isI d ns)) ∧
        ∃ es, CntAt P w ds cs H5 e es ∧ ∀ m, m ∈ es.map (·.1) ↔ ∃ l ∈ (ns.map (·.1)).take k, BehR ds l r m) ?_ (fun k σ H5 _ p => p.2.2.1) (fun k y5 σ H5 H6' hk p hy5 => ?_) (fun σ H5 p => ?_)
      · refine ⟨⟨_, _, _, rfl⟩, fun b o h1 h2 h => by rw [upd_ne h1]; exact h, upd_same, [], ⟨by rw [upd_ne de.symm]; exact he, fun _ h => (nomatch h), List.Pairwise.nil, fun _ h => (nomatch h)⟩, fun m => ⟨fun h => (nomatch h), fun ⟨_, h, _⟩ => (nomatch h)⟩⟩
      · obtain ⟨⟨j5, j6, j7, rfl⟩, k5, hd5, es, c5, mem5⟩ := p
        obtain ⟨T, x, y0, hx, ⟨n0, rfl⟩, rfl, nT, rfl⟩ := hy5
        have keepM : ∀ {H' : Hp}, (∀ b o, b ≠ d → b ≠ e → H4 b = some o → H' b = some o) → SameM H4 H' := fun {H'} kk b o hb n1 n2 => kk b o (fun z => by rw [z, hd4] at hb; unfold NDo at hb; cases hb; exact n2 _ rfl) (fun z => by rw [z, he] at hb; unfold NDo at hb; cases hb; exact n2 _ rfl) hb
        have storeM : ∀ {H' : Hp}, (∀ b o, b ≠ d → b ≠ e → H4 b = some o → H' b = some o) → StoreAt K C H' a ds cs := fun {H'} kk => (keepM kk).store (fun o ho => kk a o ad ae ho) (sa.mono (e3.trans e4).n)
        generalize hH6 : upd H5 T _ = H6
        obtain ⟨e6, hT6⟩ := upH hH6 nT
        clear hH6
        have k6 : ∀ b o, b ≠ d → b ≠ e → H4 b = some o → H6 b = some o := fun b o h1 h2 h => e6 _ _ (k5 b o h1 h2 h)
        have xl : IsLay (places ds) cs x.1 := c3.lay _ (List.mem_map.mpr ⟨x, List.mem_of_getElem? hx, rfl⟩)
        refine ⟨_, _, rfl, SqT.of hT6, rfl, _, _, rfl, _, _, rfl, rfl, ?_⟩
        refine ⟨_, rfl, _, rfl, _, rfl, a, ds, cs, .ref x.2, x.1, y, r, rfl, storeM k6, ⟨x.2, rfl, (keepM k6).tupF (hk4 x (List.mem_of_getElem? hx))⟩, xl, ((e3.trans e4).n.m.trans (keepM k6)).row hrv, ok1, fun H7 p ls e7 np lv ln mem => ?_⟩
        obtain ⟨rvs, hp7, pr7⟩ := lv
        have dp : d ≠ p := fun z => by have := e6 _ _ hd5; rw [z, np] at this; cases this
        have ep : e ≠ p := fun z => by have := e6 _ _ c5.at'; rw [z, np] at this; cases this
        refine ⟨_, rfl, ⟨_, SqL.of hp7⟩, ?_⟩
        have e57 := e6.trans e7
        refine for_it walk_list (fun j σ H8 => (∃ j7, σ = [some (.ref a), some (.ref d), some (.ref L), some y, some (.ref e), some (.ref x.2), some (.int n0), j7]) ∧ (∀ b o, b ≠ d → b ≠ e → H4 b = some o → H8 b = some o) ∧ H8 d = some (.frz od (NDo P w isI d ns)) ∧ H8 p = some (.lst rvs) ∧ Paired (LayV H8) rvs ls ∧
          ∃ es', CntAt P w ds cs H8 e es' ∧ ∀ m, m ∈ es'.map (·.1) ↔ (∃ l ∈ (ns.map (·.1)).take k, BehR ds l r m) ∨ m ∈ ls.take j) ?_ (fun j σ H8 _ p => SqL.of p.2.2.2.1) (fun j y8 σ H9 H8 hj p hy8 => ?_) (fun σ H8 p => ?_)
        · exact ⟨⟨_, rfl⟩, fun b o h1 h2 h => e57 _ _ (k5 b o h1 h2 h), e57 _ _ hd5, hp7, pr7, es, ⟨e57 _ _ c5.at', c5.keys.mono e57.n, c5.nd, c5.lay⟩, fun m => by rw [mem5 m, List.take_zero]; exact ⟨.inl, fun h => h.elim id fun h => nomatch h⟩⟩
        · obtain ⟨⟨j7, rfl⟩, k8, hd8, hp8, pr8, es8, c8, mem8⟩ := p
          obtain ⟨rfl, hy8⟩ := hy8
          obtain ⟨t, htl, ⟨ta, rfl, hta⟩⟩ := Paired.get1 pr8 hy8
          have tl := beh_lay xl ok1 ((mem t).mp (List.mem_of_getElem? htl))
          refine ⟨_, rfl, e, isI, es8, rfl, .inl c8.at', _, rfl, ta, t, rfl, .inl c8.at', c8.keys, hta, ⟨0, rfl⟩, fun v9 ⟨n9, ev⟩ => ?_⟩
          subst ev
          refine ⟨_, rfl, _, _, rfl, rfl, _, rfl, _, rfl, isI, e, ta, es8, t, rfl, rfl, c8.at', c8.keys, hta, ⟨_, rfl⟩, Nat.lt_of_le_of_lt (few c8.nd c8.lay) (by decide), fun H10 k10 he10 => ?_⟩
          refine ⟨⟨_, rfl⟩, fun b o h1 h2 h => k10 _ _ h2 (k8 b o h1 h2 h), k10 _ _ de hd8, k10 _ _ ep.symm hp8, ?_, putN es8 t ta, ⟨he10, fun z hz => TupF.byk c8.at' k10 (putN_keysV c8.keys hta z hz), putN_nodup c8.nd _ _, fun m hm => ?_⟩, fun m => ?_⟩
          · exact Paired.imp (fun _ _ ⟨b, q, h⟩ => ⟨b, q, TupF.byk c8.at' k10 h⟩) pr8
          · rcases putN_mem.mp hm with h | h
            · exact c8.lay m h
            · rw [h]; exact tl
          · rw [putN_mem, mem8 m, take_succ_get htl, List.mem_append, List.mem_singleton, or_assoc]
        · obtain ⟨⟨j7, rfl⟩, k8, hd8, hp8, pr8, es8, c8, mem8⟩ := p
          refine ⟨⟨_, _, _, rfl⟩, k8, hd8, es8, c8, fun m => ?_⟩
          have hl : rvs.length = ls.length := Paired.len pr7
          rw [mem8 m, hl, List.take_length, take_succ_get (show (ns.map (·.1))[k]? = some x.1 by rw [List.getElem?_map, hx]; rfl), mem m]
          constructor
          · rintro (⟨l, h1, h2⟩ | h)
            · exact ⟨l, List.mem_append_left _ h1, h2⟩
            · exact ⟨x.1, List.mem_append_right _ (List.mem_singleton.mpr rfl), h⟩
          · rintro ⟨l, h1, h2⟩
            rcases List.mem_append.mp h1 with h1 | h1
            · exact .inl ⟨l, h1, h2⟩
            · rw [List.mem_singleton.mp h1] at h2
              exact .inr h2
      · obtain ⟨⟨j5, j6, j7, rfl⟩, k5, hd5, es, c5, mem5⟩ := p
        refine ⟨hd5, _, rfl, e, es, ⟨_, _, _, _, _, rfl⟩, e3.trans fun b o hb => ?_, ae, ⟨by rw [upd_ne de.symm]; exact c5.at', fun z hz => ?_, c5.nd, c5.lay⟩, fun m => ?_⟩
        · by_cases hbd : b = d
          · rw [hbd, upd_same, ← c3.at', ← hbd]; exact hb
          · rw [upd_ne hbd]
            exact k5 b o hbd (fun z => by rw [z, ne] at hb; cases hb) (e4 _ _ hb)
        · obtain ⟨o, ho, hn⟩ := c5.keys z hz
          exact ⟨o, by rw [upd_ne (fun zz => by rw [zz, hd5] at ho; cases ho)]; exact ho, hn⟩
        · rw [mem5 m, take_succ_get hr1, reach_snoc]
          have : ns.length = (ns.map (·.1)).length := (List.length_map _).symm
          rw [this, List.take_length]
          exact ⟨fun ⟨l, h1, h2⟩ => ⟨l, (mem3 l).mp h1, h2⟩, fun ⟨l, h1, h2⟩ => ⟨l, (mem3 l).mpr h1, h2⟩⟩
    · obtain ⟨d, ns, ⟨j3, j4, j5, j6, j7, rfl⟩, e3, ad, c3, mem3⟩ := p
      refine ⟨_, rfl, q H3 d ns e3 c3 fun m => ?_⟩
      rw [mem3 m, Paired.len pr, List.take_length]
end
end CC

/-! text D13 -/
namespace CC
open PySem PySem.Spec PyProof.Rows L2
theorem ip_addS {X : Cx} : PIp X .Add (fun x y H Q => ∃ i j : Str, x = .str i ∧ y = .str j ∧ i.length + j.length ≤ sizeLine ∧ Q (.str (i ++ j)) H) := fun pins s σ H x y v u Q I rx ry h => iop_add_str pins s σ H x y v u Q I rx ry h
/-- a dict comprehension over layouts -/
theorem dcN_it {P : Program} {w : World} {R : V → Prop} {J : It} {n : Nat} {G : Hp → Prop} {Y : Nat → Hp → V → Hp → Prop} {g : TG} {tk tv : TE} {vs : List Nat} {σ : L2.St} {H1 : Hp} {Qd : Addr → Hp → Prop} (wk : Walk J n G Y) (as : List Lay) (Src : Hp → V → Lay → Prop)
    (hn : as.length = n) (nd : as.Nodup) (hG : ∀ H', Same H1 H' → G H') (hz : n ≤ 100000)
    (hY : ∀ (i : Nat) H x H' a, as[i]? = some a → Y i H x H' → Same H1 H → Same H H' ∧ Src H' x a)
    (step : ∀ (i : Nat) a x H' (Qy : V → V → Hp → Prop), as[i]? = some a → Same H1 H' → Src H' x a → (∀ y z H4, Same H' H4 → LayV H4 y a → R z → Qy y z H4) → g x (wipe σ vs) H' fun σ2 H2 => wipe σ2 vs = wipe σ vs ∧ tk σ2 H2 fun y H4 => tv σ2 H4 fun z H5 => Qy y z H5)
    (fin : ∀ D H' ks, H1 D = none → Same H1 H' → H' D = some (NDo P w R D ks) → KeysV H' ks → ks.map (·.1) = as → Qd D H') :
    ∃ R : V → Prop, ∀ D, H1 D = none → ∃ W : Nat → Nat → Hp → Prop, (∃ m, W 0 m (upd H1 D (NDo P w R D []))) ∧ ∀ i m H, W i m H →
      (J.stop i H ∧ Qd D H) ∨ (J.go i H ∧ ∃ Nx : Hp → Prop, (∀ H', Nx H' → ∃ m', m' < m ∧ W (i + 1) m' H') ∧ ∀ x H', J.yld i H x H' → g x (wipe σ vs) H' fun σ2 H2 => wipe σ2 vs = wipe σ vs ∧ tk σ2 H2 fun y H4 => tv σ2 H4 fun z H5 => putD P w D y z H5 Nx) := by
  refine ⟨R, fun D hD => ⟨fun i m H => m = n - i ∧ i ≤ n ∧ Same H1 H ∧ ∃ ks, H D = some (NDo P w R D ks) ∧ KeysV H ks ∧ ks.map (·.1) = as.take i, ⟨n, by simp, Nat.zero_le _, Same.new hD, [], upd_same, fun _ h => (nomatch h), by simp⟩, ?_⟩⟩
  rintro i m H ⟨rfl, hi, e1, ks, hd, hk, hks⟩
  have q := hG H e1
  by_cases hlt : i < n
  · refine .inr ⟨wk.goes i H hlt q, fun H' => Same H1 H' ∧ ∃ ks, H' D = some (NDo P w R D ks) ∧ KeysV H' ks ∧ ks.map (·.1) = as.take (i + 1), fun H' p' => ⟨n - (i + 1), by omega, rfl, hlt, p'⟩, fun x H' y => ?_⟩
    obtain ⟨a, ha⟩ : ∃ a, as[i]? = some a := ⟨_, List.getElem?_eq_getElem (by omega)⟩
    obtain ⟨e2, hs⟩ := hY i H x H' a ha (wk.yields i H x H' hlt q y) e1
    refine step i a x H' (fun y z H5 => putD P w D y z H5 fun H' => Same H1 H' ∧ ∃ ks, H' D = some (NDo P w R D ks) ∧ KeysV H' ks ∧ ks.map (·.1) = as.take (i + 1)) ha (e1.trans e2) hs fun y z H4 e4 ⟨b, eb, hb⟩ hz' => ?_
    have e24 := e2.trans e4
    have hd4 := e24 _ _ hd
    have hl : ks.length = i := by
      have := congrArg List.length hks
      rw [List.length_map, List.length_take] at this
      omega
    have hnot : a ∉ ks.map (·.1) := fun hm => by
      rw [hks] at hm
      obtain ⟨k, hk1, hk2⟩ := List.mem_take_iff_getElem.mp hm
      have hki : k < as.length := by omega
      have : as[k]? = as[i]? := by rw [ha, List.getElem?_eq_getElem hki, hk2]
      have := (List.getElem?_inj hki nd).mp this
      omega
    refine ⟨R, b, ks, a, eb, hd4, hk.mono e24.n, hb, hz', Nat.lt_of_le_of_lt (show ks.length ≤ 100000 by omega) (by decide), (e1.trans e24).mut hD, putN ks a b, upd_same, fun z hzz => TupF.byk (d := D) hd4 (fun c o nc ho => by rw [upd_ne nc]; exact ho) (putN_keysV (hk.mono e24.n) hb z hzz), ?_⟩
    rw [putN_keys, if_neg hnot, hks, take_succ_get ha]
  · have e : i = n := by omega
    subst e
    refine .inl ⟨wk.stops H q, fin D H ks hD e1 hd hk ?_⟩
    rw [hks, ← hn, List.take_length]
theorem reach_congr {ds : List Door} {S S' : Lay → Prop} (h : ∀ l, S l ↔ S' l) : ∀ (rs : List LRow) (m : Lay), Reach ds rs S m ↔ Reach ds rs S' m := fun rs m => by
  rw [show S = S' from funext fun l => propext (h l)]
section
variable {P : Program} {w : World} {K : PySem.W.Frag} {mg : Str → Option Value} {base : Heap} {C : Addr}
/-- the layouts possible at the end -/
structure Ends2 (ds : List Door) (cs : List Str) (rs : List LRow) (ks : List Lay) : Prop where
  nd : ks.Nodup
  lay : ∀ m ∈ ks, IsLay (places ds) cs m
  mem : ∀ m, m ∈ ks ↔ Reach ds rs (IsLay (places ds) cs) m
def LogIn (K : PySem.W.Frag) (C : Addr) (H : Hp) (a : Addr) (v : V) (ds : List Door) (cs : List Str) (rs : List LRow) : Prop := StoreAt K C H a ds cs ∧ LogV K H v rs ∧ rs.length ≤ 100 ∧ ∀ r ∈ rs, OkRow ds cs r
def spAllNow (K : PySem.W.Frag) (C : Addr) : SpN := fun vs H Q => ∃ a ds cs v rs, vs = [.ref a, v] ∧ LogIn K C H a v ds cs rs ∧ ∀ H' p ks, Same H H' → H p = none → Ends2 ds cs rs ks → LaysV H' p (sortL ks) → Q (.ref p) H'
abbrev s_all_now : Stmt := topS 59
abbrev N_all_now : List Str := ["store", "log", "layout"]
theorem sc_all_now : FnScope N_all_now ["store", "log"] (defScope s_all_now) := ⟨rfl, rfl, rfl, by decide +kernel, rfl, by decide +kernel, by decide +kernel⟩
-- cells: []; calls: ['all_layouts', 'counts_behind', 'in_order']
theorem cal_all_now (B : Base K mg) (S : StoreB K mg C) : Cal P w K mg base 13 "all_now" (spAllNow K C) := by
  refine B.d_all_now.ok sc_all_now (fun vs H Q h => ?_) (fun f cdv A outer s H vs Q E hr h => ?_)
  · obtain ⟨a, ds, cs, v, rs, rfl, _⟩ := h
    rfl
  · obtain ⟨a, ds, cs, v, rs, rfl, ⟨sa, lv, r100, okr⟩, q⟩ := h
    have n6 : places ds ≤ 6 := places_le sa.1.1
    refine ⟨_, (pss_one (ps_ret (pe_c (cal_in_order B) hr (by decide) rfl (pa_cons (pe_c (cal_counts_behind B S) hr (by decide) rfl (pa_cons (pv 0) (pa_cons (pe_dcN (own := [("layout", 2)]) hr rfl sc_all_now.nd (pi_list (pe_c (cal_all_layouts B S) hr (by decide) rfl (pa_cons (pv 0) pa_nil))) (blkOk_by (own := [("layout", 2)]) (N := N_all_now) (sc := defScope s_all_now) (by decide +kernel)) (fun _ _ _ _ _ => (pg_name (i := 2) sc_all_now.nd rfl (.inl rfl))) (fun _ _ _ _ _ => (pv 2)) (fun _ _ _ _ _ => pe_int)) (pa_cons (pv 1) pa_nil)))) pa_nil)))
    ), ?_⟩
    refine ⟨_, rfl, _, rfl, a, ds, cs, rfl, sa, fun H1 r e1 nr lr => ⟨_, rfl, ⟨_, SqL.of lr.choose_spec.1⟩, ?_⟩⟩
    obtain ⟨rvs, hr1, pr1⟩ := id lr
    have hz : (allLay ds cs).length ≤ 46656 := Nat.le_trans (layAt_len sa.1.2.2.1 _) (pow6 n6)
    have hrl : rvs.length = (allLay ds cs).length := Paired.len pr1
    refine dcN_it (P := P) (w := w) (R := isI) walk_list (allLay ds cs) LayV hrl.symm (layAt_nodup (crates_nodup sa.1.2) _) (fun H' e => SqL.of (e _ _ hr1)) (by omega) (fun i H2 y H' l hl hy e => ?_) (fun i l y H' Qy hl e hs ky => ?_) (fun D H' ns nD e hD hk hks => ?_)
    · obtain ⟨rfl, hy⟩ := hy
      obtain ⟨v', hv', hlv⟩ := Paired.get pr1 hl
      rw [hy] at hv'
      cases hv'
      exact ⟨Same.refl _, hlv.mono e.n⟩
    · exact ⟨rfl, _, rfl, ky _ _ _ (Same.refl _) hs ⟨1, rfl⟩⟩
    · have e2 := e1.trans e
      have cok : CntAt P w ds cs H' D ns := ⟨hD, hk, by rw [hks]; exact layAt_nodup (crates_nodup sa.1.2) _, fun m hm => by rw [hks] at hm; exact (allLay_mem sa.1.2).mp hm⟩
      have aD : a ≠ D := fun z => (sa.mono e1.n).here (z ▸ nD)
      obtain ⟨L, us, rfl, hL, pr⟩ := lv
      refine ⟨_, rfl, a, ds, cs, D, ns, .ref L, rs, rfl, sa.mono e2.n, aD, cok, ⟨L, us, rfl, e2 _ _ hL, Paired.imp (fun _ _ h => e2.n.m.row h) pr⟩, r100, okr, fun H4 d4 ns4 e4 c4 mem4 => ?_⟩
      have en : Ends2 ds cs rs (ns4.map (·.1)) := ⟨c4.nd, c4.lay, fun m => (mem4 m).trans (reach_congr (fun l => by rw [hks]; exact allLay_mem sa.1.2) rs m)⟩
      have p1 : 1 ≤ places ds := Nat.le_trans sa.1.2.1 sa.1.2.2.2.1
      refine ⟨d4, isI, ns4, rfl, .inl c4.at', c4.keys, fun b hb => ⟨fun z => ?_, by rw [(c4.lay b hb).1]; omega⟩, fun H5 p e5 np lp => q H5 p _ ((e2.trans e4).trans e5) ((e2.trans e4).free np) en lp⟩
      have := (c4.lay b hb).1
      rw [z] at this
      have : (0 : Nat) = places ds := this
      omega
end
end CC

/-! text D14 -/
namespace CC
open PySem PySem.Spec PyProof.Rows L2
/-! ### texts -/
theorem str_len_app (a b : Str) : (a ++ b).length = a.length + b.length := by
  show (a.cps ++ b.cps).size = _
  exact Array.size_append
theorem str_app_assoc (a b c : Str) : a ++ b ++ c = a ++ (b ++ c) := by
  show (⟨a.cps ++ b.cps ++ c.cps⟩ : Str) = ⟨a.cps ++ (b.cps ++ c.cps)⟩
  rw [Array.append_assoc]
theorem str_empty_app (a : Str) : Str.empty ++ a = a := by
  show (⟨#[] ++ a.cps⟩ : Str) = a
  rw [Array.empty_append]
/-! ### the table, plainly -/
def sgn (ls : List Lay) (z : Str) (k : Nat) : Str := if ls.all (fun l => decide (l.getD k none = some z)) then "#" else if ls.any (fun l => decide (l.getD k none = some z)) then "+" else "."
def isEdge (ds : List Door) (k : Nat) : Bool := decide (0 < k) && !decide ((edges ds)[k]? = (edges ds)[k - 1]?)
def signsTo (ds : List Door) (f : Nat → Str) : Nat → Str
  | 0 => ""
  | k + 1 => signsTo ds f k ++ ((if isEdge ds k then ("|" : Str) else "") ++ f k)
def lineOf (ds : List Door) (ls : List Lay) (z : Str) : Str := z ++ " " ++ signsTo ds (sgn ls z) (places ds)
def tableText (ds : List Door) (cs : List Str) (ls : List Lay) : Str := Txt.join "\n" (cs.map (lineOf ds ls))
theorem sgn_len (ls : List Lay) (z : Str) (k : Nat) : (sgn ls z k).length = 1 := by
  unfold sgn
  split
  · rfl
  · split <;> rfl
theorem signs_len {ds : List Door} {f : Nat → Str} (h : ∀ k, (f k).length = 1) : ∀ k, (signsTo ds f k).length ≤ 2 * k
  | 0 => Nat.le_refl _
  | k + 1 => by
    show (signsTo ds f k ++ _).length ≤ _
    rw [str_len_app, str_len_app, h k]
    have := signs_len (ds := ds) h k
    have : (if isEdge ds k then ("|" : Str) else "").length ≤ 1 := by split <;> decide
    omega
theorem sgn_congr {ls ms : List Lay} (h : ∀ l, l ∈ ls ↔ l ∈ ms) (z : Str) (k : Nat) : sgn ls z k = sgn ms z k := by
  have h1 : ls.all (fun l => decide (l.getD k none = some z)) = ms.all (fun l => decide (l.getD k none = some z)) := by
    rw [Bool.eq_iff_iff, List.all_eq_true, List.all_eq_true]
    exact ⟨fun q x hx => q x ((h x).mpr hx), fun q x hx => q x ((h x).mp hx)⟩
  have h2 : ls.any (fun l => decide (l.getD k none = some z)) = ms.any (fun l => decide (l.getD k none = some z)) := by
    rw [Bool.eq_iff_iff, List.any_eq_true, List.any_eq_true]
    exact ⟨fun ⟨x, hx, q⟩ => ⟨x, (h x).mp hx, q⟩, fun ⟨x, hx, q⟩ => ⟨x, (h x).mpr hx, q⟩⟩
  unfold sgn
  rw [h1, h2]
theorem table_congr {ls ms : List Lay} (h : ∀ l, l ∈ ls ↔ l ∈ ms) (ds : List Door) (cs : List Str) : tableText ds cs ls = tableText ds cs ms := by
  unfold tableText lineOf
  congr 1
  refine List.map_congr_left fun z _ => ?_
  rw [show sgn ls z = sgn ms z from funext fun k => sgn_congr h z k]
theorem sortL_mem {ls : List Lay} {l : Lay} : l ∈ sortL ls ↔ l ∈ ls := (List.mergeSort_perm ls _).mem_iff
theorem sortL_len (ls : List Lay) : (sortL ls).length = ls.length := List.length_mergeSort _
theorem sum_le {b : Nat} : ∀ {l : List Nat}, (∀ x ∈ l, x ≤ b) → l.sum ≤ l.length * b
  | [], _ => Nat.zero_le _
  | x :: t, h => by
    rw [List.sum_cons, List.length_cons, Nat.succ_mul]
    have := h x List.mem_cons_self
    have := sum_le (l := t) fun y hy => h y (List.mem_cons_of_mem _ hy)
    omega
section
variable {P : Program} {w : World} {K : PySem.W.Frag} {mg : Str → Option Value} {base : Heap} {C : Addr}
abbrev s_now : Stmt := topS 60
abbrev N_now : List Str := ["store", "log"]
theorem sc_now : FnScope N_now ["store", "log"] (defScope s_now) := ⟨rfl, rfl, rfl, by decide +kernel, rfl, by decide +kernel, by decide +kernel⟩
-- cells: []; calls: ['all_now', 'check_log']
theorem cal_now (B : Base K mg) (S : StoreB K mg C) : Cal P w K mg base 14 "now" (spAllNow K C) := by
  refine B.d_now.ok sc_now (fun vs H Q h => ?_) (fun f cdv A outer s H vs Q E hr h => ?_)
  · obtain ⟨a, ds, cs, v, rs, rfl, _⟩ := h
    rfl
  · obtain ⟨a, ds, cs, v, rs, rfl, ⟨sa, lv, r100, okr⟩, q⟩ := h
    refine ⟨_, (pss_cons (ps_expr (pe_c (cal_check_log B S) hr (by decide) rfl (pa_cons (pv 0) (pa_cons (pv 1) pa_nil))))
    (pss_one (ps_ret (pe_c (cal_all_now B S) hr (by decide) rfl (pa_cons (pv 0) (pa_cons (pv 1) pa_nil))))
    )), ?_⟩
    refine ⟨_, rfl, _, rfl, a, ds, cs, v, rs, rfl, sa, lv, r100, okr, fun H1 e1 => ?_⟩
    obtain ⟨L, us, rfl, hL, pr⟩ := lv
    exact ⟨_, rfl, _, rfl, a, ds, cs, .ref L, rs, rfl, ⟨sa.mono e1.n, ⟨L, us, rfl, e1 _ _ hL, Paired.imp (fun _ _ h => e1.n.m.row h) pr⟩, r100, okr⟩, fun H2 p ks e2 np en lp => q H2 p ks (e1.trans e2) (e1.free np) en lp⟩
def spNeed (K : PySem.W.Frag) : SpN := fun vs H Q => ∃ r ls, vs = [.ref r] ∧ LaysV H r ls ∧ (∀ l ∈ ls, NmOk l) ∧ ls ≠ [] ∧ ∀ H', Same H H' → Q .non H'
theorem laysD {K : PySem.W.Frag} {H : Hp} {us : List V} {ls : List Lay} (p : Paired (LayV H) us ls) : DpAll K H us (ls.map layD) := DpAll.pair (F := LayV H) (fun v a ⟨b, e, h⟩ => by rw [e]; exact Dp_lay h.sq) p
theorem laysS {ls : List Lay} (h : ∀ l ∈ ls, NmOk l) : ∀ x ∈ ls.map layD, Sh 1 x := fun x hx => by
  obtain ⟨l, hl, rfl⟩ := List.mem_map.mp hx
  exact Sh_lay (h l hl)
abbrev s_need_some : Stmt := topS 61
abbrev N_need_some : List Str := ["rows"]
theorem sc_need_some : FnScope N_need_some ["rows"] (defScope s_need_some) := ⟨rfl, rfl, rfl, by decide +kernel, rfl, by decide +kernel, by decide +kernel⟩
-- cells: []; calls: []
theorem cal_need_some (B : Base K mg) : Cal P w K mg base 1 "need_some" (spNeed K) := by
  refine B.d_need_some.ok sc_need_some (fun vs H Q h => ?_) (fun f cdv A outer s H vs Q E hr h => ?_)
  · obtain ⟨r, ls, rfl, _⟩ := h
    rfl
  · obtain ⟨r, ls, rfl, ⟨us, hr1, pr⟩, nm, ne, q⟩ := h
    refine ⟨_, (pss_one (ps_if (pt_cmpR (op_eqD hr.units) (pv 0) (pe_lstN pa_nil) (nomark _)) (
        (pss_one ps_never
        )) (pss_nil))
    ), ?_⟩
    refine ⟨_, rfl, small (by simp), fun D H1 nD e1 hD => ?_⟩
    have une : us ≠ [] := fun z => ne (List.length_eq_zero_iff.mp (by rw [← Paired.len pr, z]; rfl))
    refine rEq_nil _ 1 (by decide) (SqL.of (e1 _ _ hr1)) (SqL.of hD) (laysD (pmono e1.n pr)) (laysS nm) ⟨_, rfl, ?_⟩
    rw [decide_eq_false une]
    exact iteF (q _ e1)
theorem Ends2.nm {ds : List Door} {cs : List Str} {rs : List LRow} {ks : List Lay} (h : Ends2 ds cs rs ks) (w : ∀ c ∈ cs, IsWord c) : ∀ l ∈ sortL ks, NmOk l := fun l hl => lay_ok (h.lay l (sortL_mem.mp hl)) w
def spSomeNow (K : PySem.W.Frag) (C : Addr) : SpN := fun vs H Q => ∃ a ds cs v rs, vs = [.ref a, v] ∧ LogIn K C H a v ds cs rs ∧ (∃ m, Reach ds rs (IsLay (places ds) cs) m) ∧ ∀ H' p ks, Same H H' → H p = none → Ends2 ds cs rs ks → LaysV H' p (sortL ks) → Q (.ref p) H'
abbrev s_some_now : Stmt := topS 62
abbrev N_some_now : List Str := ["store", "log", "rows"]
theorem sc_some_now : FnScope N_some_now ["store", "log"] (defScope s_some_now) := ⟨rfl, rfl, rfl, by decide +kernel, rfl, by decide +kernel, by decide +kernel⟩
-- cells: []; calls: ['need_some', 'now']
theorem cal_some_now (B : Base K mg) (S : StoreB K mg C) : Cal P w K mg base 15 "some_now" (spSomeNow K C) := by
  refine B.d_some_now.ok sc_some_now (fun vs H Q h => ?_) (fun f cdv A outer s H vs Q E hr h => ?_)
  · obtain ⟨a, ds, cs, v, rs, rfl, _⟩ := h
    rfl
  · obtain ⟨a, ds, cs, v, rs, rfl, li, ⟨m, hm⟩, q⟩ := h
    refine ⟨_, (pss_cons (ps_set (i := 2) sc_some_now.nd rfl (.inl rfl) (pe_c (cal_now B S) hr (by decide) rfl (pa_cons (pv 0) (pa_cons (pv 1) pa_nil))))
    (pss_cons (ps_expr (pe_c (cal_need_some B) hr (by decide) rfl (pa_cons (pv 2) pa_nil)))
    (pss_one (ps_ret (pv 2))
    ))), ?_⟩
    refine ⟨_, rfl, _, rfl, a, ds, cs, v, rs, rfl, li, fun H1 p ks e1 np en lp => ?_⟩
    refine ⟨_, rfl, p, sortL ks, rfl, lp, en.nm li.1.1.2.2.2.2.1, fun z => ?_, fun H2 e2 => ⟨_, rfl, q H2 p ks (e1.trans e2) np en (lp.mono e2)⟩⟩
    have := sortL_mem.mpr ((en.mem m).mpr hm)
    rw [z] at this
    cases this
def spSign (K : PySem.W.Frag) : SpN := fun vs H Q => ∃ r ls z k, vs = [.ref r, .str z, nV k] ∧ LaysV H r ls ∧ ls.length ≤ 46656 ∧ (∀ l ∈ ls, k < l.length) ∧ ∀ H', Same H H' → Q (.str (sgn ls z k)) H'
abbrev s_sign_of : Stmt := topS 64
abbrev N_sign_of : List Str := ["rows", "name", "place", "there", "row"]
theorem sc_sign_of : FnScope N_sign_of ["rows", "name", "place"] (defScope s_sign_of) := ⟨rfl, rfl, rfl, by decide +kernel, rfl, by decide +kernel, by decide +kernel⟩
-- cells: ['name', 'place']; calls: []
theorem cal_sign_of (B : Base K mg) : Cal P w K mg base 1 "sign_of" (spSign K) := by
  refine B.d_sign_of.ok sc_sign_of (fun vs H Q h => ?_) (fun f cdv A outer s H vs Q E hr h => ?_)
  · obtain ⟨r, ls, z, k, rfl, _⟩ := h
    rfl
  · obtain ⟨r, ls, z, k, rfl, ⟨us, hr1, pr⟩, hz, hk, q⟩ := h
    refine ⟨_, (pss_cons (ps_setLcX (i := 3) (own := [("row", 4)]) rfl sc_sign_of.nd rfl rfl (sw_true rfl rfl rfl rfl) (pi_list (pv 0)) (blkOk_by (own := [("row", 4)]) (N := N_sign_of) (sc := defScope s_sign_of) (by decide +kernel)) (fun _ _ _ _ _ => (pg_name (i := 4) sc_sign_of.nd rfl (.inl rfl))) (fun _ _ _ _ _ => pts_nil) (fun _ _ _ _ _ => (pe_cmpR op_eq (pe_ix ix_tup (pv 4) (pv 2) (fun _ _ => rfl)) (pv 1) (nomark _))))
    (pss_cons (ps_if (pt_val (pe_callB (cr_all rfl) rfl B.f_all (by decide +kernel) (pa_cons (pv 3) pa_nil))) (
        (pss_one (ps_ret pe_str)
        )) (pss_nil))
    (pss_one (ps_ret (pe_ifExp (pt_val (pe_callB (cr_any rfl) rfl B.f_any (by decide +kernel) (pa_cons (pv 3) pa_nil))) pe_str pe_str))
    ))), ?_⟩
    refine ⟨_, rfl, _, rfl, ⟨_, SqL.of hr1⟩, ?_⟩
    refine comp_it walk_list ls (fun l => some (decide (l.getD k none = some z))) LayV (fun _ v b => v = .bl b) (fun _ _ _ _ _ h => h) (Paired.len pr).symm (fun _ e => SqL.of (e _ _ hr1))
      (by rw [Paired.len pr]; omega) (fun i H2 y H' l hl hy e => ?_) (fun i l y H' Qy Qn hl e hs ky kn => ?_) (fun D H' ys hD e g1 g2 => ?_)
    · obtain ⟨rfl, hy⟩ := hy
      obtain ⟨v', hv', hlv⟩ := Paired.get pr hl
      rw [hy] at hv'
      cases hv'
      exact ⟨Same.refl _, hlv.mono e.n⟩
    · obtain ⟨b, rfl, hb⟩ := hs
      have kl := hk l (List.mem_of_getElem? hl)
      have hg : l[k]? = some (l.getD k none) := by rw [List.getD_eq_getElem?_getD, List.getElem?_eq_getElem kl]; rfl
      refine ⟨rfl, _, rfl, _, rfl, _, _, _, _, rfl, rfl, hb.sq, atI_nat (map_get hg), _, rfl, oV_scal _ (some z), ?_⟩
      refine ky _ _ _ rfl (Same.refl _) ?_
      exact congrArg V.bl (oV_eq _ (some z))
    · rw [fm_some] at g2
      have hD' : SqL K H' D ((ls.map fun l => decide (l.getD k none = some z)).map V.bl) := SqL.of (by rw [g1, bls_of g2])
      have q1 := q _ e
      refine ⟨_, rfl, _, _, rfl, hD', ?_⟩
      rw [List.all_map]
      refine ⟨_, rfl, ite2 (fun h => ?_) (fun h => ?_)⟩
      · have h : ls.all (fun l => decide (l.getD k none = some z)) = true := h
        unfold sgn at q1
        rwa [if_pos h] at q1
      · have h : ¬ ls.all (fun l => decide (l.getD k none = some z)) = true := h
        unfold sgn at q1
        rw [if_neg h] at q1
        refine ⟨_, rfl, _, _, rfl, hD', ?_⟩
        rw [List.any_map]
        refine ⟨_, rfl, ite2 (fun h2 => ?_) (fun h2 => ?_)⟩
        · have h2 : ls.any (fun l => decide (l.getD k none = some z)) = true := h2
          rwa [if_pos h2] at q1
        · have h2 : ¬ ls.any (fun l => decide (l.getD k none = some z)) = true := h2
          rwa [if_neg h2] at q1
def spTable (K : PySem.W.Frag) (C : Addr) : SpN := fun vs H Q => ∃ a ds cs v rs, vs = [.ref a, v] ∧ LogIn K C H a v ds cs rs ∧ (∃ m, Reach ds rs (IsLay (places ds) cs) m) ∧ ∀ H' ks, Same H H' → Ends2 ds cs rs ks → Q (.str (tableText ds cs ks)) H'
abbrev s_table : Stmt := topS 65
abbrev N_table : List Str := ["store", "log", "rows", "lines", "name", "signs", "place", "is_edge"]
theorem sc_table : FnScope N_table ["store", "log"] (defScope s_table) := ⟨rfl, rfl, rfl, by decide +kernel, rfl, by decide +kernel, by decide +kernel⟩
-- cells: []; calls: ['Store.door_of', 'sign_of', 'some_now']
theorem cal_table (B : Base K mg) (S : StoreB K mg C) : Cal P w K mg base 16 "table" (spTable K C) := by
  refine B.d_table.ok sc_table (fun vs H Q h => ?_) (fun f cdv A outer s H vs Q E hr h => ?_)
  · obtain ⟨a, ds, cs, v, rs, rfl, _⟩ := h
    rfl
  · obtain ⟨a, ds, cs, v, rs, rfl, li, hne, q⟩ := h
    obtain ⟨sa, lv, r100, okr⟩ := id li
    have n6 : places ds ≤ 6 := places_le sa.1.1
    obtain ⟨dx, ws, ha⟩ := sa.slt
    refine ⟨_, (pss_cons (ps_set (i := 2) sc_table.nd rfl (.inl rfl) (pe_c (cal_some_now B S) hr (by decide) rfl (pa_cons (pv 0) (pa_cons (pv 1) pa_nil))))
    (pss_cons (ps_set (i := 3) sc_table.nd rfl (.inl rfl) (pe_lstN pa_nil))
    (pss_cons (ps_for PassesOwn.never rfl (pi_tup (pe_prN (prp_Store_crates B S) S.cls hr (by decide) (pv 0))) (pg_name (i := 4) sc_table.nd rfl (.inl rfl)) (
        (pss_cons (ps_set (i := 5) sc_table.nd rfl (.inl rfl) pe_str)
        (pss_cons (ps_for PassesOwn.never rfl (pi_range1 rfl B.f_range (pa_cons (pe_prN (prp_Store_size B S) S.cls hr (by decide) (pv 0)) pa_nil)) (pg_name (i := 6) sc_table.nd rfl (.inl rfl)) (
            (pss_cons (ps_set (i := 7) sc_table.nd rfl (.inl rfl) (pe_and (pe_cmpR op_gt (pv 6) pe_int (nomark _)) (pe_one (pe_cmpR op_ne (pe_mS (met_Store_door_of B S) S.cls hr (by decide) (pv 0) (pa_cons (pv 6) pa_nil)) (pe_mS (met_Store_door_of B S) S.cls hr (by decide) (pv 0) (pa_cons (pe_op op_sub (pv 6) pe_int) pa_nil)) (nomark _)))))
            (pss_one (ps_aug (i := 5) sc_table.nd rfl (.inl rfl) (pe_op op_add_str (pe_ifExp (pt_val (pv 7)) pe_str pe_str) (pe_c (cal_sign_of B) hr (by decide) rfl (pa_cons (pv 2) (pa_cons (pv 4) (pa_cons (pv 6) pa_nil))))) ip_addS)
            ))))
        (pss_one (ps_expr (pe_bm PySem.F.plainAttrs_list PySem.F.slot_list_append PySem.F.type_list_append mt_append (pv 3) (pa_cons (pe_joined (PJ.cons (pe_fmt (pv 4)) (PJ.cons pe_str (PJ.cons (pe_fmt (pv 5)) PJ.nil)))) pa_nil)))
        )))))
    (pss_one (ps_ret (pe_join pe_str (pv 3)))
    )))), ?_⟩
    refine ⟨_, rfl, _, rfl, a, ds, cs, v, rs, rfl, li, hne, fun H1 p ks e1 np en lp => ⟨small (by simp), fun L H2 nL e2 hL => ?_⟩⟩
    have e12 := e1.trans e2
    have nLH : H L = none := e1.free nL
    have kz : (sortL ks).length ≤ 46656 := by rw [sortL_len]; exact keys_few sa.1.2 n6 en.nd en.lay
    have kl : ∀ l ∈ sortL ks, l.length = places ds := fun l hl => (en.lay l (sortL_mem.mp hl)).1
    refine ⟨_, rfl, a, dx, ws, rfl, slt_mono e12.n ha, a, ds, cs, rfl, sa.mono e12.n, fun c hc => ⟨_, rfl, ⟨_, hc⟩, ?_⟩⟩
    refine for_it walk_tup (fun i σ H3 => (∃ j4 j5 j6 j7, σ = [some (.ref a), some v, some (.ref p), some (.ref L), j4, j5, j6, j7]) ∧ (∀ b o, b ≠ L → H2 b = some o → H3 b = some o) ∧ H3 L = some (.lst (((cs.take i).map (lineOf ds (sortL ks))).map V.str))) ?_
      (fun i σ H3 _ p => (SameN.list hL p.2.1).tup hc) (fun i y σ H3' H3 hi p hy => ?_) (fun σ H3 p => ?_)
    · exact ⟨⟨_, _, _, _, rfl⟩, fun _ _ _ h => h, hL⟩
    · obtain ⟨⟨j4, j5, j6, j7, rfl⟩, k3, hL3⟩ := p
      obtain ⟨rfl, hy⟩ := hy
      obtain ⟨z, hz, rfl⟩ := sV_get hy
      have e13 : Same H1 H3 := fun b o hb => k3 b o (fun zz => by rw [zz, nL] at hb; cases hb) (e2 _ _ hb)
      have wz := sa.1.2.2.2.2.1 z (List.mem_of_getElem? hz)
      refine ⟨_, rfl, a, dx, ws, rfl, slt_mono (e1.trans e13).n ha, a, ds, cs, rfl, sa.mono (e1.trans e13).n, _, rfl, by omega, by omega, ?_⟩
      refine for_it walk_rng (fun k σ H4 => (∃ j6 j7, σ = [some (.ref a), some v, some (.ref p), some (.ref L), some (.str z), some (.str (signsTo ds (sgn (sortL ks) z) k)), j6, j7]) ∧ Same H3 H4) ⟨⟨_, _, rfl⟩, Same.refl _⟩ (fun _ _ _ _ _ => trivial) (fun k y σ H5 H4 hk p hy => ?_) (fun σ H4 p => ?_)
      · obtain ⟨⟨j6, j7, rfl⟩, e4⟩ := p
        obtain ⟨rfl, rfl⟩ := hy
        have hk6 : k < places ds := by
          have : ((places ds : Nat) : Int).toNat = places ds := Int.toNat_natCast _
          exact this ▸ hk
        have e14 := e13.trans e4
        have e04 := e1.trans e14
        have sa4 := sa.mono e04.n
        have ha4 := slt_mono e04.n ha
        have el : (edges ds).length = places ds := edges_len ds
        refine ⟨_, rfl, _, _, rfl, rfl, _, rfl, ?_⟩
        by_cases k0 : k = 0
        · have ed : isEdge ds k = false := by unfold isEdge; rw [decide_eq_false (show ¬ 0 < k by omega)]; rfl
          rw [decide_eq_false (show ¬ (0 : Int) < ((k : Nat) : Int) by omega)]
          refine iteF ⟨_, rfl, _, rfl, _, rfl, iteF ⟨_, rfl, _, rfl, _, rfl, p, sortL ks, z, k, rfl, lp.mono e14, kz, fun l hl => by rw [kl l hl]; exact hk6, fun H6 e6 => ?_⟩⟩
          refine ⟨_, _, rfl, rfl, small ?_, _, _, rfl, rfl, small ?_, ⟨some (nV k), some (.bl false), ?_⟩, e4.trans e6⟩
          · have := sgn_len (sortL ks) z k
            have : ("" : Str).length ≤ 1 := by decide
            omega
          · rw [str_len_app, sgn_len]
            have : ("" : Str).length ≤ 1 := by decide
            have := signs_len (ds := ds) (f := sgn (sortL ks) z) (sgn_len _ _) k
            omega
          · show _ = [some (.ref a), some v, some (.ref p), some (.ref L), some (.str z), some (.str (signsTo ds (sgn (sortL ks) z) k ++ ((if isEdge ds k then ("|" : Str) else "") ++ sgn (sortL ks) z k))), some (nV k), some (.bl false)]
            rw [ed]
            rfl
        · have hg : (edges ds)[k]? = some (edges ds)[k] := List.getElem?_eq_getElem (by omega)
          have hg1 : (edges ds)[k - 1]? = some (edges ds)[k - 1] := List.getElem?_eq_getElem (by omega)
          have hk1 : ((k : Nat) : Int) - 1 = ((k - 1 : Nat) : Int) := by omega
          rw [decide_eq_true (show (0 : Int) < ((k : Nat) : Int) by omega)]
          refine iteT ⟨_, rfl, a, dx, ws, rfl, ha4, _, rfl, a, ds, cs, k, _, rfl, sa4, hg, ?_⟩
          refine ⟨_, rfl, a, dx, ws, rfl, ha4, _, rfl, _, _, rfl, rfl, a, ds, cs, k - 1, _, by show [V.ref a, V.int (((k : Nat) : Int) - 1)] = _; rw [hk1]; rfl, sa4, hg1, rfl, ?_⟩
          by_cases hd : (edges ds)[k] = (edges ds)[k - 1]
          · have ed : isEdge ds k = false := by unfold isEdge; rw [hg, hg1, hd, decide_eq_true (rfl : some (edges ds)[k - 1] = _)]; simp
            rw [show (!decide (nV (edges ds)[k] = nV (edges ds)[k - 1])) = false by rw [hd, decide_eq_true rfl]; rfl]
            refine ⟨_, rfl, _, rfl, _, rfl, iteF ⟨_, rfl, _, rfl, _, rfl, p, sortL ks, z, k, rfl, lp.mono e14, kz, fun l hl => by rw [kl l hl]; exact hk6, fun H6 e6 => ?_⟩⟩
            refine ⟨_, _, rfl, rfl, small ?_, _, _, rfl, rfl, small ?_, ⟨some (nV k), some (.bl false), ?_⟩, e4.trans e6⟩
            · have := sgn_len (sortL ks) z k
              have : ("" : Str).length ≤ 1 := by decide
              omega
            · rw [str_len_app, sgn_len]
              have : ("" : Str).length ≤ 1 := by decide
              have := signs_len (ds := ds) (f := sgn (sortL ks) z) (sgn_len _ _) k
              omega
            · show _ = [some (.ref a), some v, some (.ref p), some (.ref L), some (.str z), some (.str (signsTo ds (sgn (sortL ks) z) k ++ ((if isEdge ds k then ("|" : Str) else "") ++ sgn (sortL ks) z k))), some (nV k), some (.bl false)]
              rw [ed]
              rfl
          · have ed : isEdge ds k = true := by unfold isEdge; rw [hg, hg1, decide_eq_true (show 0 < k by omega), decide_eq_false (fun z => hd (Option.some.inj z))]; rfl
            rw [show (!decide (nV (edges ds)[k] = nV (edges ds)[k - 1])) = true by rw [decide_eq_false (nV_ne hd)]; rfl]
            refine ⟨_, rfl, _, rfl, _, rfl, iteT ⟨_, rfl, _, rfl, _, rfl, p, sortL ks, z, k, rfl, lp.mono e14, kz, fun l hl => by rw [kl l hl]; exact hk6, fun H6 e6 => ?_⟩⟩
            refine ⟨_, _, rfl, rfl, small ?_, _, _, rfl, rfl, small ?_, ⟨some (nV k), some (.bl true), ?_⟩, e4.trans e6⟩
            · have := sgn_len (sortL ks) z k
              have : ("|" : Str).length ≤ 1 := by decide
              omega
            · rw [str_len_app, sgn_len]
              have : ("|" : Str).length ≤ 1 := by decide
              have := signs_len (ds := ds) (f := sgn (sortL ks) z) (sgn_len _ _) k
              omega
            · show _ = [some (.ref a), some v, some (.ref p), some (.ref L), some (.str z), some (.str (signsTo ds (sgn (sortL ks) z) k ++ ((if isEdge ds k then ("|" : Str) else "") ++ sgn (sortL ks) z k))), some (nV k), some (.bl true)]
              rw [ed]
              rfl
      · obtain ⟨⟨j6, j7, rfl⟩, e4⟩ := p
        have hpl : ((places ds : Nat) : Int).toNat = places ds := Int.toNat_natCast _
        rw [hpl]
        have sl := signs_len (ds := ds) (f := sgn (sortL ks) z) (sgn_len _ _) (places ds)
        have z8 : z.length ≤ 8 := wz.2.1
        have sp : (" " : Str).length ≤ 1 := by decide
        have hL4 := e4 _ _ hL3
        have i5 : i ≤ 5 := by
          have := (List.getElem?_eq_some_iff.mp hz).1
          have := sa.1.2.2.1
          omega
        refine ⟨_, rfl, .inl ⟨rfl, _, SqL.of hL4⟩, _, rfl, .inl ⟨_, rfl, small (by omega), _, rfl, small ?_, _, rfl, small ?_, _, rfl, .inl ⟨_, rfl, small (by omega), _, rfl, small ?_, ?_⟩⟩⟩
        · rw [str_empty_app]; omega
        · rw [str_empty_app, str_len_app]; omega
        · rw [str_empty_app, str_len_app, str_len_app]; omega
        · rw [str_empty_app]
          refine ⟨_, _, _, rfl, rfl, hL4, small' ?_, ⟨_, _, _, _, rfl⟩, fun b o nb hb => ?_, ?_⟩
          · rw [List.length_map, List.length_map, List.length_take]; omega
          · rw [upd_ne nb]; exact e4 _ _ (k3 b o nb hb)
          · rw [upd_same, take_succ_get hz, List.map_append, List.map_append]
            rfl
    · obtain ⟨⟨j4, j5, j6, j7, rfl⟩, k3, hL3⟩ := p
      rw [List.length_map, List.take_length] at hL3
      have e13 : Same H1 H3 := fun b o hb => k3 b o (fun zz => by rw [zz, nL] at hb; cases hb) (e2 _ _ hb)
      refine ⟨⟨_, rfl⟩, _, rfl, _, L, cs.map (lineOf ds (sortL ks)), rfl, rfl, .inl (SqL.of hL3), ?_, ?_⟩
      · have hb : ∀ x ∈ (cs.map (lineOf ds (sortL ks))).map (·.length), x ≤ 100 := fun x hx => by
          rw [List.map_map] at hx
          obtain ⟨z, hz, rfl⟩ := List.mem_map.mp hx
          show (z ++ " " ++ signsTo ds (sgn (sortL ks) z) (places ds)).length ≤ 100
          rw [str_len_app, str_len_app]
          have := signs_len (ds := ds) (f := sgn (sortL ks) z) (sgn_len _ _) (places ds)
          have z8 : z.length ≤ 8 := (sa.1.2.2.2.2.1 z hz).2.1
          have sp : (" " : Str).length ≤ 1 := by decide
          omega
        have := sum_le hb
        have c5 : cs.length ≤ 5 := sa.1.2.2.1
        have nl : ("\n" : Str).length ≤ 1 := by decide
        rw [List.length_map, List.length_map] at this
        have h2 : (cs.map (lineOf ds (sortL ks))).length * ("\n" : Str).length ≤ 5 * 1 := Nat.mul_le_mul (by rw [List.length_map]; exact c5) nl
        omega
      · have := q H3 ks (e1.trans e13) en
        rw [table_congr (ms := sortL ks) (fun l => sortL_mem.symm)] at this
        exact this
end
end CC

/-! text D15 -/
namespace CC
open PySem PySem.Spec PyProof.Rows L2
/-! ### the shelf -/
def numS (i : Int) : Str := toString i
def dash (o : Option Str) : Str := o.getD "-"
def shelfRow (ds : List Door) (l : Lay) (d : Nat) : Str := Txt.join " " ((numS d ++ ":") :: (seen ds l d).map dash)
def shelfText (ds : List Door) (l : Lay) : Str := Txt.join "\n" ((List.range ds.length).map (shelfRow ds l))
theorem numS_len {d : Nat} (h : d < 10) : (numS d).length ≤ 1 := by
  have : d = 0 ∨ d = 1 ∨ d = 2 ∨ d = 3 ∨ d = 4 ∨ d = 5 ∨ d = 6 ∨ d = 7 ∨ d = 8 ∨ d = 9 := by omega
  rcases this with rfl | rfl | rfl | rfl | rfl | rfl | rfl | rfl | rfl | rfl <;> decide
theorem seen_len (ds : List Door) (l : Lay) (d : Nat) : (seen ds l d).length ≤ l.length := by
  unfold seen
  rw [List.length_map]
  refine Nat.le_trans (List.length_filter_le _ _) ?_
  rw [List.length_zip]
  omega
theorem seen_mem {ds : List Door} {l : Lay} {d : Nat} {o : Option Str} (h : o ∈ seen ds l d) : o ∈ l := by
  unfold seen at h
  obtain ⟨p, hp, rfl⟩ := List.mem_map.mp h
  exact (List.of_mem_zip (List.mem_filter.mp hp).1).1
theorem sjoin_len (a : Str) (b : Nat) : ∀ ys : List Str, (∀ y ∈ ys, y.length ≤ b) → (Str.join a ys).length ≤ ys.length * (b + a.length)
  | [], _ => Nat.zero_le _
  | [y], h => by
    have := h y (List.mem_singleton.mpr rfl)
    show y.length ≤ _
    rw [List.length_singleton]
    omega
  | y :: y2 :: t, h => by
    have h1 := h y List.mem_cons_self
    have h2 := sjoin_len a b (y2 :: t) fun z hz => h z (List.mem_cons_of_mem _ hz)
    show (y ++ a ++ Str.join a (y2 :: t)).length ≤ _
    rw [str_len_app, str_len_app, List.length_cons, Nat.succ_mul]
    omega
theorem join_len (a : Str) (b : Nat) (ys : List Str) (h : ∀ y ∈ ys, y.length ≤ b) : (Txt.join a ys).length ≤ ys.length * (b + a.length) := by
  rw [show Txt.join a ys = Str.join a ys from TL.join_eq a ys]
  exact sjoin_len a b ys h
theorem join_fits {a : Str} {b : Nat} {ys : List Str} (h : ∀ y ∈ ys, y.length ≤ b) (hb : ys.length * (b + a.length) ≤ 16777216) : (ys.map (·.length)).sum + ys.length * a.length ≤ 16777216 := by
  have := sum_le (b := b) (l := ys.map (·.length)) fun x hx => by obtain ⟨y, hy, rfl⟩ := List.mem_map.mp hx; exact h y hy
  rw [List.length_map] at this
  rw [Nat.mul_add] at hb
  omega
theorem lay_word {n : Nat} {cs : List Str} {l : Lay} (h : IsLay n cs l) {z : Str} (hz : some z ∈ l) (w : ∀ c ∈ cs, IsWord c) : IsWord z := w z (h.2.subset (List.mem_filterMap.mpr ⟨some z, hz, rfl⟩))
section
variable {P : Program} {w : World} {K : PySem.W.Frag} {mg : Str → Option Value} {base : Heap} {C : Addr}
def spShelf (K : PySem.W.Frag) (C : Addr) : SpN := fun vs H Q => ∃ a ds cs v l, vs = [.ref a, v] ∧ StoreAt K C H a ds cs ∧ LayV H v l ∧ IsLay (places ds) cs l ∧ ∀ H', Same H H' → Q (.str (shelfText ds l)) H'
abbrev s_shelf : Stmt := topS 66
abbrev N_shelf : List Str := ["store", "layout", "lines", "door", "names", "name"]
theorem sc_shelf : FnScope N_shelf ["store", "layout"] (defScope s_shelf) := ⟨rfl, rfl, rfl, by decide +kernel, rfl, by decide +kernel, by decide +kernel⟩
-- cells: []; calls: ['check_layout', 'seen_behind']
theorem cal_shelf (B : Base K mg) (S : StoreB K mg C) : Cal P w K mg base 5 "shelf" (spShelf K C) := by
  refine B.d_shelf.ok sc_shelf (fun vs H Q h => ?_) (fun f cdv A outer s H vs Q E hr h => ?_)
  · obtain ⟨a, ds, cs, v, l, rfl, _⟩ := h
    rfl
  · obtain ⟨a, ds, cs, v, l, rfl, sa, lv, il, q⟩ := h
    have n6 : places ds ≤ 6 := places_le sa.1.1
    have d4 : ds.length ≤ 4 := sa.1.1.2.1
    obtain ⟨dx, ws, ha⟩ := sa.slt
    refine ⟨_, (pss_cons (ps_expr (pe_c (cal_check_layout B S) hr (by decide) rfl (pa_cons (pv 0) (pa_cons (pv 1) pa_nil))))
    (pss_cons (ps_set (i := 2) sc_shelf.nd rfl (.inl rfl) (pe_lstN pa_nil))
    (pss_cons (ps_for PassesOwn.never rfl (pi_range1 rfl B.f_range (pa_cons (pe_callB (call_lenN (met_Store___len__ B S) hr (by decide)) rfl B.f_len boot_len (pa_cons (pv 0) pa_nil)) pa_nil)) (pg_name (i := 3) sc_shelf.nd rfl (.inl rfl)) (
        (pss_cons (ps_setLcX (i := 4) (own := [("name", 5)]) rfl sc_shelf.nd rfl rfl (sw_true rfl rfl rfl rfl) (pi_tup (pe_c (cal_seen_behind B S) hr (by decide) rfl (pa_cons (pv 0) (pa_cons (pv 1) (pa_cons (pv 3) pa_nil))))) (blkOk_by (own := [("name", 5)]) (N := N_shelf) (sc := defScope s_shelf) (by decide +kernel)) (fun _ _ _ _ _ => (pg_name (i := 5) sc_shelf.nd rfl (.inl rfl))) (fun _ _ _ _ _ => pts_nil) (fun _ _ _ _ _ => (pe_ifExp (pt_cmp (pc_isN (pv 5))) pe_str (pv 5))))
        (pss_one (ps_expr (pe_bm PySem.F.plainAttrs_list PySem.F.slot_list_append PySem.F.type_list_append mt_append (pv 2) (pa_cons (pe_join pe_str (pe_lstN (pa_cons (pe_joined (PJ.cons (pe_fmt (pv 3)) (PJ.cons pe_str PJ.nil))) (StX.pa_star (pv 4) pa_nil)))) pa_nil)))
        ))))
    (pss_one (ps_ret (pe_join pe_str (pv 2)))
    )))), ?_⟩
    refine ⟨_, rfl, _, rfl, a, ds, cs, v, l, rfl, sa, lv, il, fun H1 e1 => ⟨small (by simp), fun L H2 nL e2 hL => ?_⟩⟩
    have e12 := e1.trans e2
    refine ⟨_, rfl, a, dx, ws, rfl, slt_mono e12.n ha, a, ds, cs, rfl, sa.mono e12.n, _, rfl, by omega, _, rfl, by omega, by omega, ?_⟩
    have hpl : ((ds.length : Nat) : Int).toNat = ds.length := Int.toNat_natCast _
    refine for_it walk_rng (fun i σ H3 => (∃ j3 j4 j5, σ = [some (.ref a), some v, some (.ref L), j3, j4, j5]) ∧ Same H1 H3 ∧ H3 L = some (.lst (((List.range i).map (shelfRow ds l)).map V.str))) ?_
      (fun _ _ _ _ _ => trivial) (fun i y σ H3' H3 hi p hy => ?_) (fun σ H3 p => ?_)
    · exact ⟨⟨_, _, _, rfl⟩, e2, hL⟩
    · obtain ⟨⟨j3, j4, j5, rfl⟩, e3, hL3⟩ := p
      obtain ⟨rfl, rfl⟩ := hy
      rw [hpl] at hi
      have e03 := e1.trans e3
      refine ⟨_, rfl, _, rfl, _, rfl, a, ds, cs, v, l, i, rfl, sa.mono e03.n, lv.mono e03.n, il.1, fun H4 r e4 ⟨b, er, hb⟩ => ?_⟩
      subst er
      refine ⟨_, rfl, ⟨_, hb.sq⟩, ?_⟩
      have s6 : (seen ds l i).length ≤ 6 := Nat.le_trans (seen_len ds l i) (by rw [il.1]; exact n6)
      refine comp_it walk_tup (seen ds l i) (fun o => some (dash o)) (fun _ v o => v = oV o) (fun _ v b => v = .str b) (fun _ _ _ _ _ h => h) (by rw [List.length_map]) (fun _ e => (hb.mono e.n).sq)
        (by rw [List.length_map]; omega) (fun i H1 x H' o ho hy e => ?_) (fun i o x H' Qy Qn ho e hs ky kn => ?_) (fun D H5 ys hD e5 g1 g2 => ?_)
      · obtain ⟨rfl, hx⟩ := hy
        obtain ⟨o', ho', rfl⟩ := oV_get hx
        rw [ho] at ho'
        cases ho'
        exact ⟨Same.refl _, rfl⟩
      · subst hs
        cases o with
        | none => exact ⟨rfl, _, rfl, true, bl_t rfl, iteT (ky _ _ _ rfl (Same.refl _) rfl)⟩
        | some z => exact ⟨rfl, _, rfl, false, bl_f (fun h => nomatch h), iteF ⟨_, rfl, ky _ _ _ rfl (Same.refl _) rfl⟩⟩
      · rw [fm_some] at g2
        have hD5 : SqL K H5 D (((seen ds l i).map dash).map V.str) := SqL.of (by rw [g1, strs_of g2])
        have e35 := e4.trans e5
        have hL5 := e35 _ _ hL3
        have nl : (numS i).length ≤ 1 := numS_len (by omega)
        have cl : (":" : Str).length ≤ 1 := by decide
        refine ⟨_, rfl, .inl ⟨rfl, _, SqL.of hL5⟩, ⟨_, rfl⟩, _, rfl, .inr ⟨_, rfl, ?_, _, rfl, small ?_, _, rfl, small ?_, ?_⟩⟩
        · have : (i : Int).natAbs = i := Int.natAbs_natCast i
          rw [this]
          have : i.log2 ≤ i := Nat.log2_le_self i
          omega
        · rw [str_empty_app]; exact Nat.le_trans nl (by decide)
        · rw [str_empty_app, str_len_app]; have := nl; have : (numS i).length = (Str.ofString (toString (i : Int))).length := rfl; omega
        · rw [str_empty_app]
          have ww : ∀ y ∈ (numS i ++ ":") :: (seen ds l i).map dash, y.length ≤ 10 := fun y hy => by
            rcases List.mem_cons.mp hy with rfl | hy
            · rw [str_len_app]; omega
            · obtain ⟨o, ho, rfl⟩ := List.mem_map.mp hy
              cases o with
              | none => decide
              | some z => exact Nat.le_trans (lay_word il (seen_mem ho) sa.1.2.2.2.2.1).2.1 (by decide)
          refine ⟨_, rfl, _, _, rfl, .inr hD5, small (by simp; omega), fun T H6 nT e6 hT => ?_⟩
          rw [List.append_nil] at hT
          have hL6 := e6 _ _ hL5
          refine ⟨_, T, (numS i ++ ":") :: (seen ds l i).map dash, rfl, rfl, .inl (SqL.of hT), join_fits ww ?_, _, _, _, rfl, rfl, hL6, small' ?_, ⟨_, _, _, rfl⟩, ((e3.trans e35).trans e6).mut nL, ?_⟩
          · rw [List.length_cons, List.length_map]
            have sp : (" " : Str).length ≤ 1 := by decide
            exact Nat.le_trans (Nat.mul_le_mul (show _ ≤ 7 by omega) (show 10 + (" " : Str).length ≤ 11 by omega)) (by decide)
          · rw [List.length_map, List.length_map, List.length_range]; omega
          · rw [upd_same, List.range_succ, List.map_append, List.map_append]
            rfl
    · obtain ⟨⟨j3, j4, j5, rfl⟩, e3, hL3⟩ := p
      rw [hpl] at hL3
      refine ⟨⟨_, rfl⟩, _, rfl, _, L, (List.range ds.length).map (shelfRow ds l), rfl, rfl, .inl (SqL.of hL3), ?_, q _ (e1.trans e3)⟩
      refine join_fits (b := 100) (fun y hy => ?_) ?_
      · obtain ⟨d, hd, rfl⟩ := List.mem_map.mp hy
        have dl : d < ds.length := List.mem_range.mp hd
        have ww : ∀ y ∈ (numS d ++ ":") :: (seen ds l d).map dash, y.length ≤ 10 := fun y hy => by
          rcases List.mem_cons.mp hy with rfl | hy
          · rw [str_len_app]
            have nl : (numS d).length ≤ 1 := numS_len (by omega)
            have cl : (":" : Str).length ≤ 1 := by decide
            omega
          · obtain ⟨o, ho, rfl⟩ := List.mem_map.mp hy
            cases o with
            | none => decide
            | some z => exact Nat.le_trans (lay_word il (seen_mem ho) sa.1.2.2.2.2.1).2.1 (by decide)
        have s6 : (seen ds l d).length ≤ 6 := Nat.le_trans (seen_len ds l d) (by rw [il.1]; exact n6)
        have := join_len " " 10 _ ww
        refine Nat.le_trans this ?_
        rw [List.length_cons, List.length_map]
        have sp : (" " : Str).length ≤ 1 := by decide
        exact Nat.le_trans (Nat.mul_le_mul (show _ ≤ 7 by omega) (show 10 + (" " : Str).length ≤ 11 by omega)) (by decide)
      · rw [List.length_map, List.length_range]
        have sp : ("\n" : Str).length ≤ 1 := by decide
        exact Nat.le_trans (Nat.mul_le_mul d4 (show 100 + ("\n" : Str).length ≤ 101 by omega)) (by decide)
end
end CC

/-! text D16 -/
namespace CC
open PySem PySem.Spec PyProof.Rows L2
/-! ### methods of an instance with a dict -/
structure MetD (P : Program) (w : World) (K : PySem.W.Frag) (mg : Str → Option Value) (base : Heap) (k : Nat) (C : Addr) (m : Str) (sp : SpN) : Prop where
  ex : ∃ (f : Addr) (fd : FuncData) (ps : List Str), Meth K C m f ∧ FnOk P w K mg base CX0 k f fd ps (fun vs H Q _ => sp vs H Q) ∧ Binds K fd ps []
section
variable {P : Program} {w : World} {K : PySem.W.Frag} {mg : Str → Option Value} {base : Heap} {k : Nat}
theorem MethB.okD {C : Addr} {m qual : Str} {st : Stmt} {ps N : List Str} {sp : SpN} (M : MethB K C m qual st ps) (S : FnScope N ps (defScope st)) (len : ∀ vs H Q, sp vs H Q → vs.length = ps.length)
    (hbody : ∀ (f : Addr) (cdv : Value) (A : Around) (outer : List Env) (s : Shared) (H : Hp) (vs : List V) (Q : VK) (E : XK), Room k (A.deeper (envOfC qual (defScope st) s.heap.objs.size f cdv)) → sp vs H Q →
      ∃ t, PSs (cxOf CX0 P w K mg base N qual (defScope st) f cdv A outer s H E).nox (defBody st) t ∧ t { nx := fun _ H' => Q .non H', rt := Q } (start N vs) H) : MetD P w K mg base (k + 1) C m sp := by
  obtain ⟨f, fd, me, F, b⟩ := M.ex
  exact ⟨f, fd, ps, me, F.ok S (fun vs H Q _ h => len vs H Q h) (fun cdv A outer s H vs Q E hr h => hbody f cdv A outer s H vs Q E hr h), b⟩
end
section
variable {X : Cx} {k j : Nat} {C : Addr} {m : Str} {sp : SpN} {pos apos : Pos} {e o : Expr} {es : List Expr} {ta : TE} {t : TA}
def tMeD (C : Addr) (m : Str) (sp : SpN) (ta : TE) (t : TA) : TE := fun σ H Q => ta σ H fun x H1 => ∃ a dx fs, x = .ref a ∧ H1 a = some (.ins C dx fs) ∧ fs.lookup m = none ∧ t σ H1 fun vs H2 => sp (x :: vs) H2 Q
theorem pe_mD {pl : Sem Bool} (c : MetD X.prog X.w X.K X.mg X.base k C m sp) (hc : Cls X.K C) (hr : Room j X.A) (hk : k ≤ j) (he : PE X o ta) (ha : PA X (e :: es) t)
    (hst : starEach (e :: es) X.env = (false, eval e X.env) :: starEach es X.env := by rfl) (hpl : (backTo pos (starEach es X.env)).any (·.1) = false := by rfl)
    (ht : eval (.Call (.Attribute o m apos) (e :: es) [] pos) X.env = (do
      let ov ← eval o X.env
      standAt apos.atName
      let (f, first) ← holding [ov] (getMethod ov m pl)
      callWith pos f first (backTo pos (starEach (e :: es) X.env)) (backToKw pos (keywordEach [] X.env))) := by rfl) :
    PE X (.Call (.Attribute o m apos) (e :: es) [] pos) (tMeD C m sp ta t) := by
  obtain ⟨g, fd, ps, me, F, b⟩ := c.ex
  have h := pe_meth (E := E0) (pl := pl) he hc me F (hr.mono hk) b .nil pass0 ha hst hpl ht
  refine ⟨fun pins s σ H Q I hw => h.run pins s σ H Q I ?_⟩
  have e : (fun (x : V) (vs : List V) H1 => sp (x :: (vs ++ [])) H1 Q) = fun x vs H1 => sp (x :: vs) H1 Q := by
    funext x vs H1
    rw [List.append_nil]
  show ta σ H fun x H1 => ∃ a dx fs, x = .ref a ∧ H1 a = some (.ins C dx fs) ∧ fs.lookup m = none ∧ t σ H1 fun vs H2 => sp (x :: (vs ++ [])) H2 Q
  have e2 : (fun (x : V) (H1 : Hp) => ∃ a dx fs, x = .ref a ∧ H1 a = some (.ins C dx fs) ∧ fs.lookup m = none ∧ t σ H1 fun vs H2 => sp (x :: (vs ++ [])) H2 Q) = fun x H1 => ∃ a dx fs, x = .ref a ∧ H1 a = some (.ins C dx fs) ∧ fs.lookup m = none ∧ t σ H1 fun vs H2 => sp (x :: vs) H2 Q := by
    funext x H1
    have := congrFun e x
    rw [this]
  rw [e2]
  exact hw
theorem pe_mD0 {pl : Sem Bool} (c : MetD X.prog X.w X.K X.mg X.base k C m sp) (hc : Cls X.K C) (hr : Room j X.A) (hk : k ≤ j) (he : PE X o ta)
    (ht : eval (.Call (.Attribute o m apos) [] [] pos) X.env = (do
      let ov ← eval o X.env
      standAt apos.atName
      let (f, first) ← holding [ov] (getMethod ov m pl)
      callWith pos f first (backTo pos (starEach [] X.env)) (backToKw pos (keywordEach [] X.env))) := by rfl) :
    PE X (.Call (.Attribute o m apos) [] [] pos) (tMeD C m sp ta tNil) := by
  obtain ⟨g, fd, ps, me, F, b⟩ := c.ex
  exact pe_meth0 (E := E0) (dvs := []) (pl := pl) he hc me F (hr.mono hk) b .nil pass0 ht
end
/-! ### the code of a store -/
def codeOf (c : Nat) : Nat := c - 97 + 1
def nameCode (z : Str) : List Nat := z.length :: z.cps.toList.map codeOf
def encBody (ds : List Door) (cs : List Str) : List Nat := [71, ds.length] ++ ds.flatMap (fun d => [d.1, d.2]) ++ ([cs.length] ++ cs.flatMap nameCode)
def chk (l : List Nat) : Nat := l.foldl (fun f v => (11 * f + v) % 251) 4
def enc (ds : List Door) (cs : List Str) : List Nat := encBody ds cs ++ [chk (encBody ds cs)]
theorem chk_snoc (l : List Nat) (v : Nat) : chk (l ++ [v]) = (11 * chk l + v) % 251 := by
  unfold chk
  rw [List.foldl_append]
  rfl
theorem chk_lt (l : List Nat) : chk l < 251 := by
  have : l = [] ∨ ∃ t v, l = t ++ [v] := by
    by_cases h : l = []
    · exact .inl h
    · exact .inr ⟨l.dropLast, l.getLast h, (List.dropLast_concat_getLast h).symm⟩
  rcases this with rfl | ⟨t, v, rfl⟩
  · decide
  · rw [chk_snoc]; exact Nat.mod_lt _ (by decide)
theorem let_occ : ∀ c ∈ letters.cps.toList, Builtin.Str.occurrences letters ⟨#[c]⟩ 0 letters.length 1 = [c - 97] := by decide +kernel
theorem let_at : ∀ c ∈ letters.cps.toList, 97 ≤ c ∧ c ≤ 122 ∧ letters.cps[c - 97]? = some c := by decide +kernel
section
variable {P : Program} {w : World} {K : PySem.W.Frag} {mg : Str → Option Value} {base : Heap} {C : Addr}
def spChecksum (K : PySem.W.Frag) : SpN := fun vs H Q => ∃ a l, vs = [.ref a] ∧ SqL K H a (l.map nV) ∧ Q (nV (chk l)) H
abbrev s_checksum : Stmt := topS 72
abbrev N_checksum : List Str := ["values", "found", "value"]
theorem sc_checksum : FnScope N_checksum ["values"] (defScope s_checksum) := ⟨rfl, rfl, rfl, by decide +kernel, rfl, by decide +kernel, by decide +kernel⟩
-- cells: []; calls: []
theorem cal_checksum (B : Base K mg) : Cal P w K mg base 1 "checksum" (spChecksum K) := by
  refine B.d_checksum.ok sc_checksum (fun vs H Q h => ?_) (fun f cdv A outer s H vs Q E hr h => ?_)
  · obtain ⟨a, l, rfl, _⟩ := h
    rfl
  · obtain ⟨a, l, rfl, hl, q⟩ := h
    refine ⟨_, (pss_cons (ps_set (i := 1) sc_checksum.nd rfl (.inl rfl) (pe_gc rfl B.g_CHECK_START))
    (pss_cons (ps_for PassesOwn.never rfl (pi_list (pv 0)) (pg_name (i := 2) sc_checksum.nd rfl (.inl rfl)) (
        (pss_one (ps_set (i := 1) sc_checksum.nd rfl (.inl rfl) (pe_op op_mod (pe_callTy call_int1 rfl B.f_int (by decide +kernel) (pa_cons (pe_op op_add (pe_op op_mul (pe_gc rfl B.g_CHECK_TIMES) (pv 1)) (pv 2)) pa_nil)) (pe_gc rfl B.g_CHECK_REST)))
        )))
    (pss_one (ps_ret (pv 1))
    ))), ?_⟩
    refine ⟨_, rfl, _, rfl, ⟨_, hl⟩, ?_⟩
    refine for_it walk_list (fun i σ H3 => (∃ j2, σ = [some (.ref a), some (nV (chk (l.take i))), j2]) ∧ H3 = H) ⟨⟨_, rfl⟩, rfl⟩ (fun i σ H3 _ p => by rw [p.2]; exact hl) (fun i y σ H4 H3 hi p hy => ?_) (fun σ H3 p => ?_)
    · obtain ⟨⟨j2, rfl⟩, rfl⟩ := p
      obtain ⟨rfl, hy⟩ := hy
      obtain ⟨n, hn, rfl⟩ := nV_get hy
      have cb := chk_lt (l.take i)
      refine ⟨_, rfl, _, _, rfl, rfl, .inl ⟨by decide, by decide⟩, _, rfl, _, _, rfl, rfl, .inl ⟨_, rfl, _, _, rfl, rfl, (show (0 : Int) < 251 by decide), ⟨some (nV n), ?_⟩, rfl⟩⟩
      · rw [take_succ_get hn, chk_snoc]
        show [_, some (V.int ((11 * ((chk (l.take i) : Nat) : Int) + ((n : Nat) : Int)) % 251)), _] = [_, some (V.int ((((11 * chk (l.take i) + n) % 251 : Nat)) : Int)), some (nV n)]
        have : ((((11 * chk (l.take i) + n) % 251 : Nat)) : Int) = (11 * ((chk (l.take i) : Nat) : Int) + ((n : Nat) : Int)) % 251 := by omega
        rw [this]
    · obtain ⟨⟨j2, rfl⟩, rfl⟩ := p
      rw [List.length_map, List.take_length]
      exact ⟨_, rfl, q⟩
def spEncode (K : PySem.W.Frag) (C : Addr) : SpN := fun vs H Q => ∃ a ds cs, vs = [.ref a] ∧ StoreAt K C H a ds cs ∧ ∀ H' r, Same H H' → H r = none → H' r = some (.lst ((enc ds cs).map nV)) → Q (.ref r) H'
abbrev s_encode_store : Stmt := topS 73
abbrev N_encode_store : List Str := ["store", "found", "warmth", "places", "name", "letter"]
theorem sc_encode_store : FnScope N_encode_store ["store"] (defScope s_encode_store) := ⟨rfl, rfl, rfl, by decide +kernel, rfl, by decide +kernel, by decide +kernel⟩
-- cells: []; calls: ['checksum']
theorem cal_encode_store (B : Base K mg) (S : StoreB K mg C) : Cal P w K mg base 3 "encode_store" (spEncode K C) := by
  refine B.d_encode_store.ok sc_encode_store (fun vs H Q h => ?_) (fun f cdv A outer s H vs Q E hr h => ?_)
  · obtain ⟨a, ds, cs, rfl, _⟩ := h
    rfl
  · obtain ⟨a, ds, cs, rfl, sa, q⟩ := h
    have d4 : ds.length ≤ 4 := sa.1.1.2.1
    have c5 : cs.length ≤ 5 := sa.1.2.2.1
    obtain ⟨dx, ws, ha⟩ := sa.slt
    refine ⟨_, (pss_cons (ps_set (i := 1) sc_encode_store.nd rfl (.inl rfl) (pe_lstN (pa_cons (pe_gc rfl B.g_FIRST) (pa_cons (pe_callB (call_lenN (met_Store___len__ B S) hr (by decide)) rfl B.f_len boot_len (pa_cons (pv 0) pa_nil)) pa_nil))))
    (pss_cons (ps_for PassesOwn.never rfl (pi_tup (pe_prN (prp_Store_doors B S) S.cls hr (by decide) (pv 0))) (pg_tup rfl (pgs_cons (pg_name (i := 2) sc_encode_store.nd rfl (.inl rfl)) (pgs_cons (pg_name (i := 3) sc_encode_store.nd rfl (.inl rfl)) pgs_nil))) (
        (pss_one (ps_expr (pe_bm PySem.F.plainAttrs_list PySem.F.slot_list_extend PySem.F.type_list_extend mt_extend (pv 1) (pa_cons (pe_lstN (pa_cons (pv 2) (pa_cons (pv 3) pa_nil))) pa_nil)))
        )))
    (pss_cons (ps_expr (pe_bm PySem.F.plainAttrs_list PySem.F.slot_list_append PySem.F.type_list_append mt_append (pv 1) (pa_cons (pe_callB call_len rfl B.f_len boot_len (pa_cons (pe_prN (prp_Store_crates B S) S.cls hr (by decide) (pv 0)) pa_nil)) pa_nil)))
    (pss_cons (ps_for PassesOwn.never rfl (pi_tup (pe_prN (prp_Store_crates B S) S.cls hr (by decide) (pv 0))) (pg_name (i := 4) sc_encode_store.nd rfl (.inl rfl)) (
        (pss_one (ps_expr (pe_bm PySem.F.plainAttrs_list PySem.F.slot_list_extend PySem.F.type_list_extend mt_extend (pv 1) (pa_cons (pe_lstN (pa_cons (pe_callB call_len rfl B.f_len boot_len (pa_cons (pv 4) pa_nil)) (StX.pa_star (pe_lcX (own := [("letter", 5)]) rfl sc_encode_store.nd (pi_str (pv 4)) (blkOk_by (own := [("letter", 5)]) (N := N_encode_store) (sc := defScope s_encode_store) (by decide +kernel)) (fun _ _ _ _ _ => (pg_name (i := 5) sc_encode_store.nd rfl (.inl rfl))) (fun _ _ _ _ _ => pts_nil) (fun _ _ _ _ _ => (pe_op op_add (pe_m1 PySem.F.slot_str_index PySem.F.type_str_index mt_sindex (pe_gc rfl B.g_LETTERS) (pv 5)) pe_int))) pa_nil))) pa_nil)))
        )))
    (pss_one (ps_ret (pe_lstN (StX.pa_star (pv 1) (pa_cons (pe_c (cal_checksum B) hr (by decide) rfl (pa_cons (pv 1) pa_nil)) pa_nil))))
    ))))), ?_⟩
    refine ⟨_, rfl, a, dx, ws, rfl, ha, a, ds, cs, rfl, sa, _, rfl, by omega, small (by simp), fun L H1 nL e1 hL => ?_⟩
    refine ⟨_, rfl, a, dx, ws, rfl, slt_mono e1.n ha, a, ds, cs, rfl, sa.mono e1.n, fun d hd => ?_⟩
    obtain ⟨d', as, ed, ht, hp⟩ := id hd
    cases ed
    refine ⟨_, rfl, ⟨_, ht⟩, ?_⟩
    have hlen : as.length = ds.length := Paired.len hp
    have b2 : ∀ i, ((ds.take i).flatMap (fun d => [d.1, d.2])).length ≤ 8 := fun i => by
      have := flat_len (l := ds.take i) (f := fun d : Door => [d.1, d.2]) (m := 2) fun _ _ => Nat.le_refl _
      have : (ds.take i).length ≤ 4 := by rw [List.length_take]; omega
      omega
    refine for_it walk_tup (fun i σ H3 => (∃ j2 j3 j4 j5, σ = [some (.ref a), some (.ref L), j2, j3, j4, j5]) ∧ (∀ b o, b ≠ L → H1 b = some o → H3 b = some o) ∧ H3 L = some (.lst (([71, ds.length] ++ (ds.take i).flatMap (fun d => [d.1, d.2])).map nV))) ?_
      (fun i σ H3 _ p => (SameN.list hL p.2.1).tup ht) (fun i y σ H4 H3 hi p hy => ?_) (fun σ H3 p => ?_)
    · exact ⟨⟨_, _, _, _, rfl⟩, fun _ _ _ h => h, hL⟩
    · obtain ⟨⟨j2, j3, j4, j5, rfl⟩, k3, hL3⟩ := p
      obtain ⟨rfl, hy⟩ := hy
      obtain ⟨dd, hdd, hdv⟩ := Paired.get1 hp hy
      obtain ⟨b, rfl, hb⟩ := hdv.mono (SameN.list hL k3)
      refine ⟨_, _, rfl, hb, rfl, _, _, rfl, _, _, rfl, rfl, _, rfl, .inl ⟨rfl, _, SqL.of hL3⟩, _, rfl, _, rfl, small (by simp), fun M H5 nM e5 hM => ?_⟩
      have hL5 := e5 _ _ hL3
      refine ⟨_, _, _, _, rfl, rfl, hL5, hM, small ?_, ⟨_, _, _, _, rfl⟩, fun b o nb hb => ?_, ?_⟩
      · have := b2 i
        simp only [List.length_map, List.length_append, List.length_cons, List.length_nil]
        omega
      · rw [upd_ne nb]; exact e5 _ _ (k3 b o nb hb)
      · rw [upd_same, take_succ_get hdd, List.flatMap_append, ← List.append_assoc]
        simp only [List.map_append]
        rfl
    · obtain ⟨⟨j2, j3, j4, j5, rfl⟩, k3, hL3⟩ := p
      rw [hlen, List.take_length] at hL3
      have m3 : SameN H1 H3 := SameN.list hL k3
      have m03 := e1.n.trans m3
      refine ⟨_, rfl, .inl ⟨rfl, _, SqL.of hL3⟩, _, rfl, a, dx, ws, rfl, slt_mono m03 ha, a, ds, cs, rfl, sa.mono m03, fun c hc => ⟨_, _, rfl, .inr ⟨_, hc, rfl⟩, ?_⟩⟩
      refine ⟨_, _, _, rfl, rfl, hL3, small' ?_, ?_⟩
      · have := b2 ds.length
        rw [List.take_length] at this
        simp only [List.length_map, List.length_append, List.length_cons, List.length_nil]
        omega
      generalize hh : upd H3 L _ = H4
      have hL4 : H4 L = some (.lst (([71, ds.length] ++ ds.flatMap (fun d => [d.1, d.2]) ++ [cs.length]).map nV)) := by
        rw [← hh, upd_same, List.map_append (l₂ := [cs.length]), List.length_map]
        rfl
      have k34 : ∀ b o, b ≠ L → H3 b = some o → H4 b = some o := fun b o nb hb => by rw [← hh, upd_ne nb]; exact hb
      clear hh
      have k4 : ∀ b o, b ≠ L → H1 b = some o → H4 b = some o := fun b o nb hb => k34 b o nb (k3 b o nb hb)
      have m04 := e1.n.trans (SameN.list hL k4)
      refine ⟨_, rfl, a, dx, ws, rfl, slt_mono m04 ha, a, ds, cs, rfl, sa.mono m04, fun c hc => ⟨_, rfl, ⟨_, hc⟩, ?_⟩⟩
      have hcl : (cs.map V.str).length = cs.length := List.length_map _
      have ww := sa.1.2.2.2.2.1
      have b9 : ∀ i, ((cs.take i).flatMap nameCode).length ≤ 45 := fun i => by
        have := flat_len (l := cs.take i) (f := nameCode) (m := 9) fun z hz => by
          have := (ww z (List.mem_of_mem_take hz)).2.1
          unfold nameCode
          rw [List.length_cons, List.length_map, Array.length_toList]
          have : z.cps.size = z.length := rfl
          omega
        have : (cs.take i).length ≤ 5 := by rw [List.length_take]; omega
        omega
      have b8 := b2 ds.length
      rw [List.take_length] at b8
      refine for_it walk_tup (fun i σ H5 => (∃ j2 j3 j4 j5, σ = [some (.ref a), some (.ref L), j2, j3, j4, j5]) ∧ (∀ b o, b ≠ L → H4 b = some o → H5 b = some o) ∧ H5 L = some (.lst (([71, ds.length] ++ ds.flatMap (fun d => [d.1, d.2]) ++ ([cs.length] ++ (cs.take i).flatMap nameCode)).map nV))) ?_
        (fun i σ H5 _ p => (SameN.list hL4 p.2.1).tup hc) (fun i y σ H5' H5 hi p hy => ?_) (fun σ H5 p => ?_)
      · exact ⟨⟨_, _, _, _, rfl⟩, fun _ _ _ h => h, by rw [List.take_zero, List.flatMap_nil, List.append_nil]; exact hL4⟩
      · obtain ⟨⟨j2, j3, j4, j5, rfl⟩, k5, hL5⟩ := p
        obtain ⟨rfl, hy⟩ := hy
        obtain ⟨z, hz, rfl⟩ := sV_get hy
        have wz := ww z (List.mem_of_getElem? hz)
        have z8 : z.length ≤ 8 := wz.2.1
        have zs : z.cps.size = z.length := rfl
        refine ⟨_, rfl, .inl ⟨rfl, _, SqL.of hL5⟩, _, rfl, _, _, rfl, ⟨small (by omega), rfl⟩, _, rfl, _, rfl, ?_⟩
        refine comp_it walk_str z.cps.toList (fun c => some (codeOf c)) (fun _ v c => v = .str ⟨#[c]⟩) (fun _ v n => v = nV n) (fun _ _ _ _ _ h => h) (by simp) (fun _ _ => trivial)
          (by omega) (fun i H x H' a ha hy _ => ?_) (fun i a x H' Qy Qn ha e hs ky kn => ?_) (fun D H6 ys hD e6 g1 g2 => ?_)
        · obtain ⟨rfl, c, hc, rfl⟩ := hy
          refine ⟨Same.refl _, ?_⟩
          rw [Array.getElem?_toList] at ha
          rw [ha] at hc
          cases hc
          rfl
        · subst hs
          have ho := let_occ a (wz.2.2 a (List.mem_of_getElem? ha))
          exact ⟨rfl, ⟨_, rfl⟩, _, rfl, _, _, _, _, rfl, rfl, ho, _, _, rfl, rfl, ky _ _ _ rfl (Same.refl _) rfl⟩
        · rw [fm_some] at g2
          have g2' := nats_of g2
          refine ⟨_, _, rfl, .inr (SqL.of g1), small ?_, fun M H7 nM e7 hM => ?_⟩
          · rw [g2']; simp; omega
          have e57 := e6.trans e7
          have hL7 := e57 _ _ hL5
          rw [g2', List.append_nil] at hM
          refine ⟨_, _, _, _, rfl, rfl, hL7, hM, small ?_, ⟨_, _, _, _, rfl⟩, fun b o nb hb => ?_, ?_⟩
          · have := b9 i
            simp only [List.length_map, List.length_append, List.length_cons, List.length_nil, Array.length_toList]
            omega
          · rw [upd_ne nb]; exact e57 _ _ (k5 b o nb hb)
          · rw [upd_same, take_succ_get hz]
            simp only [List.flatMap_append, List.map_append, List.flatMap_cons, List.flatMap_nil, List.append_nil, List.append_assoc]
            rfl
      · obtain ⟨⟨j2, j3, j4, j5, rfl⟩, k5, hL5⟩ := p
        rw [hcl, List.take_length] at hL5
        have hL5 : H5 L = some (.lst ((encBody ds cs).map nV)) := hL5
        have bl : (encBody ds cs).length ≤ 100 := by
          have := b9 cs.length
          rw [List.take_length] at this
          unfold encBody
          simp only [List.length_append, List.length_cons, List.length_nil]
          omega
        refine ⟨_, rfl, _, _, rfl, .inr (SqL.of hL5), _, rfl, L, _, rfl, SqL.of hL5, small (by simp; omega), fun D H6 nD e6 hD => ?_⟩
        have e05 : Same H H5 := fun b o hb => k5 b o (fun z => by rw [z, nL] at hb; cases hb) (k4 b o (fun z => by rw [z, nL] at hb; cases hb) (e1 _ _ hb))
        refine q H6 D (e05.trans e6) (e05.free nD) ?_
        rw [hD]
        unfold enc
        rw [List.map_append]
        rfl
end
end CC

/-! text D17 -/
namespace CC
open PySem PySem.Spec PyProof.Rows L2
/-! ### the reader -/
/-- all but one thing stays -/
def But (r : Addr) (H H' : Hp) : Prop := ∀ b o, b ≠ r → H b = some o → H' b = some o
theorem But.refl (r : Addr) (H : Hp) : But r H H := fun _ _ _ h => h
theorem But.trans {r : Addr} {H H1 H2 : Hp} (a : But r H H1) (b : But r H1 H2) : But r H H2 := fun c o n h => b c o n (a c o n h)
theorem But.of {r : Addr} {H H' : Hp} (e : Same H H') : But r H H' := fun b o _ h => e b o h
theorem But.upd (r : Addr) (H : Hp) (o : HO) : But r H (upd H r o) := fun b u n h => by rw [upd_ne n]; exact h
def RdAt (C : Addr) (H : Hp) (r dx L s : Nat) : Prop := H r = some (.ins C dx [("data", .ref L), ("spot", nV s)])
section
variable {P : Program} {w : World} {K : PySem.W.Frag} {mg : Str → Option Value} {base : Heap} {C : Addr}
def spNewReader (C : Addr) : SpN := fun vs H Q => ∃ x dx L, vs = [.ref x, .ref L] ∧ H x = some (.ins C dx []) ∧ ∀ H', But x H H' → RdAt C H' x dx L 0 → Q .non H'
abbrev s_Reader___init__ : Stmt := inClass (topS 74) 0
abbrev N_Reader___init__ : List Str := ["self", "values"]
theorem sc_Reader___init__ : FnScope N_Reader___init__ ["self", "values"] (defScope s_Reader___init__) := ⟨rfl, rfl, rfl, by decide +kernel, rfl, by decide +kernel, by decide +kernel⟩
-- cells: []; calls: []
theorem mak_Reader (B : Base K mg) (R : ReaderB K mg C) : MakN P w K mg base 1 "Reader" C (spNewReader C) := by
  refine R.init.ok sc_Reader___init__ (fun vs H Q h => ?_) (fun f cdv A outer s H vs Q E hr h => ?_)
  · obtain ⟨x, dx, L, rfl, _⟩ := h
    rfl
  · obtain ⟨x, dx, L, rfl, hx, q⟩ := h
    refine ⟨_, (pss_cons (ps_fld (pv 0) (pv 1) rfl)
    (pss_one (ps_fld (pv 0) pe_int rfl)
    )), ?_⟩
    refine ⟨_, rfl, _, rfl, x, C, dx, [], rfl, hx, R.cls, R.n_data, by decide, ?_⟩
    refine ⟨_, rfl, x, C, dx, _, rfl, upd_same, R.cls, R.n_spot, (show 1 < 1000 by decide), ?_⟩
    refine q _ ((But.upd _ _ _).trans (But.upd _ _ _)) ?_
    exact upd_same
def spItem (K : PySem.W.Frag) (C : Addr) : SpN := fun vs H Q => ∃ (r dx L : Addr) (l : List Nat) (s lo hi v : Nat), vs = [.ref r, nV lo, nV hi] ∧ RdAt C H r dx L s ∧ H L = some (.lst (l.map nV)) ∧ l[s]? = some v ∧ lo ≤ v ∧ v ≤ hi ∧ ∀ H', But r H H' → RdAt C H' r dx L (s + 1) → Q (nV v) H'
abbrev s_Reader_item : Stmt := inClass (topS 74) 1
abbrev N_Reader_item : List Str := ["self", "low", "high"]
theorem sc_Reader_item : FnScope N_Reader_item ["self", "low", "high"] (defScope s_Reader_item) := ⟨rfl, rfl, rfl, by decide +kernel, rfl, by decide +kernel, by decide +kernel⟩
-- cells: []; calls: ['is_number']
theorem met_Reader_item (B : Base K mg) (R : ReaderB K mg C) : MetD P w K mg base 2 C "item" (spItem K C) := by
  refine R.item.okD sc_Reader_item (fun vs H Q h => ?_) (fun f cdv A outer s H vs Q E hr h => ?_)
  · obtain ⟨r, dx, L, l, s, lo, hi, v, rfl, _⟩ := h
    rfl
  · obtain ⟨r, dx, L, l, s, lo, hi, v, rfl, hrd, hL, hv, h1, h2, q⟩ := h
    have hs : s < l.length := (List.getElem?_eq_some_iff.mp hv).1
    refine ⟨_, (pss_cons (ps_if (PW.pt (pw_or (pt_cmpR op_ge (pe_fld (pv 0) rfl) (pe_callB call_len rfl B.f_len boot_len (pa_cons (pe_fld (pv 0) rfl) pa_nil)) (nomark _)) (pw_or1 (pt_not (pt_val (pe_c (cal_is_number B) hr (by decide) rfl (pa_cons (pe_ix ix_list (pe_fld (pv 0) rfl) (pe_fld (pv 0) rfl) (fun _ _ => rfl)) (pa_cons (pv 1) (pa_cons (pv 2) pa_nil))))))))) (
        (pss_one ps_never
        )) (pss_nil))
    (pss_cons (ps_fldaug (pv 0) pe_int in_add)
    (pss_one (ps_ret (pe_ix ix_list (pe_fld (pv 0) rfl) (pe_op op_sub (pe_fld (pv 0) rfl) pe_int) (fun _ _ => rfl)))
    ))), ?_⟩
    have rl : r ≠ L := fun z => by unfold RdAt at hrd; rw [z, hL] at hrd; cases hrd
    refine ⟨_, rfl, r, C, dx, _, _, rfl, hrd, R.cls, R.n_spot, rfl, _, rfl, r, C, dx, _, _, rfl, hrd, R.cls, R.n_data, rfl, _, _, rfl, .inl ⟨_, SqL.of hL, rfl⟩, _, _, rfl, rfl, _, rfl, ?_⟩
    rw [decide_eq_false (by rw [List.length_map]; omega)]
    refine iteF ⟨_, rfl, r, C, dx, _, _, rfl, hrd, R.cls, R.n_data, rfl, _, rfl, r, C, dx, _, _, rfl, hrd, R.cls, R.n_spot, rfl, _, _, _, _, rfl, rfl, SqL.of hL, atI_nat (map_get hv), _, rfl, _, rfl, _, _, _, rfl, ?_⟩
    rw [decide_eq_true (show ((lo : Nat) : Int) ≤ ((v : Nat) : Int) by omega), decide_eq_true (show ((v : Nat) : Int) ≤ ((hi : Nat) : Int) by omega)]
    refine ⟨_, rfl, iteF ?_⟩
    refine ⟨_, rfl, r, C, dx, _, _, rfl, hrd, R.cls, R.n_spot, rfl, _, _, rfl, rfl, dx, _, hrd, (show 2 < 1000 by decide), ?_⟩
    generalize hh : upd H r _ = H2
    have k2 : But r H H2 := by rw [← hh]; exact But.upd _ _ _
    have r2 : RdAt C H2 r dx L (s + 1) := by
      rw [← hh]
      exact upd_same
    have hL2 := k2 _ _ rl.symm hL
    clear hh
    refine ⟨_, rfl, r, C, dx, _, _, rfl, r2, R.cls, R.n_data, rfl, _, rfl, r, C, dx, _, _, rfl, r2, R.cls, R.n_spot, rfl, _, _, rfl, rfl, _, _, _, _, rfl, rfl, SqL.of hL2, ?_, q H2 k2 r2⟩
    have : (((s + 1 : Nat) : Int) - 1) = ((s : Nat) : Int) := by omega
    rw [this]
    exact atI_nat (map_get hv)
theorem sjoin_chars : ∀ l : List Nat, Str.join "" (l.map fun c => (⟨#[c]⟩ : Str)) = ⟨l.toArray⟩
  | [] => rfl
  | [c] => rfl
  | c :: d :: t => by
    show (⟨#[c]⟩ : Str) ++ "" ++ Str.join "" ((d :: t).map fun c => (⟨#[c]⟩ : Str)) = _
    rw [sjoin_chars (d :: t)]
    show (⟨#[c] ++ #[] ++ (d :: t).toArray⟩ : Str) = ⟨(c :: d :: t).toArray⟩
    congr 1
    simp
theorem join_chars (z : Str) : Txt.join "" (z.cps.toList.map fun c => (⟨#[c]⟩ : Str)) = z := by
  rw [show ∀ p, Txt.join "" p = Str.join "" p from fun p => TL.join_eq "" p, sjoin_chars]
theorem rd_ne {H : Hp} {r dx L s : Nat} {xs : List V} (h : RdAt C H r dx L s) (hL : H L = some (.lst xs)) : L ≠ r := fun z => by unfold RdAt at h; rw [← z, hL] at h; cases h
def spReadDoor (K : PySem.W.Frag) (C : Addr) : SpN := fun vs H Q => ∃ (r dx L : Addr) (l : List Nat) (s : Nat) (d : Door), vs = [.ref r] ∧ RdAt C H r dx L s ∧ H L = some (.lst (l.map nV)) ∧ l[s]? = some d.1 ∧ l[s + 1]? = some d.2 ∧ OkDoor d ∧ ∀ H' t, But r H H' → RdAt C H' r dx L (s + 2) → DoorV K H' (.ref t) d → Q (.ref t) H'
abbrev s_Reader_read_door : Stmt := inClass (topS 74) 2
abbrev N_Reader_read_door : List Str := ["self", "warmth"]
theorem sc_Reader_read_door : FnScope N_Reader_read_door ["self"] (defScope s_Reader_read_door) := ⟨rfl, rfl, rfl, by decide +kernel, rfl, by decide +kernel, by decide +kernel⟩
-- cells: []; calls: ['Reader.item']
theorem met_Reader_read_door (B : Base K mg) (R : ReaderB K mg C) : MetD P w K mg base 3 C "read_door" (spReadDoor K C) := by
  refine R.read_door.okD sc_Reader_read_door (fun vs H Q h => ?_) (fun f cdv A outer s H vs Q E hr h => ?_)
  · obtain ⟨r, dx, L, l, s, d, rfl, _⟩ := h
    rfl
  · obtain ⟨r, dx, L, l, s, d, rfl, hrd, hL, hv, hv2, ⟨o1, o2, o3, o4⟩, q⟩ := h
    refine ⟨_, (pss_cons (ps_set (i := 1) sc_Reader_read_door.nd rfl (.inl rfl) (pe_mD (met_Reader_item B R) R.cls hr (by decide) (pv 0) (pa_cons pe_int (pa_cons (pe_gc rfl B.g_MAX_WARMTH) pa_nil))))
    (pss_one (ps_ret (pe_tupF (pa_cons (pv 1) (pa_cons (pe_mD (met_Reader_item B R) R.cls hr (by decide) (pv 0) (pa_cons pe_int (pa_cons (pe_gc rfl B.g_MAX_BEHIND) pa_nil))) pa_nil))))
    )), ?_⟩
    refine ⟨_, rfl, r, dx, _, rfl, hrd, rfl, r, dx, L, l, s, 1, 99, d.1, rfl, hrd, hL, hv, o1, o2, fun H1 k1 r1 => ?_⟩
    refine ⟨_, rfl, _, rfl, r, dx, _, rfl, r1, rfl, r, dx, L, l, s + 1, 1, 4, d.2, rfl, r1, k1 _ _ (rd_ne hrd hL) hL, hv2, o3, o4, fun H2 k2 r2 => ⟨small (by simp), fun T H3 nT e3 hT => ?_⟩⟩
    exact q H3 T ((k1.trans k2).trans (But.of e3)) (e3 _ _ r2) ⟨T, rfl, hT.sq⟩
def spReadCrate (C : Addr) : SpN := fun vs H Q => ∃ (r dx L : Addr) (l : List Nat) (s : Nat) (z : Str), vs = [.ref r] ∧ RdAt C H r dx L s ∧ H L = some (.lst (l.map nV)) ∧ l[s]? = some z.length ∧ (∀ (i : Nat) c, z.cps.toList[i]? = some c → l[s + 1 + i]? = some (codeOf c)) ∧ IsWord z ∧
  ∀ H', But r H H' → RdAt C H' r dx L (s + 1 + z.length) → Q (.str z) H'
abbrev s_Reader_read_crate : Stmt := inClass (topS 74) 3
abbrev N_Reader_read_crate : List Str := ["self", "count", "turn"]
theorem sc_Reader_read_crate : FnScope N_Reader_read_crate ["self"] (defScope s_Reader_read_crate) := ⟨rfl, rfl, rfl, by decide +kernel, rfl, by decide +kernel, by decide +kernel⟩
-- cells: ['self']; calls: ['Reader.item']
theorem met_Reader_read_crate (B : Base K mg) (R : ReaderB K mg C) : MetD P w K mg base 3 C "read_crate" (spReadCrate C) := by
  refine R.read_crate.okD sc_Reader_read_crate (fun vs H Q h => ?_) (fun f cdv A outer s H vs Q E hr h => ?_)
  · obtain ⟨r, dx, L, l, s, z, rfl, _⟩ := h
    rfl
  · obtain ⟨r, dx, L, l, s, z, rfl, hrd, hL, hv, hc, ⟨z1, z8, hz⟩, q⟩ := h
    have zs : z.cps.size = z.length := rfl
    refine ⟨_, (pss_cons (ps_set (i := 1) sc_Reader_read_crate.nd rfl (.inl rfl) (pe_mD (met_Reader_item B R) R.cls hr (by decide) (pv 0) (pa_cons pe_int (pa_cons (pe_gc rfl B.g_MAX_LETTERS) pa_nil))))
    (pss_one (ps_ret (pe_join pe_str (pe_lcX (own := [("turn", 2)]) rfl sc_Reader_read_crate.nd (pi_range1 rfl B.f_range (pa_cons (pv 1) pa_nil)) (blkOk_by (own := [("turn", 2)]) (N := N_Reader_read_crate) (sc := defScope s_Reader_read_crate) (by decide +kernel)) (fun _ _ _ _ _ => (pg_name (i := 2) sc_Reader_read_crate.nd rfl (.inl rfl))) (fun _ _ _ _ _ => pts_nil) (fun _ _ _ _ _ => (pe_ix ix_str (pe_gc rfl B.g_LETTERS) (pe_op op_sub (pe_mD (met_Reader_item B R) R.cls hr (by decide) (pv 0) (pa_cons pe_int (pa_cons (pe_callB call_len rfl B.f_len boot_len (pa_cons (pe_gc rfl B.g_LETTERS) pa_nil)) pa_nil))) pe_int) (fun _ _ => rfl))))))
    )), ?_⟩
    refine ⟨_, rfl, r, dx, _, rfl, hrd, rfl, r, dx, L, l, s, 1, 8, z.length, rfl, hrd, hL, hv, z1, z8, fun H1 k1 r1 => ?_⟩
    have hL1 := k1 _ _ (rd_ne hrd hL) hL
    refine ⟨⟨_, rfl⟩, _, rfl, _, rfl, by omega, by omega, fun D nD => ?_⟩
    have hpl : ((z.length : Nat) : Int).toNat = z.length := Int.toNat_natCast _
    have rD : D ≠ r := fun zz => by unfold RdAt at r1; rw [← zz, nD] at r1; cases r1
    refine lc_it walk_rng (fun i H => But r H1 H ∧ RdAt C H r dx L (s + 1 + i) ∧ H D = some (.lst (((z.cps.toList.take i).map fun c => (⟨#[c]⟩ : Str)).map V.str))) ?_ (fun _ _ _ _ => trivial) (fun i x H2 H3 hi p hy => ?_) (fun H2 p => ?_)
    · exact ⟨fun b o _ h => Same.new nD b o h, by rw [RdAt, upd_ne rD.symm]; exact r1, upd_same⟩
    · obtain ⟨k2, r2, hD2⟩ := p
      obtain ⟨rfl, rfl⟩ := hy
      have hi : i < z.length := hpl ▸ hi
      obtain ⟨c, hci⟩ : ∃ c, z.cps.toList[i]? = some c := ⟨_, List.getElem?_eq_getElem (by rw [Array.length_toList]; omega)⟩
      obtain ⟨l1, l2, l3⟩ := let_at c (hz c (List.mem_of_getElem? hci))
      have hcc : codeOf c = c - 97 + 1 := rfl
      refine ⟨rfl, _, rfl, r, dx, _, rfl, r2, rfl, _, _, rfl, ⟨small (by decide), rfl⟩, r, dx, L, l, s + 1 + i, 1, letters.length, codeOf c, rfl, r2, k2 _ _ (rd_ne r1 hL1) hL1, hc i c hci, by omega, ?_, fun H5 k5 r5 => ?_⟩
      · have : letters.length = 26 := by decide
        omega
      · have hx : ((codeOf c : Nat) : Int) - 1 = ((c - 97 : Nat) : Int) := by omega
        refine ⟨_, _, rfl, rfl, letters, _, c, rfl, rfl, small (by decide), ?_, _, k5 _ _ rD hD2, small' ?_, ?_, ?_, ?_⟩
        · show atI letters.cps.toList (((codeOf c : Nat) : Int) - 1) = some c
          rw [hx]
          exact atI_nat (by rw [Array.getElem?_toList]; exact l3)
        · rw [List.length_map, List.length_map, List.length_take]; omega
        · exact fun b o nb hb => by rw [upd_ne (fun zz => by rw [zz, nD] at hb; cases hb)]; exact k5 _ _ nb (k2 b o nb hb)
        · rw [RdAt, upd_ne rD.symm]; exact r5
        · rw [upd_same, take_succ_get hci, List.map_append, List.map_append]
          rfl
    · obtain ⟨k2, r2, hD2⟩ := p
      rw [hpl] at r2 hD2
      rw [List.take_of_length_le (by rw [Array.length_toList]; omega)] at hD2
      refine ⟨_, D, z.cps.toList.map fun c => (⟨#[c]⟩ : Str), rfl, rfl, .inl (SqL.of hD2), join_fits (b := 1) (fun y hy => ?_) ?_, ?_⟩
      · obtain ⟨c, _, rfl⟩ := List.mem_map.mp hy
        exact Nat.le_refl _
      · rw [List.length_map, Array.length_toList]
        have : ("" : Str).length = 0 := by decide
        rw [this]
        omega
      · rw [join_chars]
        exact q H2 (k1.trans k2) r2
theorem cut_toN {l : List Nat} {k : Nat} (h : k ≤ l.length) : cutV (l.map nV) none (some ((k : Nat) : Int)) = (l.take k).map nV := by
  unfold cutV
  rw [HT.sIx_none, HT.sIx_nat, List.length_map, Nat.min_eq_left h, List.drop_zero, Nat.sub_zero, List.map_take]
def spFinish (C : Addr) : SpN := fun vs H Q => ∃ (r dx L : Addr) (b : List Nat), vs = [.ref r] ∧ RdAt C H r dx L b.length ∧ H L = some (.lst ((b ++ [chk b]).map nV)) ∧ ∀ H', But r H H' → Q .non H'
abbrev s_Reader_finish : Stmt := inClass (topS 74) 4
abbrev N_Reader_finish : List Str := ["self", "check"]
theorem sc_Reader_finish : FnScope N_Reader_finish ["self"] (defScope s_Reader_finish) := ⟨rfl, rfl, rfl, by decide +kernel, rfl, by decide +kernel, by decide +kernel⟩
-- cells: []; calls: ['Reader.item', 'checksum']
theorem met_Reader_finish (B : Base K mg) (R : ReaderB K mg C) : MetD P w K mg base 3 C "finish" (spFinish C) := by
  refine R.finish.okD sc_Reader_finish (fun vs H Q h => ?_) (fun f cdv A outer s H vs Q E hr h => ?_)
  · obtain ⟨r, dx, L, b, rfl, _⟩ := h
    rfl
  · obtain ⟨r, dx, L, b, rfl, hrd, hL, q⟩ := h
    have nr : L ≠ r := rd_ne hrd hL
    refine ⟨_, (pss_cons (ps_set (i := 1) sc_Reader_finish.nd rfl (.inl rfl) (pe_c (cal_checksum B) hr (by decide) rfl (pa_cons (pe_slice sl_list (pe_fld (pv 0) rfl) po_none (po_some (pe_fld (pv 0) rfl))) pa_nil)))
    (pss_cons (ps_expr (pe_mD (met_Reader_item B R) R.cls hr (by decide) (pv 0) (pa_cons (pv 1) (pa_cons (pv 1) pa_nil))))
    (pss_one (ps_if (pt_cmpR op_lt (pe_fld (pv 0) rfl) (pe_callB call_len rfl B.f_len boot_len (pa_cons (pe_fld (pv 0) rfl) pa_nil)) (nomark _)) (
        (pss_one ps_never
        )) (pss_nil))
    ))), ?_⟩
    refine ⟨_, rfl, r, C, dx, _, _, rfl, hrd, R.cls, R.n_data, rfl, _, rfl, r, C, dx, _, _, rfl, hrd, R.cls, R.n_spot, rfl, _, rfl, _, _, rfl, SqL.of hL, fun D nD => ?_⟩
    generalize hh : upd H D _ = H1
    obtain ⟨e1, hD⟩ := upH hh nD
    clear hh
    rw [cut_toN (by simp), List.take_left] at hD
    refine ⟨D, b, rfl, SqL.of hD, ?_⟩
    refine ⟨_, rfl, r, dx, _, rfl, e1 _ _ hrd, rfl, _, rfl, _, rfl, r, dx, L, b ++ [chk b], b.length, chk b, chk b, chk b, rfl, e1 _ _ hrd, e1 _ _ hL, by simp, Nat.le_refl _, Nat.le_refl _, fun H2 k2 r2 => ?_⟩
    have hL2 := k2 _ _ nr (e1 _ _ hL)
    refine ⟨_, rfl, r, C, dx, _, _, rfl, r2, R.cls, R.n_spot, rfl, _, rfl, r, C, dx, _, _, rfl, r2, R.cls, R.n_data, rfl, _, _, rfl, .inl ⟨_, SqL.of hL2, rfl⟩, _, _, rfl, rfl, _, rfl, ?_⟩
    rw [decide_eq_false (by rw [List.length_map, List.length_append]; simp)]
    exact iteF (q H2 ((But.of e1).trans k2))
/-! ### reading a whole store -/
theorem enc_get {a b : List Nat} {i v : Nat} (h : b[i]? = some v) : (a ++ b)[a.length + i]? = some v := by
  rw [List.getElem?_append_right (by omega), Nat.add_sub_cancel_left]
  exact h
def dpart (ds : List Door) : List Nat := ds.flatMap fun d => [d.1, d.2]
theorem dpart_len (ds : List Door) : (dpart ds).length = 2 * ds.length := by
  unfold dpart
  induction ds with
  | nil => rfl
  | cons d t ih => rw [List.flatMap_cons, List.length_append, ih, List.length_cons]; simp; omega
theorem dpart_get : ∀ {ds : List Door} {i : Nat} {d : Door}, ds[i]? = some d → (dpart ds)[2 * i]? = some d.1 ∧ (dpart ds)[2 * i + 1]? = some d.2
  | x :: t, 0, d, h => by cases (show some x = some d from h); exact ⟨rfl, rfl⟩
  | x :: t, i + 1, d, h => by
    have ih := dpart_get (ds := t) (i := i) (d := d) h
    exact ih
def cpart (cs : List Str) : List Nat := cs.flatMap nameCode
def cAt (cs : List Str) (i : Nat) : Nat := (cpart (cs.take i)).length
theorem cAt_succ {cs : List Str} {i : Nat} {z : Str} (h : cs[i]? = some z) : cAt cs (i + 1) = cAt cs i + 1 + z.length := by
  unfold cAt cpart
  rw [take_succ_get h, List.flatMap_append, List.length_append]
  have e : (nameCode z).length = z.length + 1 := by
    unfold nameCode
    rw [List.length_cons, List.length_map]
    rfl
  show _ + (nameCode z ++ []).length = _
  rw [List.append_nil, e]
  omega
theorem cpart_get {cs : List Str} {i : Nat} {z : Str} (h : cs[i]? = some z) : (cpart cs)[cAt cs i]? = some z.length ∧ ∀ (j : Nat) c, z.cps.toList[j]? = some c → (cpart cs)[cAt cs i + 1 + j]? = some (codeOf c) := by
  have hi := (List.getElem?_eq_some_iff.mp h).1
  have e : cpart cs = cpart (cs.take i) ++ (nameCode z ++ cpart (cs.drop (i + 1))) := by
    unfold cpart
    have e2 : cs = cs.take i ++ z :: cs.drop (i + 1) := by
      have := (List.getElem?_eq_some_iff.mp h).2
      rw [← this, List.getElem_cons_drop, List.take_append_drop]
    conv => lhs; rw [e2]
    rw [List.flatMap_append, List.flatMap_cons]
  rw [e]
  unfold cAt
  refine ⟨?_, fun j c hj => ?_⟩
  · exact enc_get (i := 0) rfl
  · rw [Nat.add_assoc]
    refine enc_get ?_
    rw [Nat.add_comm 1 j]
    show (z.cps.toList.map codeOf ++ cpart (cs.drop (i + 1)))[j]? = _
    have hj' := (List.getElem?_eq_some_iff.mp hj).1
    rw [List.getElem?_append_left (by rw [List.length_map]; exact hj'), List.getElem?_map, hj]
    rfl
theorem But.tup {r : Addr} {H H' : Hp} {dx L s : Nat} {a : Addr} {xs : List V} (k : But r H H') (h : RdAt C H r dx L s) (t : SqT K H a xs) : SqT K H' a xs := by
  unfold RdAt at h
  rcases t with (t | ⟨o, t⟩) | t
  · exact .inl (.inl (k _ _ (fun z => by rw [z, h] at t; cases t) t))
  · exact .inl (.inr ⟨o, k _ _ (fun z => by rw [z, h] at t; cases t) t⟩)
  · exact .inr t
theorem But.doors {r : Addr} {H H' : Hp} {dx L s : Nat} {us : List V} {ds : List Door} (k : But r H H') (h : RdAt C H r dx L s) (t : Paired (DoorV K H) us ds) : Paired (DoorV K H') us ds := Paired.imp (fun _ _ ⟨b, e, t⟩ => ⟨b, e, k.tup h t⟩) t
theorem enc_0 (ds : List Door) (cs : List Str) : (enc ds cs)[0]? = some 71 := rfl
theorem enc_1 (ds : List Door) (cs : List Str) : (enc ds cs)[1]? = some ds.length := rfl
theorem enc_form (ds : List Door) (cs : List Str) : enc ds cs = [71, ds.length] ++ (dpart ds ++ ([cs.length] ++ (cpart cs ++ [chk (encBody ds cs)]))) := by
  show [71, ds.length] ++ dpart ds ++ ([cs.length] ++ cpart cs) ++ [chk (encBody ds cs)] = _
  simp only [List.append_assoc]
theorem get_left {a b : List Nat} {i v : Nat} (h : a[i]? = some v) : (a ++ b)[i]? = some v := by
  rw [List.getElem?_append_left (List.getElem?_eq_some_iff.mp h).1]
  exact h
theorem enc_d {ds : List Door} {cs : List Str} {i v : Nat} (h : (dpart ds)[i]? = some v) : (enc ds cs)[2 + i]? = some v := by
  rw [enc_form]
  exact enc_get (a := [71, ds.length]) (get_left h)
theorem enc_m (ds : List Door) (cs : List Str) : (enc ds cs)[2 + 2 * ds.length]? = some cs.length := by
  rw [enc_form]
  refine enc_get (a := [71, ds.length]) ?_
  rw [← dpart_len ds]
  exact enc_get (i := 0) rfl
theorem enc_c {ds : List Door} {cs : List Str} {i v : Nat} (h : (cpart cs)[i]? = some v) : (enc ds cs)[3 + 2 * ds.length + i]? = some v := by
  rw [enc_form, show 3 + 2 * ds.length + i = 2 + (2 * ds.length + (1 + i)) by omega]
  refine enc_get (a := [71, ds.length]) ?_
  rw [← dpart_len ds]
  exact enc_get (enc_get (a := [cs.length]) (get_left h))
theorem body_len (ds : List Door) (cs : List Str) : (encBody ds cs).length = 3 + 2 * ds.length + cAt cs cs.length := by
  show ([71, ds.length] ++ dpart ds ++ ([cs.length] ++ cpart cs)).length = _
  unfold cAt
  rw [List.take_length]
  simp only [List.length_append, dpart_len, List.length_cons, List.length_nil]
  omega
def spDecode (K : PySem.W.Frag) (C : Addr) : SpN := fun vs H Q => ∃ (L : Addr) (ds : List Door) (cs : List Str), vs = [.ref L] ∧ H L = some (.lst ((enc ds cs).map nV)) ∧ OkDoors ds ∧ OkCrates cs (places ds) ∧ ∀ H' a, Same H H' → StoreAt K C H' a ds cs → Q (.ref a) H'
abbrev s_decode_store : Stmt := topS 75
abbrev N_decode_store : List Str := ["values", "reader", "rows", "turn", "names"]
theorem sc_decode_store : FnScope N_decode_store ["values"] (defScope s_decode_store) := ⟨rfl, rfl, rfl, by decide +kernel, rfl, by decide +kernel, by decide +kernel⟩
-- cells: ['reader']; calls: ['Reader.__init__', 'Reader.finish', 'Reader.item', 'Reader.read_crate', 'Reader.read_door', 'Store.__init__']
theorem cal_decode_store {CR : Addr} (B : Base K mg) (S : StoreB K mg C) (R : ReaderB K mg CR) : Cal P w K mg base 6 "decode_store" (spDecode K C) := by
  refine B.d_decode_store.ok sc_decode_store (fun vs H Q h => ?_) (fun f cdv A outer s H vs Q E hr h => ?_)
  · obtain ⟨L, ds, cs, rfl, _⟩ := h
    rfl
  · obtain ⟨L, ds, cs, rfl, hL, okd, okc, q⟩ := h
    have d4 : ds.length ≤ 4 := okd.2.1
    have d1 : 1 ≤ ds.length := okd.1
    have c1 : 1 ≤ cs.length := okc.1
    have c5 : cs.length ≤ 5 := okc.2.1
    refine ⟨_, (pss_cons (ps_set (i := 1) sc_decode_store.nd rfl (.inr rfl) (pe_mkN (mak_Reader B R) hr (by decide) rfl (pa_cons (pv 0) pa_nil)))
    (pss_cons (ps_expr (pe_mD (met_Reader_item B R) R.cls hr (by decide) (pv 1) (pa_cons (pe_gc rfl B.g_FIRST) (pa_cons (pe_gc rfl B.g_FIRST) pa_nil))))
    (pss_cons (ps_setLcX (i := 2) (own := [("turn", 3)]) rfl sc_decode_store.nd rfl rfl (sw_true rfl rfl rfl rfl) (pi_range1 rfl B.f_range (pa_cons (pe_mD (met_Reader_item B R) R.cls hr (by decide) (pv 1) (pa_cons pe_int (pa_cons (pe_gc rfl B.g_MAX_DOORS) pa_nil))) pa_nil)) (blkOk_by (own := [("turn", 3)]) (N := N_decode_store) (sc := defScope s_decode_store) (by decide +kernel)) (fun _ _ _ _ _ => (pg_name (i := 3) sc_decode_store.nd rfl (.inl rfl))) (fun _ _ _ _ _ => pts_nil) (fun _ _ _ _ _ => (pe_mD0 (met_Reader_read_door B R) R.cls hr (by decide) (pv 1))))
    (pss_cons (ps_setLcX (i := 4) (own := [("turn", 3)]) rfl sc_decode_store.nd rfl rfl (sw_true rfl rfl rfl rfl) (pi_range1 rfl B.f_range (pa_cons (pe_mD (met_Reader_item B R) R.cls hr (by decide) (pv 1) (pa_cons pe_int (pa_cons (pe_gc rfl B.g_MAX_CRATES) pa_nil))) pa_nil)) (blkOk_by (own := [("turn", 3)]) (N := N_decode_store) (sc := defScope s_decode_store) (by decide +kernel)) (fun _ _ _ _ _ => (pg_name (i := 3) sc_decode_store.nd rfl (.inl rfl))) (fun _ _ _ _ _ => pts_nil) (fun _ _ _ _ _ => (pe_mD0 (met_Reader_read_crate B R) R.cls hr (by decide) (pv 1))))
    (pss_cons (ps_expr (pe_mD0 (met_Reader_finish B R) R.cls hr (by decide) (pv 1)))
    (pss_one (ps_ret (pe_mkN (mak_Store B S) hr (by decide) rfl (pa_cons (pe_callTy call_tupleF rfl B.f_tuple (by decide +kernel) (pa_cons (pv 2) pa_nil)) (pa_cons (pe_callTy call_tupleF rfl B.f_tuple (by decide +kernel) (pa_cons (pv 4) pa_nil)) pa_nil))))
    )))))), ?_⟩
    refine ⟨_, rfl, fun x dx nx ndx ne => ?_⟩
    refine ⟨x, dx, L, rfl, upd_same, fun H1 k1 r1 => ⟨rfl, ?_⟩⟩
    have e1 : Same H H1 := fun b o hb => by
      have bx : b ≠ x := fun z => by rw [z, nx] at hb; cases hb
      refine k1 b o bx ?_
      rw [upd_ne bx, upd_ne (fun z => by rw [z, ndx] at hb; cases hb)]
      exact hb
    have hL1 := e1 _ _ hL
    refine ⟨_, rfl, x, dx, _, rfl, r1, rfl, x, dx, L, enc ds cs, 0, 71, 71, 71, rfl, r1, hL1, enc_0 ds cs, Nat.le_refl _, Nat.le_refl _, fun H2 k2 r2 => ?_⟩
    have hL2 := k2 _ _ (rd_ne r1 hL1) hL1
    refine ⟨_, rfl, x, dx, _, rfl, r2, rfl, x, dx, L, enc ds cs, 1, 1, 4, ds.length, rfl, r2, hL2, enc_1 ds cs, d1, d4, fun H3 k3 r3 => ?_⟩
    have hL3 := k3 _ _ (rd_ne r2 hL2) hL2
    refine ⟨_, rfl, by omega, by omega, fun D nD => ?_⟩
    have hpd : ((ds.length : Nat) : Int).toNat = ds.length := Int.toNat_natCast _
    have hpc : ((cs.length : Nat) : Int).toNat = cs.length := Int.toNat_natCast _
    have xD : D ≠ x := fun zz => by unfold RdAt at r3; rw [← zz, nD] at r3; cases r3
    refine lc_it walk_rng (fun i H => But x H3 H ∧ RdAt CR H x dx L (2 + 2 * i) ∧ ∃ us, H D = some (.lst us) ∧ Paired (DoorV K H) us (ds.take i)) ?_ (fun _ _ _ _ => trivial) (fun i y H4 H4' hi p hy => ?_) (fun H4 p => ?_)
    · exact ⟨But.of (Same.new nD), by rw [RdAt, upd_ne xD.symm]; exact r3, [], upd_same, .nil⟩
    · obtain ⟨k4, r4, us, hD4, p4⟩ := p
      obtain ⟨rfl, rfl⟩ := hy
      have hi : i < ds.length := hpd ▸ hi
      obtain ⟨d, hd⟩ : ∃ d, ds[i]? = some d := ⟨_, List.getElem?_eq_getElem hi⟩
      have ok1 := okd.2.2.1 d (List.mem_of_getElem? hd)
      obtain ⟨g1, g2⟩ := dpart_get hd
      have hL4 := k4 _ _ (rd_ne r3 hL3) hL3
      refine ⟨rfl, _, rfl, x, dx, _, rfl, r4, rfl, x, dx, L, enc ds cs, 2 + 2 * i, d, rfl, r4, hL4, enc_d g1, enc_d g2, ok1, fun H5 t k5 r5 dv => ⟨us, k5 _ _ xD hD4, small' ?_, ?_, ?_, _, upd_same, ?_⟩⟩
      · rw [Paired.len p4, List.length_take]; omega
      · exact fun b o nb hb => by rw [upd_ne (fun zz => by rw [zz, nD] at hb; cases hb)]; exact k5 _ _ nb (k4 b o nb hb)
      · rw [RdAt, upd_ne xD.symm]; exact r5
      · rw [take_succ_get hd]
        have m5 : SameN H5 (upd H5 D (.lst (us ++ [V.ref t]))) := SameN.wr (k5 _ _ xD hD4)
        exact Paired.snoc (Paired.imp (fun _ _ h => DoorV.mono m5 h) (k5.doors r4 p4)) (dv.mono m5)
    obtain ⟨k4, r4, us, hD4, p4⟩ := p
    rw [hpd] at r4 p4
    rw [List.take_length] at p4
    have hL4 := k4 _ _ (rd_ne r3 hL3) hL3
    refine ⟨_, rfl, x, dx, _, rfl, r4, rfl, x, dx, L, enc ds cs, 2 + 2 * ds.length, 1, 5, cs.length, rfl, r4, hL4, enc_m ds cs, c1, c5, fun H5 k5 r5 => ?_⟩
    rw [show 2 + 2 * ds.length + 1 = 3 + 2 * ds.length by omega] at r5
    have hL5 := k5 _ _ (rd_ne r4 hL4) hL4
    have hD5 := k5 _ _ xD hD4
    have p5 := k5.doors r4 p4
    refine ⟨_, rfl, by omega, by omega, fun D2 nD2 => ?_⟩
    have xD2 : D2 ≠ x := fun zz => by unfold RdAt at r5; rw [← zz, nD2] at r5; cases r5
    refine lc_it walk_rng (fun i H => But x H5 H ∧ RdAt CR H x dx L (3 + 2 * ds.length + cAt cs i) ∧ H D2 = some (.lst ((cs.take i).map V.str))) ?_ (fun _ _ _ _ => trivial) (fun i y H6 H6' hi p hy => ?_) (fun H6 p => ?_)
    · exact ⟨But.of (Same.new nD2), by rw [RdAt, upd_ne xD2.symm]; exact r5, upd_same⟩
    · obtain ⟨k6, r6, hD6⟩ := p
      obtain ⟨rfl, rfl⟩ := hy
      have hi : i < cs.length := hpc ▸ hi
      obtain ⟨z, hz⟩ : ∃ z, cs[i]? = some z := ⟨_, List.getElem?_eq_getElem hi⟩
      have wz := okc.2.2.2.1 z (List.mem_of_getElem? hz)
      obtain ⟨g1, g2⟩ := cpart_get hz
      have hL6 := k6 _ _ (rd_ne r5 hL5) hL5
      refine ⟨rfl, _, rfl, x, dx, _, rfl, r6, rfl, x, dx, L, enc ds cs, 3 + 2 * ds.length + cAt cs i, z, rfl, r6, hL6, enc_c g1, fun j c hj => ?_, wz, fun H7 k7 r7 => ⟨_, k7 _ _ xD2 hD6, small' ?_, ?_, ?_, ?_⟩⟩
      · have := enc_c (ds := ds) (g2 j c hj)
        rw [show 3 + 2 * ds.length + cAt cs i + 1 + j = 3 + 2 * ds.length + (cAt cs i + 1 + j) by omega]
        exact this
      · rw [List.length_map, List.length_take]; omega
      · exact fun b o nb hb => by rw [upd_ne (fun zz => by rw [zz, nD2] at hb; cases hb)]; exact k7 _ _ nb (k6 b o nb hb)
      · rw [RdAt, upd_ne xD2.symm, cAt_succ hz, show 3 + 2 * ds.length + (cAt cs i + 1 + z.length) = 3 + 2 * ds.length + cAt cs i + 1 + z.length by omega]
        exact r7
      · rw [upd_same, take_succ_get hz, List.map_append]
        rfl
    obtain ⟨k6, r6, hD6⟩ := p
    rw [hpc] at r6 hD6
    rw [List.take_length] at hD6
    rw [← body_len] at r6
    have hL6 := k6 _ _ (rd_ne r5 hL5) hL5
    refine ⟨_, rfl, x, dx, _, rfl, r6, rfl, x, dx, L, encBody ds cs, rfl, r6, hL6, fun H7 k7 => ?_⟩
    have hD7 := k7 _ _ xD (k6 _ _ xD hD5)
    have hE7 := k7 _ _ xD2 hD6
    have p7 := k7.doors r6 (k6.doors r5 p5)
    have e07 : Same H H7 := fun b o hb => by
      have bx : b ≠ x := fun z => by rw [z, nx] at hb; cases hb
      exact k7 _ _ bx (k6 _ _ bx (k5 _ _ bx (k4 _ _ bx (k3 _ _ bx (k2 _ _ bx (e1 _ _ hb))))))
    refine ⟨_, rfl, _, _, rfl, SqL.of hD7, fun T1 H8 nT1 e8 hT1 => ⟨_, rfl, _, _, rfl, SqL.of (e8 _ _ hE7), fun T2 H9 nT2 e9 hT2 => ?_⟩⟩
    intro y dy ny ndy ney
    have m9 : SameN H7 H9 := (e8.trans e9).n
    generalize hh : upd (upd H9 dy (.own y)) y (.ins C dy []) = H10
    have hy10 : H10 y = some (.ins C dy []) := by rw [← hh]; exact upd_same
    have hdy10 : H10 dy = some (.own y) := by rw [← hh, upd_ne ney]; exact upd_same
    have e10 : Same H9 H10 := fun b o hb => by
      rw [← hh, upd_ne (fun z => by rw [z, ny] at hb; cases hb), upd_ne (fun z => by rw [z, ndy] at hb; cases hb)]
      exact hb
    clear hh
    have e710 := (e8.trans e9).trans e10
    refine ⟨y, dy, T1, T2, ds, cs, rfl, hy10, hdy10, ney, ⟨T1, us, rfl, (hT1.mono (e9.trans e10).n).sq, Paired.imp (fun _ _ h => DoorV.mono e710.n h) p7⟩, okd, (hT2.mono e10.n).sq, okc, fun H11 k11 st => ⟨rfl, q H11 y (fun b o hb => ?_) st⟩⟩
    have hb9 := e9 _ _ (e8 _ _ (e07 _ _ hb))
    exact k11 b o (fun z => by rw [z, ny] at hb9; cases hb9) (fun z => by rw [z, ndy] at hb9; cases hb9) (e10 _ _ hb9)
end
end CC

/-! text D18 -/
namespace CC
open PySem PySem.Spec PyProof.Rows L2
/-! ### texts of stores -/
def wordLists (ds : List Door) (cs : List Str) : List (List Str) := ds.map (fun d => [(Str.ofString "door"), numS d.1, numS d.2]) ++ [(Str.ofString "crates") :: cs]
def storeLines (ds : List Door) (cs : List Str) : List Str := (wordLists ds cs).map (Txt.join " ")
def storeText (ds : List Door) (cs : List Str) : Str := Txt.join "\n" (storeLines ds cs)
def ListV (H : Hp) (D : Addr) (v : V) (ws : List Str) : Prop := ∃ M, v = .ref M ∧ M ≠ D ∧ H M = some (.lst (ws.map V.str))
theorem numS2_len : ∀ n < 100, (numS ((n : Nat) : Int)).length ≤ 2 := by decide +kernel
theorem words_ok {ds : List Door} {cs : List Str} (ok : OkDoors ds) (okc : ∀ c ∈ cs, IsWord c) (c5 : cs.length ≤ 5) : ∀ ws ∈ wordLists ds cs, ws.length ≤ 6 ∧ ∀ x ∈ ws, x.length ≤ 8 := fun ws hw => by
  unfold wordLists at hw
  rcases List.mem_append.mp hw with hw | hw
  · obtain ⟨d, hd, rfl⟩ := List.mem_map.mp hw
    obtain ⟨o1, o2, o3, o4⟩ := ok.2.2.1 d hd
    refine ⟨by simp, fun x hx => ?_⟩
    rcases List.mem_cons.mp hx with rfl | hx
    · decide
    · rcases List.mem_cons.mp hx with rfl | hx
      · have := numS2_len d.1 (by omega); omega
      · rw [List.mem_singleton.mp hx]; have := numS2_len d.2 (by omega); omega
  · rw [List.mem_singleton.mp hw]
    refine ⟨by rw [List.length_cons]; omega, fun x hx => ?_⟩
    rcases List.mem_cons.mp hx with rfl | hx
    · decide
    · exact (okc x hx).2.1
section
variable {P : Program} {w : World} {K : PySem.W.Frag} {mg : Str → Option Value} {base : Heap} {C : Addr}
def spFormat (K : PySem.W.Frag) (C : Addr) : SpN := fun vs H Q => ∃ a ds cs, vs = [.ref a] ∧ StoreAt K C H a ds cs ∧ ∀ H', Same H H' → Q (.str (storeText ds cs)) H'
abbrev s_format_store : Stmt := topS 81
abbrev N_format_store : List Str := ["store", "rows", "warmth", "places", "row"]
theorem sc_format_store : FnScope N_format_store ["store"] (defScope s_format_store) := ⟨rfl, rfl, rfl, by decide +kernel, rfl, by decide +kernel, by decide +kernel⟩
-- cells: []; calls: []
theorem cal_format_store (B : Base K mg) (S : StoreB K mg C) : Cal P w K mg base 3 "format_store" (spFormat K C) := by
  refine B.d_format_store.ok sc_format_store (fun vs H Q h => ?_) (fun f cdv A outer s H vs Q E hr h => ?_)
  · obtain ⟨a, ds, cs, rfl, _⟩ := h
    rfl
  · obtain ⟨a, ds, cs, rfl, sa, q⟩ := h
    obtain ⟨dx, ws, ha⟩ := sa.slt
    have d4 : ds.length ≤ 4 := sa.1.1.2.1
    have c5 : cs.length ≤ 5 := sa.1.2.2.1
    refine ⟨_, (pss_cons (ps_setLcX (i := 1) (own := [("warmth", 2), ("places", 3)]) rfl sc_format_store.nd rfl rfl (sw_true rfl rfl rfl rfl) (pi_tup (pe_prN (prp_Store_doors B S) S.cls hr (by decide) (pv 0))) (blkOk_by (own := [("warmth", 2), ("places", 3)]) (N := N_format_store) (sc := defScope s_format_store) (by decide +kernel)) (fun _ _ _ _ _ => (pg_tup rfl (pgs_cons (pg_name (i := 2) sc_format_store.nd rfl (.inl rfl)) (pgs_cons (pg_name (i := 3) sc_format_store.nd rfl (.inl rfl)) pgs_nil)))) (fun _ _ _ _ _ => pts_nil) (fun _ _ _ _ _ => (pe_lstN (pa_cons (pe_gc rfl B.g_DOOR) (pa_cons (pe_callTy call_str_int rfl B.f_str (by decide +kernel) (pa_cons (pv 2) pa_nil)) (pa_cons (pe_callTy call_str_int rfl B.f_str (by decide +kernel) (pa_cons (pv 3) pa_nil)) pa_nil))))))
    (pss_one (ps_ret (pe_join pe_str (pe_lcX (own := [("row", 4)]) rfl sc_format_store.nd (pi_list (pe_lstN (StX.pa_star (pv 1) (pa_cons (pe_lstN (pa_cons (pe_gc rfl B.g_CRATES) (StX.pa_star (pe_prN (prp_Store_crates B S) S.cls hr (by decide) (pv 0)) pa_nil))) pa_nil)))) (blkOk_by (own := [("row", 4)]) (N := N_format_store) (sc := defScope s_format_store) (by decide +kernel)) (fun _ _ _ _ _ => (pg_name (i := 4) sc_format_store.nd rfl (.inl rfl))) (fun _ _ _ _ _ => pts_nil) (fun _ _ _ _ _ => (pe_join pe_str (pv 4))))))
    )), ?_⟩
    refine ⟨_, rfl, a, dx, ws, rfl, ha, a, ds, cs, rfl, sa, fun d hd => ⟨_, rfl, ?_⟩⟩
    obtain ⟨d', as, ed, ht, hp⟩ := id hd
    cases ed
    refine ⟨⟨_, ht⟩, fun D nD => ?_⟩
    have hlen : as.length = ds.length := Paired.len hp
    refine lc_it walk_tup (fun i H1 => But D H H1 ∧ ∃ us, H1 D = some (.lst us) ∧ Paired (fun v (d : Door) => ListV H1 D v ["door", numS d.1, numS d.2]) us (ds.take i)) ?_ (fun i H1 _ p => (SameN.list (xs := []) (L := D) (H := upd H D (.lst [])) upd_same (fun b o nb hb => p.1 b o nb (by rw [upd_ne nb] at hb; exact hb))).tup ((Same.new nD).tup ht)) (fun i y H1' H1 hi p hy => ?_) (fun H1 p => ?_)
    · exact ⟨But.upd _ _ _, [], upd_same, .nil⟩
    · obtain ⟨k1, us, hD1, p1⟩ := p
      obtain ⟨rfl, hy⟩ := hy
      obtain ⟨dd, hdd, hdv⟩ := Paired.get1 hp hy
      obtain ⟨b, rfl, hb⟩ := hdv
      have e1 : Same H H1 := fun b o hb => k1 b o (fun z => by rw [z, nD] at hb; cases hb) hb
      have okd := sa.1.1.2.2.1 dd (List.mem_of_getElem? hdd)
      have l1 : ∀ n : Nat, n < 100 → ((n : Nat) : Int).natAbs.log2 < 1920 := fun n hn => by
        rw [Int.natAbs_natCast]
        have := Nat.log2_le_self n
        omega
      obtain ⟨o1, o2, o3, o4⟩ := okd
      refine ⟨_, _, rfl, e1.tup hb, rfl, _, _, rfl, _, _, rfl, rfl, rfl, _, rfl, _, rfl, l1 _ (by omega), _, rfl, _, rfl, l1 _ (by omega), small (by simp), fun M H2 nM e2 hM => ?_⟩
      have hD2 := e2 _ _ hD1
      have hMD : M ≠ D := fun z => by rw [z, hD1] at nM; cases nM
      refine ⟨us, hD2, small' ?_, ?_, _, upd_same, ?_⟩
      · rw [Paired.len p1, List.length_take]; omega
      · exact (k1.trans (But.of e2)).trans (But.upd _ _ _)
      · rw [take_succ_get hdd]
        refine Paired.snoc (Paired.imp (fun v d ⟨M', e, n, h⟩ => ⟨M', e, n, by rw [upd_ne n]; exact e2 _ _ h⟩) p1) ⟨M, rfl, hMD, by rw [upd_ne hMD]; exact hM⟩
    obtain ⟨k1, us, hD1, p1⟩ := p
    rw [hlen, List.take_length] at p1
    have e1 : Same H H1 := fun b o hb => k1 b o (fun z => by rw [z, nD] at hb; cases hb) hb
    refine ⟨⟨_, rfl⟩, _, rfl, _, _, rfl, .inr (SqL.of hD1), _, rfl, a, dx, ws, rfl, slt_mono e1.n ha, a, ds, cs, rfl, sa.mono e1.n, fun c hc => ?_⟩
    refine ⟨_, _, rfl, .inl hc, small (by simp; omega), fun M2 H2 nM2 e2 hM2 => ⟨?_, fun L H3 nL e3 hL => ⟨_, rfl, ⟨_, SqL.of hL⟩, ?_⟩⟩⟩
    · refine small ?_
      simp only [List.length_append, List.length_cons, List.length_nil]
      rw [Paired.len p1]
      omega
    have e23 := e2.trans e3
    have pw : Paired (fun v (ws : List Str) => ∃ M, v = V.ref M ∧ H3 M = some (.lst (ws.map V.str))) (us ++ [V.ref M2]) (wordLists ds cs) := by
      refine Paired.app ?_ (.cons ⟨M2, rfl, e3 _ _ ?_⟩ .nil)
      · clear hL
        have : ∀ {us : List V} {ds : List Door}, Paired (fun v (d : Door) => ListV H1 D v ["door", numS d.1, numS d.2]) us ds → Paired (fun v (ws : List Str) => ∃ M, v = V.ref M ∧ H3 M = some (.lst (ws.map V.str))) us (ds.map (fun d => [(Str.ofString "door"), numS d.1, numS d.2])) := fun {us ds} p => by
          induction p with
          | nil => exact .nil
          | cons h _ ih => exact .cons (let ⟨M, e, _, h⟩ := h; ⟨M, e, e23 _ _ h⟩) ih
        exact this p1
      · rw [hM2, List.append_nil]; rfl
    have wk := words_ok (ds := ds) sa.1.1 sa.1.2.2.2.2.1 c5
    have wl : (wordLists ds cs).length ≤ 5 := by
      unfold wordLists
      rw [List.length_append, List.length_map, List.length_singleton]
      omega
    have pl := Paired.len pw
    refine comp_it walk_list (wordLists ds cs) (fun ws => some (Txt.join " " ws)) (fun H v ws => ∃ M, v = V.ref M ∧ H M = some (.lst (ws.map V.str))) (fun _ v b => v = .str b) (fun _ _ _ _ _ h => h) pl.symm (fun _ e => SqL.of (e _ _ hL))
      (by omega) (fun i H4 x H' ws hw hy e => ?_) (fun i ws x H' Qy Qn hw e hs ky kn => ?_) (fun D5 H5 ys hD5 e5 g1 g2 => ?_)
    · obtain ⟨rfl, hx⟩ := hy
      obtain ⟨x', hx', M, rfl, hM⟩ := Paired.get pw hw
      rw [hx] at hx'
      cases hx'
      exact ⟨Same.refl _, M, rfl, e _ _ hM⟩
    · obtain ⟨M, rfl, hM⟩ := hs
      obtain ⟨w6, w8⟩ := wk ws (List.mem_of_getElem? hw)
      have sp : (" " : Str).length ≤ 1 := by decide
      exact ⟨rfl, ⟨_, rfl⟩, _, rfl, _, M, ws, rfl, rfl, .inl (SqL.of hM), join_fits w8 (Nat.le_trans (Nat.mul_le_mul w6 (show 8 + (" " : Str).length ≤ 9 by omega)) (by decide)), ky _ _ _ rfl (Same.refl _) rfl⟩
    · rw [fm_some] at g2
      refine ⟨_, D5, storeLines ds cs, rfl, rfl, .inl (SqL.of (by rw [g1, strs_of g2]; rfl)), join_fits (b := 60) (fun y hy => ?_) ?_, q _ ((e1.trans e23).trans e5)⟩
      · obtain ⟨ws, hw, rfl⟩ := List.mem_map.mp hy
        obtain ⟨w6, w8⟩ := wk ws hw
        have sp : (" " : Str).length ≤ 1 := by decide
        exact Nat.le_trans (join_len " " 8 ws w8) (Nat.le_trans (Nat.mul_le_mul w6 (show 8 + (" " : Str).length ≤ 9 by omega)) (by decide))
      · unfold storeLines
        rw [List.length_map]
        have sp : ("\n" : Str).length ≤ 1 := by decide
        exact Nat.le_trans (Nat.mul_le_mul wl (show 60 + ("\n" : Str).length ≤ 61 by omega)) (by decide)
end
end CC

/-! text D19 -/
namespace CC
open PySem PySem.Spec PyProof.Rows L2
/-! ### reading a text -/
def digits : Str := "0123456789"
structure IsCount (z : Str) : Prop where
  one : 1 ≤ z.length
  two : z.length ≤ 2
  dig : ∀ c ∈ z.cps.toList, c ∈ digits.cps.toList
  fst : z.cps.toList[0]? ≠ some 48
theorem count_is : ∀ n < 100, 1 ≤ n → 1 ≤ (numS ((n : Nat) : Int)).length ∧ (∀ c ∈ (numS ((n : Nat) : Int)).cps.toList, c ∈ digits.cps.toList) ∧ (numS ((n : Nat) : Int)).cps.toList[0]? ≠ some 48 ∧ PySem.intText? (numS ((n : Nat) : Int)) = some ((n : Nat) : Int) := by decide +kernel
section
variable {P : Program} {w : World} {K : PySem.W.Frag} {mg : Str → Option Value} {base : Heap} {C : Addr}
def spIsCount : SpN := fun vs H Q => ∃ z, vs = [.str z] ∧ IsCount z ∧ ∀ H', Same H H' → Q (.bl true) H'
abbrev s_is_count : Stmt := topS 82
abbrev N_is_count : List Str := ["word", "sign"]
theorem sc_is_count : FnScope N_is_count ["word"] (defScope s_is_count) := ⟨rfl, rfl, rfl, by decide +kernel, rfl, by decide +kernel, by decide +kernel⟩
-- cells: []; calls: []
theorem cal_is_count (B : Base K mg) : Cal P w K mg base 1 "is_count" spIsCount := by
  refine B.d_is_count.ok sc_is_count (fun vs H Q h => ?_) (fun f cdv A outer s H vs Q E hr h => ?_)
  · obtain ⟨z, rfl, _⟩ := h
    rfl
  · obtain ⟨z, rfl, ok, q⟩ := h
    have h1 := ok.one
    have h2 := ok.two
    have zs : z.cps.size = z.length := rfl
    refine ⟨_, (pss_one (ps_ret (pe_and (pe_chain op_le op_le pe_int (pe_callB call_len rfl B.f_len boot_len (pa_cons (pv 0) pa_nil)) (pe_gc rfl B.g_MOST_DIGITS)) (pe_and (pe_callB (cr_all rfl) rfl B.f_all (by decide +kernel) (pa_cons (pe_lcX (own := [("sign", 1)]) rfl sc_is_count.nd (pi_str (pv 0)) (blkOk_by (own := [("sign", 1)]) (N := N_is_count) (sc := defScope s_is_count) (by decide +kernel)) (fun _ _ _ _ _ => (pg_name (i := 1) sc_is_count.nd rfl (.inl rfl))) (fun _ _ _ _ _ => pts_nil) (fun _ _ _ _ _ => (pe_cmpR op_in_sign (pv 1) (pe_gc rfl B.g_DIGITS) rfl))) pa_nil)) (pe_one (pe_cmpR op_ne (pe_ix ix_str (pv 0) pe_int (fun _ _ => rfl)) pe_str (nomark _))))))
    ), ?_⟩
    refine ⟨_, rfl, _, _, rfl, ⟨small (by omega), rfl⟩, _, _, rfl, rfl, ?_⟩
    refine ⟨_, rfl, ?_⟩
    refine iteD (by omega) ⟨_, _, rfl, rfl, _, rfl, ?_⟩
    rw [decide_eq_true (show ((z.length : Nat) : Int) ≤ 2 by omega)]
    refine iteT ⟨_, rfl, _, rfl, ?_⟩
    refine comp_it walk_str z.cps.toList (fun c => some (decide (c ∈ digits.cps.toList))) (fun _ v c => v = .str ⟨#[c]⟩) (fun _ v b => v = .bl b) (fun _ _ _ _ _ h => h) (by simp) (fun _ _ => trivial)
      (by omega) (fun i H x H' a ha hy _ => ?_) (fun i a x H' Qy Qn ha e hs ky kn => ?_) (fun D H' ys hD e g1 g2 => ?_)
    · obtain ⟨rfl, c, hc, rfl⟩ := hy
      refine ⟨Same.refl _, ?_⟩
      rw [Array.getElem?_toList] at ha
      rw [ha] at hc
      cases hc
      rfl
    · subst hs
      exact ⟨rfl, _, rfl, _, _, rfl, rfl, ky _ _ _ rfl (Same.refl _) rfl⟩
    · rw [fm_some] at g2
      refine ⟨_, _, rfl, SqL.of (by rw [g1, bls_of g2]), ?_⟩
      rw [all_true (fun c hc => decide_eq_true (ok.dig c hc))]
      obtain ⟨c, hc⟩ : ∃ c, z.cps.toList[0]? = some c := ⟨_, List.getElem?_eq_getElem (by rw [Array.length_toList]; omega)⟩
      refine ⟨_, rfl, iteT ⟨_, rfl, _, _, c, rfl, rfl, small (by omega), atI_nat (j := 0) hc, rfl, ?_⟩⟩
      refine qb Q ?_ (q _ e)
      rw [decide_eq_false]
      · rfl
      · intro zz
        have := congrArg (fun s : Str => s.cps.toList[0]?) (V.str.inj zz)
        have e3 : some c = some 48 := this
        exact ok.fst (hc.trans e3)
def heads (k : Nat) : List Str := (if k < 4 then [(Str.ofString "door")] else []) ++ (if k = 0 then [] else [(Str.ofString "crates")])
def spHeads (K : PySem.W.Frag) : SpN := fun vs H Q => ∃ r nm us ds, vs = [.ref r, .ref nm] ∧ H r = some (.lst us) ∧ Paired (DoorV K H) us ds ∧ ds.length ≤ 4 ∧ SqT K H nm [] ∧ ∀ H' t, Same H H' → TupF H' t ((heads ds.length).map V.str) → Q (.ref t) H'
abbrev s_heads_at : Stmt := topS 84
abbrev N_heads_at : List Str := ["rows", "names"]
theorem sc_heads_at : FnScope N_heads_at ["rows", "names"] (defScope s_heads_at) := ⟨rfl, rfl, rfl, by decide +kernel, rfl, by decide +kernel, by decide +kernel⟩
-- cells: []; calls: []
theorem cal_heads_at (B : Base K mg) : Cal P w K mg base 1 "heads_at" (spHeads K) := by
  refine B.d_heads_at.ok sc_heads_at (fun vs H Q h => ?_) (fun f cdv A outer s H vs Q E hr h => ?_)
  · obtain ⟨r, nm, us, ds, rfl, _⟩ := h
    rfl
  · obtain ⟨r, nm, us, ds, rfl, hr1, pr, d4, hn, q⟩ := h
    refine ⟨_, (pss_cons (ps_if (pt_cmpR (op_neD hr.units) (pv 1) (pe_tupF pa_nil) (nomark _)) (
        (pss_one (ps_ret (pe_tupF pa_nil))
        )) (pss_nil))
    (pss_one (ps_ret (pe_op op_catF (pe_ifExp (pt_cmpR op_lt (pe_callB call_len rfl B.f_len boot_len (pa_cons (pv 0) pa_nil)) (pe_gc rfl B.g_MAX_DOORS) (nomark _)) (pe_tupF (pa_cons (pe_gc rfl B.g_DOOR) pa_nil)) (pe_tupF pa_nil)) (pe_ifExp (pt_cmpR (op_neD hr.units) (pv 0) (pe_lstN pa_nil) (nomark _)) (pe_tupF (pa_cons (pe_gc rfl B.g_CRATES) pa_nil)) (pe_tupF pa_nil))))
    )), ?_⟩
    refine ⟨_, rfl, small (by simp), fun T H1 nT e1 hT => ?_⟩
    refine rNe_unit [] 0 (by decide) (e1.tup hn) hT.sq .nil sh0 ⟨_, rfl, ?_⟩
    refine iteF ⟨_, rfl, _, _, rfl, .inl ⟨_, SqL.of (e1 _ _ hr1), rfl⟩, _, _, rfl, rfl, ?_⟩
    have dd : ∀ {H' : Hp}, SameN H H' → DpAll K H' us (ds.map fun d => PyData.tuple [.int (d.1 : Int), .int (d.2 : Int)]) := fun {H'} m => DpAll.pair (F := DoorV K H') (fun v d ⟨b, e, h⟩ => by rw [e]; exact .tup h (.cons (.int _) (.cons (.int _) .nil))) (Paired.imp (fun _ _ h => h.mono m) pr)
    have ss : ∀ x ∈ (ds.map fun d => PyData.tuple [.int (d.1 : Int), .int (d.2 : Int)]), Sh 1 x := fun x hx => by
      obtain ⟨d, _, rfl⟩ := List.mem_map.mp hx
      exact Sh.tup (sh1 (Sh.int _) (sh1 (Sh.int _) sh0))
    have ul : us.length = ds.length := Paired.len pr
    rw [ul]
    have une : us = [] ↔ ds.length = 0 := by rw [← ul]; exact List.length_eq_zero_iff.symm
    by_cases h4 : ds.length < 4
    · refine ⟨true, bl_t (by omega) , iteT ⟨small (by simp), fun T2 H2 nT2 e2 hT2 => ?_⟩⟩
      have e12 := e1.trans e2
      refine ⟨_, rfl, small (by simp), fun D H3 nD e3 hD => ?_⟩
      refine rNe_nil _ 1 (by decide) (SqL.of (e3 _ _ (e12 _ _ hr1))) (SqL.of hD) (dd (e12.trans e3).n) ss ⟨_, rfl, ?_⟩
      by_cases h0 : ds.length = 0
      · rw [decide_eq_true (une.mpr h0)]
        refine iteF ⟨small (by simp), fun T3 H4 nT3 e4 hT3 => ?_⟩
        refine ⟨_, _, _, _, rfl, rfl, (hT2.mono (e3.trans e4).n).sq, hT3.sq, small (by simp), fun z => (nomatch z), fun _ _ => ?_, fun _ z => absurd rfl z⟩
        refine q _ _ ((e12.trans e3).trans e4) ?_
        unfold heads
        rw [if_pos h4, if_pos h0]
        exact hT2.mono (e3.trans e4).n
      · rw [decide_eq_false (fun z => h0 (une.mp z))]
        refine iteT ⟨small (by simp), fun T3 H4 nT3 e4 hT3 => ?_⟩
        refine ⟨_, _, _, _, rfl, rfl, (hT2.mono (e3.trans e4).n).sq, hT3.sq, small (by simp), fun z => (nomatch z), fun _ z => (nomatch z), fun _ _ => fun T4 H5 nT4 e5 hT4 => ?_⟩
        refine q _ _ (((e12.trans e3).trans e4).trans e5) ?_
        unfold heads
        rw [if_pos h4, if_neg h0]
        exact hT4
    · refine ⟨false, bl_f (by omega), iteF ⟨small (by simp), fun T2 H2 nT2 e2 hT2 => ?_⟩⟩
      have e12 := e1.trans e2
      refine ⟨_, rfl, small (by simp), fun D H3 nD e3 hD => ?_⟩
      refine rNe_nil _ 1 (by decide) (SqL.of (e3 _ _ (e12 _ _ hr1))) (SqL.of hD) (dd (e12.trans e3).n) ss ⟨_, rfl, ?_⟩
      have h0 : ¬ ds.length = 0 := by omega
      rw [decide_eq_false (fun z => h0 (une.mp z))]
      refine iteT ⟨small (by simp), fun T3 H4 nT3 e4 hT3 => ?_⟩
      refine ⟨_, _, _, _, rfl, rfl, (hT2.mono (e3.trans e4).n).sq, hT3.sq, small (by simp), fun _ => ?_, fun z => absurd rfl z, fun z => absurd rfl z⟩
      refine q _ _ ((e12.trans e3).trans e4) ?_
      unfold heads
      rw [if_neg h4, if_neg h0]
      exact hT3
def RwAt (C : Addr) (H : Hp) (r dx n L s : Nat) : Prop := H r = some (.ins C dx [("number", nV n), ("words", .ref L), ("spot", nV s)])
def spNewRow (C : Addr) : SpN := fun vs H Q => ∃ (x dx n : Nat) (z : Str), vs = [.ref x, nV n, .str z] ∧ H x = some (.ins C dx []) ∧ z.length ≤ 1000 ∧ ∀ H' L, But x H H' → RwAt C H' x dx n L 0 → H' L = some (.lst ((Txt.split z " ").map V.str)) → Q .non H'
abbrev s_Row___init__ : Stmt := inClass (topS 83) 0
abbrev N_Row___init__ : List Str := ["self", "number", "text"]
theorem sc_Row___init__ : FnScope N_Row___init__ ["self", "number", "text"] (defScope s_Row___init__) := ⟨rfl, rfl, rfl, by decide +kernel, rfl, by decide +kernel, by decide +kernel⟩
-- cells: []; calls: []
theorem mak_Row (B : Base K mg) (W : RowB K mg C) : MakN P w K mg base 1 "Row" C (spNewRow C) := by
  refine W.init.ok sc_Row___init__ (fun vs H Q h => ?_) (fun f cdv A outer s H vs Q E hr h => ?_)
  · obtain ⟨x, dx, n, z, rfl, _⟩ := h
    rfl
  · obtain ⟨x, dx, n, z, rfl, hx, hz, q⟩ := h
    refine ⟨_, (pss_cons (ps_fld (pv 0) (pv 1) rfl)
    (pss_cons (ps_fld (pv 0) (pe_split (pv 2) pe_str) rfl)
    (pss_one (ps_fld (pv 0) pe_int rfl)
    ))), ?_⟩
    refine ⟨_, rfl, _, rfl, x, C, dx, [], rfl, hx, W.cls, W.n_number, (show 0 < 1000 by decide), ?_⟩
    refine ⟨_, rfl, ⟨_, rfl⟩, _, _, rfl, rfl, by decide, small (by omega), ?_⟩
    have xs1 : ∀ {o : HO}, (upd H x o) x ≠ none := fun {o} => by rw [upd_same]; exact fun z => nomatch z
    intro p np
    have px : p ≠ x := fun z => xs1 (z ▸ np)
    refine ⟨_, rfl, x, C, dx, [("number", nV n)], rfl, ?_, W.cls, W.n_words, (show 1 < 1000 by decide), ?_⟩
    · rw [upd_ne px.symm, upd_same]; rfl
    refine ⟨_, rfl, x, C, dx, _, rfl, upd_same, W.cls, W.n_spot, (show 2 < 1000 by decide), ?_⟩
    refine q _ p (fun b o nb hb => ?_) upd_same ?_
    · rw [upd_ne nb, upd_ne nb]
      by_cases hbp : b = p
      · rw [hbp] at hb
        rw [upd_ne px] at np
        rw [np] at hb
        cases hb
      · rw [upd_ne hbp, upd_ne nb]
        exact hb
    · rw [upd_ne px, upd_ne px, upd_same]
def spHasMore (C : Addr) : SpN := fun vs H Q => ∃ (r dx n L s : Nat) (ws : List Str), vs = [.ref r] ∧ RwAt C H r dx n L s ∧ H L = some (.lst (ws.map V.str)) ∧ Q (.bl (decide (s < ws.length))) H
abbrev s_Row_has_more : Stmt := inClass (topS 83) 1
abbrev N_Row_has_more : List Str := ["self"]
theorem sc_Row_has_more : FnScope N_Row_has_more ["self"] (defScope s_Row_has_more) := ⟨rfl, rfl, rfl, by decide +kernel, rfl, by decide +kernel, by decide +kernel⟩
-- cells: []; calls: []
theorem met_Row_has_more (B : Base K mg) (W : RowB K mg C) : MetD P w K mg base 1 C "has_more" (spHasMore C) := by
  refine W.has_more.okD sc_Row_has_more (fun vs H Q h => ?_) (fun f cdv A outer s H vs Q E hr h => ?_)
  · obtain ⟨r, dx, n, L, s, ws, rfl, _⟩ := h
    rfl
  · obtain ⟨r, dx, n, L, s, ws, rfl, hr1, hL, q⟩ := h
    refine ⟨_, (pss_one (ps_ret (pe_cmpR op_lt (pe_fld (pv 0) rfl) (pe_callB call_len rfl B.f_len boot_len (pa_cons (pe_fld (pv 0) rfl) pa_nil)) (nomark _)))
    ), ?_⟩
    refine ⟨_, rfl, r, C, dx, _, _, rfl, hr1, W.cls, W.n_spot, rfl, _, rfl, r, C, dx, _, _, rfl, hr1, W.cls, W.n_words, rfl, _, _, rfl, .inl ⟨_, SqL.of hL, rfl⟩, _, _, rfl, rfl, ?_⟩
    refine qb Q ?_ q
    rw [List.length_map]
    by_cases h : s < ws.length
    · rw [decide_eq_true h, decide_eq_true (show ((s : Nat) : Int) < ((ws.length : Nat) : Int) by omega)]
    · rw [decide_eq_false h, decide_eq_false (show ¬ ((s : Nat) : Int) < ((ws.length : Nat) : Int) by omega)]
end
end CC

/-! text L1 -/
namespace CC
open PySem PySem.Spec PyProof.Rows L2 LamX
/-! ### a lambda with one parameter -/
/-- its scope: one name of its own, the others captured or global -/
structure LamP (sc scope : Scope) (a : Str) : Prop where
  kind : scope.kind = .function
  co : scope.isCoroutine = false
  gen : scope.isGenerator = false
  par : scope.names.lookup a = some .local
  own : ∀ y ∈ scope.names, (y.2 = .local → y.1 = a) ∧ y.2 ≠ .cell
  free : ∀ y ∈ scope.names, y.2 = .free → sc.names.lookup y.1 = some .cell ∨ sc.names.lookup y.1 = some .free
def lamPB (sc scope : Scope) (a : Str) : Bool :=
  (decide (scope.kind = .function) && !scope.isCoroutine && !scope.isGenerator && decide (scope.names.lookup a = some .local)) && scope.names.all fun y => (!decide (y.2 = .local) || decide (y.1 = a)) && !decide (y.2 = .cell) && (!decide (y.2 = .free) || (decide (sc.names.lookup y.1 = some .cell) || decide (sc.names.lookup y.1 = some .free)))
theorem lamP_by {sc scope : Scope} {a : Str} (h : lamPB sc scope a = true) : LamP sc scope a := by
  unfold lamPB at h
  simp only [Bool.and_eq_true, Bool.or_eq_true, Bool.not_eq_true', decide_eq_true_eq, decide_eq_false_iff_not, List.all_eq_true] at h
  obtain ⟨⟨⟨⟨h1, h2⟩, h3⟩, h4⟩, h5⟩ := h
  refine ⟨h1, h2, h3, h4, fun y hy => ⟨fun e => ?_, (h5 y hy).1.2⟩, fun y hy e => ?_⟩
  · exact (h5 y hy).1.1.elim (fun z => absurd e z) id
  · exact (h5 y hy).2.elim (fun z => absurd e z) id
theorem LamP.has {X : Cx} {scope : Scope} {a : Str} (L : LamP X.env.scope scope a) (ok : X.Ok) : ∀ y ∈ scope.names, y.2 = .free → ∃ c, X.env.cells.lookup y.1 = some c := fun y hy e => (L.free y hy e).elim (fun k => ok.has _ (.inl k)) (fun k => ok.has _ (.inr k))
/-- where its body runs -/
def lamCxP (X : Cx) (A : Around) (outer : List Env) (s : Shared) (H : Hp) (scope : Scope) (f c' : Addr) (a : Str) : Cx :=
  { prog := X.prog, w := X.w, K := X.K, mg := X.mg, base := X.base, A := A.deeper (lamEnv X scope s.heap.objs.size f c'), N := X.N ++ [a], s_0 := s, H_0 := H, env := lamEnv X scope s.heap.objs.size f c', outer := outer,
    stack := lamEnv X scope s.heap.objs.size f c' :: outer, ex := [], fn := fun _ => false, calm := true, pn := [], xe := fun _ _ => False }
section
variable {X : Cx} {pins : List (Addr × Obj)} {σ : L2.St} {H HZ : Hp} {s s1 : Shared}
theorem lamP_start {A : Around} {outer : List Env} {scope : Scope} {a : Str} {f c' : Addr} {h₁ : Heap} {tk : Nat} {v : V} {u : Value} (I : Inv X pins σ H s) (L : LamP X.env.scope scope a) (na : a ∉ X.N) (e0 : Env0 X.prog X.w X.K X.mg X.base A outer s1 HZ) (hd : A.handled = none)
    (un : Un (frs X.stack) [] H HZ s.heap s1.heap) (hns : h₁.Ns s1.heap.objs.size fun y => [(a, u)].reverse.lookup y) (kp : ∀ b o, s1.heap.get? b = some o → h₁.get? b = some o) (rv : RelV v u) :
    Inv (lamCxP X A outer s1 HZ scope f c' a) [] (σ ++ [some v]) HZ { s1 with heap := h₁, toks := tk } := by
  have has := L.has I.ok
  have up : ∀ {y c}, (cloFrom X.env.cells scope.names []).lookup y = some c → X.env.cells.lookup y = some c := fun {y c} e => by
    rcases cloFrom_mem (PySem.mem_of_lookup e) with hm | ⟨h1, h2⟩
    · cases hm
    · obtain ⟨c1, hc⟩ := has _ h1 rfl
      replace hc : X.env.cells.lookup y = some c1 := hc
      have e2 : c = c1 := by
        rw [h2, hc] <;> rfl
      exact e2 ▸ hc
  have down : ∀ {y}, scope.names.lookup y = some .free → ∃ c, (cloFrom X.env.cells scope.names []).lookup y = some c := fun {y} hl => mem_lookup (cloFrom_has (cells := X.env.cells) (acc := []) (PySem.mem_of_lookup hl))
  have cellOf : ∀ {c : Addr} {v : Option Value}, H c = none → s.heap.IsCell c v → h₁.IsCell c v := fun {c v} n ⟨o, ho, hd⟩ => let ⟨_, q⟩ := un.any ho n (List.not_mem_nil); ⟨_, kp _ _ q, hd⟩
  have noEx : ∀ b : Addr, b ∉ (lamCxP X A outer s1 HZ scope f c' a).ex := fun b z => List.not_mem_nil (show b ∈ ([] : List Addr) from z)
  exact {
    ok := {
      mod := e0.mod
      kind := L.kind
      glob := rfl
      blt := rfl
      above := Nat.le_refl _
      inj := fun y z c e1 e2 => I.ok.inj y z c (up e1) (up e2)
      has := fun y hy => by
        rcases (show scope.names.lookup y = some .cell ∨ scope.names.lookup y = some .free from hy) with hy | hy
        · exact ((L.own _ (PySem.mem_of_lookup hy)).2 rfl).elim
        · exact down hy
      cab := fun y c z _ => Bool.noConfusion (show false = true from z)
      hd := fun _ => hd
      frames := Around.frames_deeper e0.frames
      stk := .inr ⟨rfl, rfl⟩
      exf := fun b z => (noEx b z).elim
      bs := e0.bs
      bsz := e0.bsz
      noex := fun b _ _ => noEx b
      exfs := fun b z => (noEx b z).elim
      funs := e0.funs
      frf := e0.frf }
    os := rfl
    bare := e0.bare
    base := Un.kept kp
    loc := ⟨_, hns, fun i y v' e1 e2 e3 => by
      have e1 : (X.N ++ [a])[i]? = some y := e1
      have il : σ.length = X.N.length := I.len
      by_cases hi : i < X.N.length
      · rw [List.getElem?_append_left hi] at e1
        rw [List.getElem?_append_left (by omega)] at e2
        have ya : y ≠ a := fun z => na (z ▸ List.mem_of_getElem? e1)
        rcases (show Vis scope y from e3) with k | k | k
        · exact absurd ((L.own _ (PySem.mem_of_lookup k)).1 rfl) ya
        · exact ((L.own _ (PySem.mem_of_lookup k)).2 rfl).elim
        · obtain ⟨m, hn, hl⟩ := I.loc
          have vis : Vis X.env.scope y := (L.free _ (PySem.mem_of_lookup k) rfl).elim (fun k => .inr (.inl k)) (fun k => .inr (.inr k))
          obtain ⟨w', r, q⟩ := hl i y v' e1 e2 vis
          obtain ⟨c2, h2⟩ := down k
          refine ⟨w', r, .inr ⟨.inr k, c2, h2, ?_⟩⟩
          have c1 := up h2
          rcases q with ⟨k', _⟩ | ⟨_, c3, e', z⟩
          · have k' : X.env.scope.names.lookup y = some .local := k'
            rcases L.free _ (PySem.mem_of_lookup k) rfl with k2 | k2 <;> exact absurd (k'.symm.trans k2) (by simp)
          · rw [c1] at e'
            cases e'
            exact cellOf (I.freeC y _ c1) z
      · rw [List.getElem?_append_right (by omega)] at e1 e2
        have hi0 : i - X.N.length = 0 := by
          have := (List.getElem?_eq_some_iff.mp e1).1
          simp at this
          omega
        rw [hi0] at e1
        rw [il, hi0] at e2
        cases (show some a = some y from e1)
        cases (show some (some v) = some (some v') from e2)
        exact ⟨u, rv, .inl ⟨L.par, by simp [List.lookup]⟩⟩⟩
    cell := fun y c e => let ⟨w', z⟩ := I.cell y c (up e); ⟨w', cellOf (I.freeC y c (up e)) z⟩
    free := e0.hok.fresh (Nat.le_refl _)
    freeC := fun y c e => by
      obtain ⟨v, o, ho, hd⟩ := I.cell y c (up e)
      exact un.free c o ho (I.freeC y c (up e)) (List.not_mem_nil)
    pin := fun q hq => (List.not_mem_nil (show q ∈ ([] : List (Addr × Obj)) ++ [] from hq)).elim
    hok := e0.hok.kept kp
    len := by
      show (σ ++ [some v]).length = (X.N ++ [a]).length
      rw [List.length_append, List.length_append, I.len] <;> rfl }
/-- is_right(e), in the def that got the lambda -/
theorem pe_actP {Ng : List Str} {qg : Str} {sg : Scope} {g f c' : Addr} {cdg pm ctv : Value} {params : Arguments} {body : Expr} {scope : Scope} {k i : Nat} {a b : Str} {tb : TE} {te : TE} {e : Expr} {p1 p2 : Pos}
    (I : Inv X pins σ H s) (L : LamP X.env.scope scope a) (na : a ∉ X.N) (hf : s.heap.get? f = some (PySem.W.kla_obj "<lambda>" (X.env.qual ++ "<lambda>") params body scope (cloFrom X.env.cells scope.names []) pm c' ctv)) (hfn : H f = none) (hfr : f ∉ frs X.stack)
    (hbind : ∀ u : Value, bindArgs (PySem.W.kla_fn "<lambda>" (X.env.qual ++ "<lambda>") params body scope (cloFrom X.env.cells scope.names []) pm (.ref c') ctv) ⟨[u], []⟩ = pure [(a, u)])
    (hr : Room (k + 1) (X.A.deeper (envOfC qg sg s.heap.objs.size g cdg)))
    (hbody : ∀ (A : Around) (outer : List Env) (s : Shared) (H : Hp), Room k (A.deeper (lamEnv X scope s.heap.objs.size f c')) → PE (lamCxP X A outer s H scope f c' a) body tb)
    (hN : Ng[i]? = some b) (hv : Vis sg b) (he : PE (cxOf CX0 X.prog X.w X.K X.mg X.base Ng qg sg g cdg X.A X.stack s H E0).nox e te) (hd : (b == ("__debug__" : Str)) = false := by decide) (hcd : (b == ("__classdict__" : Str)) = false := by decide)
    (hst : starEach (e :: []) (cxOf CX0 X.prog X.w X.K X.mg X.base Ng qg sg g cdg X.A X.stack s H E0).env = (false, eval e (cxOf CX0 X.prog X.w X.K X.mg X.base Ng qg sg g cdg X.A X.stack s H E0).env) :: starEach [] (cxOf CX0 X.prog X.w X.K X.mg X.base Ng qg sg g cdg X.A X.stack s H E0).env := by rfl) :
    PE (cxOf CX0 X.prog X.w X.K X.mg X.base Ng qg sg g cdg X.A X.stack s H E0).nox (.Call (.Name b p1) [e] [] p2)
      (fun σZ HZ Q => σZ[i]? = some (some (.ref f)) ∧ te σZ HZ fun v H1 => H1 c' = some (CodeO c' (X.env.qual ++ "<lambda>")) ∧ tb (σ ++ [some v]) H1 Q) := by
  refine ⟨fun pinsZ sZ σZ HZ Q IZ h => ?_⟩
  obtain ⟨hs, ht⟩ := h
  refine wpAny_Call_Name_kw (thn ((pe_var (pos := p1) (i := i) hN hv hd hcd).run pinsZ sZ σZ HZ (fun v H1 => v = .ref f ∧ H1 = HZ) IZ ⟨.ref f, hs, rfl, rfl⟩) fun u s1 ⟨v, H1, I1, r1, ev, eH⟩ => ?_)
  subst ev eH
  obtain rfl : u = Value.ref f := r1
  have at_ : ∀ {σ' : L2.St} {H' : Hp} {s' : Shared}, Inv (cxOf CX0 X.prog X.w X.K X.mg X.base Ng qg sg g cdg X.A X.stack s H E0).nox pinsZ σ' H' s' → s'.heap.get? f = some (PySem.W.kla_obj "<lambda>" (X.env.qual ++ "<lambda>") params body scope (cloFrom X.env.cells scope.names []) pm c' ctv) :=
    fun {σ' H' s'} J => J.base.keep f _ hf hfn hfr (fun z => List.not_mem_nil (show f ∈ ([] : List Addr) from z))
  refine PySem.W.callWith_F ⟨_, _, _, _, at_ I1⟩ ?_ hst (by rfl)
  rw [hst]
  show wpAny _ _ (spliced ((false, eval e (cxOf CX0 X.prog X.w X.K X.mg X.base Ng qg sg g cdg X.A X.stack s H E0).env) :: backTo p2 (starEach [] (cxOf CX0 X.prog X.w X.K X.mg X.base Ng qg sg g cdg X.A X.stack s H E0).env))) _ _ s1
  refine Calls.spliced_cons (thn (he.run pinsZ s1 σZ H1 _ I1 ht) fun w s2 ⟨x, H2, I2, r2, hc, q2⟩ => ?_)
  refine Calls.spliced_nil ⟨⟨_, _, _, _, at_ I2⟩, ?_⟩
  have un : Un (frs X.stack) [] H H2 s.heap s2.heap := I2.base
  obtain ⟨⟨oc, vs, t, hoc, hdc, hvc⟩, _, _⟩ := I2.hok c' _ hc
  refine wpAny_call (codeAny_mono (R := CR CX0 (envOfC qg sg s.heap.objs.size g cdg :: X.stack) X.prog X.w H2 s2 Q E0) ?_ fun r s' hq => ?_)
  · refine PySem.W.kla_callFunE hr.depth (at_ I2) rfl L.co L.gen rfl ⟨c', oc, vs, t, rfl, hoc, hdc, hvc⟩ ?_
    show wpAny _ _ (bindArgs _ ⟨[w], []⟩) _ _ _
    rw [hbind w]
    refine wpAny_pure (wpAny_newFunctionEnv (fun y hy => (L.own y hy).2) (fun y hy => by rw [List.mem_singleton.mp hy]; exact L.par) (fun h₁ hns hsb => ⟨I2.nolimit.fresh _ hsb, ?_⟩) L.kind)
    have kp : ∀ b o, s2.heap.get? b = some o → h₁.get? b = some o := fun b o e => hsb.extBut b o (Nat.ne_of_lt (Heap.lt_size e)) (Heap.get?_push_of_some _ e)
    have J := lamP_start (c' := c') (f := f) (tk := s2.toks + ([(a, w)] : List (Str × Value)).length) I L na I2.env0 hr.hd un hns kp r2
    show codeAny _ _ (.expr body (lamEnv X scope s2.heap.objs.size f c')) _ _
    exact PySem.W.kla_codeExpr (wpAny_mono ((hbody _ _ s2 H2 (hr.deeper _)).run [] _ _ H2 Q J q2) (fun v s' ⟨w', H', J', rv, q⟩ => ⟨w', H', J'.os, J'.bare, J'.base, J'.hok, rv, q⟩) fun e s' hq => False.elim hq)
  · cases r with
    | error e => exact False.elim hq
    | ok fl =>
      cases fl with
      | ret u => exact I2.after hq
      | next => exact False.elim hq
      | brk => exact False.elim hq
      | cont => exact False.elim hq
end
end CC

/-! text D20 -/
namespace CC
open PySem PySem.Spec PyProof.Rows L2
section
variable {P : Program} {w : World} {K : PySem.W.Frag} {mg : Str → Option Value} {base : Heap} {C : Addr}
abbrev s_Row_next_word : Stmt := inClass (topS 83) 3
abbrev N_Row_next_word : List Str := ["self", "is_right"]
theorem sc_Row_next_word : FnScope N_Row_next_word ["self", "is_right"] (defScope s_Row_next_word) := ⟨rfl, rfl, rfl, by decide +kernel, rfl, by decide +kernel, by decide +kernel⟩
-- cells: []; calls: ['Row.fail', 'Row.has_more']
/-- the body of next_word, by what the call of its second parameter does -/
theorem nw_body (B : Base K mg) (W : RowB K mg C) {f r dx n L i : Nat} {ws : List Str} {z : Str} {tl : V → Hp → VK → Prop} {g : Addr} {cdv : Value} {A : Around} {outer : List Env} {s : Shared} {H : Hp} {Q : VK} {E : XK}
    (hr : Room 1 (A.deeper (envOfC "Row.next_word" (defScope s_Row_next_word) s.heap.objs.size g cdv)))
    (act : ∀ {e : Expr} {te : TE} {p1 p2 : Pos}, PE (cxOf CX0 P w K mg base N_Row_next_word "Row.next_word" (defScope s_Row_next_word) g cdv A outer s H E).nox e te →
      (∀ X : Env, starEach (e :: []) X = (false, eval e X) :: starEach [] X) →
      PE (cxOf CX0 P w K mg base N_Row_next_word "Row.next_word" (defScope s_Row_next_word) g cdv A outer s H E).nox (.Call (.Name "is_right" p1) [e] [] p2) (fun σ H Q => σ[1]? = some (some (.ref f)) ∧ te σ H fun v H1 => tl v H1 Q))
    (hr1 : RwAt C H r dx n L i) (hL : H L = some (.lst (ws.map V.str))) (hz : ws[i]? = some z) (htl : ∀ Qx : VK, (∀ H1, Same H H1 → Qx (.bl true) H1) → tl (.str z) H Qx) (q : ∀ H', But r H H' → RwAt C H' r dx n L (i + 1) → Q (.str z) H') :
    ∃ t, PSs (cxOf CX0 P w K mg base N_Row_next_word "Row.next_word" (defScope s_Row_next_word) g cdv A outer s H E).nox (defBody s_Row_next_word) t ∧ t { nx := fun _ H' => Q .non H', rt := Q } (start N_Row_next_word [.ref r, .ref f]) H := by
  have hi : i < ws.length := (List.getElem?_eq_some_iff.mp hz).1
  have hz2 : (ws.map V.str)[i]? = some (.str z) := map_get hz
  refine ⟨_, (pss_cons (ps_if (PW.pt (pw_or (pt_not (pt_val (pe_mD0 (met_Row_has_more B W) W.cls hr (by decide) (pv 0)))) (pw_or1 (pt_not (pt_val (act (pe_ix ix_list (pe_fld (pv 0) rfl) (pe_fld (pv 0) rfl) (fun _ _ => rfl)) (fun _ => rfl))))))) (
        (pss_one ps_never
        )) (pss_nil))
    (pss_cons (ps_fldaug (pv 0) pe_int in_add)
    (pss_one (ps_ret (pe_ix ix_list (pe_fld (pv 0) rfl) (pe_op op_sub (pe_fld (pv 0) rfl) pe_int) (fun _ _ => rfl)))
    ))), ?_⟩
  refine ⟨_, rfl, r, dx, _, rfl, hr1, rfl, r, dx, n, L, i, ws, rfl, hr1, hL, _, rfl, ?_⟩
  rw [decide_eq_true hi]
  refine iteF ⟨rfl, _, rfl, r, C, dx, _, _, rfl, hr1, W.cls, W.n_words, rfl, _, rfl, r, C, dx, _, _, rfl, hr1, W.cls, W.n_spot, rfl, _, _, _, _, rfl, rfl, SqL.of hL, atI_nat hz2, htl _ fun H1 e1 => ⟨_, rfl, iteF ?_⟩⟩
  have r1 : RwAt C H1 r dx n L i := e1 _ _ hr1
  refine ⟨_, rfl, r, C, dx, _, _, rfl, r1, W.cls, W.n_spot, rfl, _, _, rfl, rfl, dx, _, r1, (show 3 < 1000 by decide), ?_⟩
  generalize hh : upd H1 r _ = H2
  have k2 : But r H1 H2 := by rw [← hh]; exact But.upd _ _ _
  have r2 : RwAt C H2 r dx n L (i + 1) := by
    rw [← hh]
    exact upd_same
  have nr : L ≠ r := fun zz => by unfold RwAt at hr1; rw [← zz, hL] at hr1; cases hr1
  have hL2 := k2 _ _ nr (e1 _ _ hL)
  clear hh
  refine ⟨_, rfl, r, C, dx, _, _, rfl, r2, W.cls, W.n_words, rfl, _, rfl, r, C, dx, _, _, rfl, r2, W.cls, W.n_spot, rfl, _, _, rfl, rfl, _, _, _, _, rfl, rfl, SqL.of hL2, ?_, q H2 ((But.of e1).trans k2) r2⟩
  have : (((i + 1 : Nat) : Int) - 1) = ((i : Nat) : Int) := by omega
  rw [this]
  exact atI_nat hz2
def spNwCount (mg : Str → Option Value) (C : Addr) : SpN := fun vs H Q => ∃ (r dx n L i f : Nat) (ws : List Str) (z : Str), vs = [.ref r, .ref f] ∧ mg "is_count" = some (.ref f) ∧ RwAt C H r dx n L i ∧ H L = some (.lst (ws.map V.str)) ∧ ws[i]? = some z ∧ IsCount z ∧ ∀ H', But r H H' → RwAt C H' r dx n L (i + 1) → Q (.str z) H'
theorem met_Row_next_word (B : Base K mg) (W : RowB K mg C) : MetD P w K mg base 2 C "next_word" (spNwCount mg C) := by
  refine W.next_word.okD sc_Row_next_word (fun vs H Q h => ?_) (fun g cdv A outer s H vs Q E hr h => ?_)
  · obtain ⟨r, dx, n, L, i, f, ws, z, rfl, _⟩ := h
    rfl
  · obtain ⟨r, dx, n, L, i, f, ws, z, rfl, hf, hr1, hL, hz, ok, q⟩ := h
    obtain ⟨f', fd, ps, F, hm, kp, b⟩ := (cal_is_count (P := P) (w := w) (base := base) B).ex
    have ef : f = f' := by
      rw [hf] at hm
      cases hm
      rfl
    subst ef
    refine nw_body B W (tl := fun v H Q => spIsCount [v] H Q) hr (fun {e te p1 p2} he hst => ?_) hr1 hL hz (fun Qx hq => ⟨z, rfl, ok, hq⟩) q
    have h := pe_callL (X := (cxOf CX0 P w K mg base N_Row_next_word "Row.next_word" (defScope s_Row_next_word) g cdv A outer s H E).nox) (i := 1) (x := "is_right") (p := p1) (pos := p2) (E := E0) (es := []) F (hr.mono (by decide)) rfl (.inl rfl) kp b .nil pass0 (pa_cons he pa_nil (hst _)) (by decide) (by decide) (hst _) (by rfl)
    refine ⟨fun pins s σ H Q I hw => h.run pins s σ H Q I ?_⟩
    exact hw
end
end CC

/-! text L2x -/
namespace CC
open PySem PySem.Spec PyProof.Rows L2 LamX
section
variable {X : Cx} {C : Addr}
/-- row.next_word(lambda word: body) -/
def tNwLam (C : Addr) (T : List (Addr × Str)) (ta tb : TE) : TE := fun σ H Q => ta σ H fun x H1 => ∃ (r dx n L i : Nat) (ws : List Str) (z : Str), x = .ref r ∧ RwAt C H1 r dx n L i ∧ H1 L = some (.lst (ws.map V.str)) ∧ ws[i]? = some z ∧ Tabs T H1 ∧
  ∀ H2, ExtN H1 H2 → Tabs T H2 → (∀ Qx : VK, (∀ H3, Same H2 H3 → Qx (.bl true) H3) → tb (σ ++ [some (.str z)]) H2 Qx) ∧ ∀ H', But r H2 H' → RwAt C H' r dx n L (i + 1) → Q (.str z) H'
theorem pe_nwLam {T : List (Addr × Str)} {a : Str} {c Pt : Addr} {k j : Nat} {params : Arguments} {body : Expr} {scope : Scope} {ta tb : TE} {o : Expr} {apos lpos pos : Pos} {pl : Sem Bool} (B : Base X.K X.mg) (W : RowB X.K X.mg C) (hr : Room j X.A) (hkj : k + 2 ≤ j) (he : PE X o ta)
    (TB : TabB X.base X.mg c Pt) (hcode : X.env.code = .ref c) (hmT : (Pt, X.env.qual ++ "<lambda>") ∈ T) (hu : ∀ p ∈ T, p.1 = Pt → p.2 = X.env.qual ++ "<lambda>") (L : LamP X.env.scope scope a) (na : a ∉ X.N) (hdef : defaultsOf params X.env = ([], []))
    (hbind : ∀ (q : Str) (cl : List (Str × Addr)) (pm cv ctv u : Value), bindArgs (PySem.W.kla_fn "<lambda>" q params body scope cl pm cv ctv) ⟨[u], []⟩ = pure [(a, u)])
    (hbody : ∀ (A : Around) (outer : List Env) (s : Shared) (H : Hp) (f c' : Addr), Room k (A.deeper (lamEnv X scope s.heap.objs.size f c')) → PE (lamCxP X A outer s H scope f c' a) body tb)
    (ht : eval (.Call (.Attribute o "next_word" apos) [.Lambda params body scope lpos] [] pos) X.env = (do
      let ov ← eval o X.env
      standAt apos.atName
      let (f, first) ← holding [ov] (getMethod ov "next_word" pl)
      callWith pos f first (backTo pos (starEach [.Lambda params body scope lpos] X.env)) (backToKw pos (keywordEach [] X.env))) := by rfl) :
    PE X (.Call (.Attribute o "next_word" apos) [.Lambda params body scope lpos] [] pos) (tNwLam C T ta tb) := by
  obtain ⟨g, fd, me, F, b⟩ := W.next_word.ex
  obtain ⟨oc, od, kV, doc, pmv, an, cdv, ct, osl, rfl, lk, hcd⟩ := F.ex
  have FO : L2.Fun X.K "next_word" "Row.next_word" (inClass (topS 83) 3) g _ := F
  refine ⟨fun pins s σ H Q I h => ?_⟩
  refine PySem.W.methodCall_KW (pl := pl) (thn (he.run pins s σ H _ I h) fun u s1 ⟨x, H1, I1, rx, r, dx, n, Lw, i, ws, z, ex, hr1, hL, hz, hT, q⟩ => ?_) ht
  subst ex
  obtain rfl : u = Value.ref r := rx
  refine getmeth_ok I1 hr1 W.cls me rfl ?_
  refine PySem.W.callWith_K (first := [.ref r]) (h₀ := X.base) I.ok.mod.kin me.kp ?_ (by rfl) (by rfl)
  show wpAny _ _ (spliced ((false, eval (.Lambda params body scope lpos) X.env) :: backTo pos (starEach [] X.env))) _ _ s1
  refine Calls.spliced_cons (lam_make2 I1 TB hcode hmT hu hT hdef (L.has I.ok) fun f c' pm' ctv H2 s' I2 eN T2 hf hfn hfr hco => ?_)
  refine Calls.spliced_nil ⟨I2.kIn, ?_⟩
  obtain ⟨qb, qq⟩ := q H2 eN T2
  have r2 : RwAt C H2 r dx n Lw i := eN _ _ hr1 (fun _ zz => nomatch zz)
  have hL2 := eN _ _ hL (fun _ zz => nomatch zz)
  refine wpAny_call (codeAny_mono (R := CR CX0 X.stack X.prog X.w H2 s' Q E0) ?_ fun rs s2 hq => ?_)
  · refine run_ofS (k := k + 1) (N := N_Row_next_word) (ps := ["self", "is_right"]) (us := [.ref r, .ref f]) (vs := [.ref r, .ref f]) lk hcd sc_Row_next_word (hr.mono hkj) I2.env0 (b s' [.ref r, .ref f] I2.kIn rfl) (.cons rfl (.cons rfl .nil)) rfl fun hr' => ?_
    obtain ⟨t, h1, h2⟩ := nw_body B W (f := f) (g := g) (cdv := cdv) (A := X.A) (outer := X.stack) (s := s') (H := H2) (Q := Q) (E := E0) (tl := fun v H' Q' => H' c' = some (CodeO c' (X.env.qual ++ "<lambda>")) ∧ tb (σ ++ [some v]) H' Q') (hr'.mono (Nat.le_add_left 1 k))
      (fun {e te p1 p2} hpe hst => pe_actP (i := 1) (b := "is_right") I2 L na hf hfn hfr (hbind _ _ _ _ _) hr' (fun A outer s H hr2 => hbody A outer s H f c' hr2) rfl (.inl rfl) hpe (by decide) (by decide) (hst _)) r2 hL2 hz (fun Qx hq => ⟨hco, qb Qx hq⟩) qq
    exact ⟨t, h1.nox, h2⟩
  · cases rs with
    | error e => exact False.elim hq
    | ok fl =>
      cases fl with
      | ret u => exact I2.after hq
      | next => exact False.elim hq
      | brk => exact False.elim hq
      | cont => exact False.elim hq
end
end CC

/-! text D21 -/
namespace CC
open PySem PySem.Spec PyProof.Rows L2 LamX
/-! ### defs that make lambdas -/
structure FunC (K : PySem.W.Frag) (x qual : Str) (st : Stmt) (ps : List Str) (f c : Addr) : Prop where
  ex : ∃ (oc : Value) (od : Option Addr) (kV doc pm : Value) (an : Option Addr) (ct : Value) (osl : Array (Option Value)),
    K.lookup f = some ⟨oc, od, .func (PySem.W.fnOf x qual (defArgs st) (defBody st) (defScope st) .none kV doc pm an (.ref c) ct), osl⟩ ∧ PySem.W.codeIn K (.ref c) qual = true ∧ Binds K (PySem.W.fnOf x qual (defArgs st) (defBody st) (defScope st) .none kV doc pm an (.ref c) ct) ps []
/-- the code object at c, its table, and the name in it -/
structure LamAt (base : Heap) (mg : Str → Option Value) (T : List (Addr × Str)) (c : Addr) (q : Str) : Prop where
  ex : ∃ Pt, TabB base mg c Pt ∧ (Pt, q) ∈ T ∧ ∀ p ∈ T, p.1 = Pt → p.2 = q
/-- all but the tables and one thing stay -/
def ButT (r : Addr) (H H' : Hp) : Prop := ∀ b o, b ≠ r → H b = some o → (∀ ps, o ≠ .tbl ps) → H' b = some o
theorem ButT.trans {r : Addr} {H H1 H2 : Hp} (a : ButT r H H1) (b : ButT r H1 H2) : ButT r H H2 := fun c o n h k => b c o n (a c o n h k) k
theorem ButT.of {r : Addr} {H H' : Hp} (e : But r H H') : ButT r H H' := fun b o n h _ => e b o n h
theorem ButT.ext {r : Addr} {H H' : Hp} (e : ExtN H H') : ButT r H H' := fun b o _ h k => e b o h k
theorem ButT.refl (r : Addr) (H : Hp) : ButT r H H := fun _ _ _ h _ => h
theorem tabs_but {T : List (Addr × Str)} {r : Addr} {H H' : Hp} {C dx : Addr} {fs : List (Str × V)} (t : Tabs T H) (k : But r H H') (h : H r = some (.ins C dx fs)) : Tabs T H' := fun p hp => by
  obtain ⟨ps, h1, h2, h3⟩ := t p hp
  refine ⟨ps, k _ _ (fun z => by rw [z, h] at h1; cases h1) h1, h2, fun pos cv hc => ?_⟩
  obtain ⟨c, e1, e2⟩ := h3 pos cv hc
  exact ⟨c, e1, k _ _ (fun z => by rw [z, h] at e2; unfold CodeO at e2; cases e2) e2⟩
theorem tabs_list {T : List (Addr × Str)} {r : Addr} {H H' : Hp} {xs : List V} (t : Tabs T H) (k : But r H H') (h : H r = some (.lst xs)) : Tabs T H' := fun p hp => by
  obtain ⟨ps, h1, h2, h3⟩ := t p hp
  refine ⟨ps, k _ _ (fun z => by rw [z, h] at h1; cases h1) h1, h2, fun pos cv hc => ?_⟩
  obtain ⟨c, e1, e2⟩ := h3 pos cv hc
  exact ⟨c, e1, k _ _ (fun z => by rw [z, h] at e2; unfold CodeO at e2; cases e2) e2⟩
theorem if_two {c : Bool} {A B G : Prop} (hA : G → c = true → A) (hB : G → c = false → B) (hG : G) : if c = true then A else B := by
  cases c with
  | true => exact iteT (hA hG rfl)
  | false => exact iteF (hB hG rfl)
theorem atI_neg1 {xs : List V} {v : V} (h : xs[xs.length - 1]? = some v) : atI xs (-1) = some v := by
  have := (List.getElem?_eq_some_iff.mp h).1
  unfold atI ixN
  rw [if_neg (by decide), if_pos (by omega)]
  show xs[_]? = _
  rw [← h]
  congr 1
  omega
section
variable {P : Program} {w : World} {K : PySem.W.Frag} {mg : Str → Option Value} {base : Heap} {C : Addr}
theorem FunC.ok {x qual : Str} {st : Stmt} {ps N : List Str} {f c : Addr} {k : Nat} {sp : SpN} (F : FunC K x qual st ps f c) (S : FnScope N ps (defScope st)) (len : ∀ vs H Q, sp vs H Q → vs.length = ps.length)
    (hbody : ∀ (A : Around) (outer : List Env) (s : Shared) (H : Hp) (vs : List V) (Q : VK) (E : XK), Room k (A.deeper (envOfC qual (defScope st) s.heap.objs.size f (.ref c))) → sp vs H Q →
      ∃ t, PSs (cxOf CX0 P w K mg base N qual (defScope st) f (.ref c) A outer s H E).nox (defBody st) t ∧ t { nx := fun _ H' => Q .non H', rt := Q } (start N vs) H) : ∃ fd, FnOk P w K mg base CX0 (k + 1) f fd ps (fun vs H Q _ => sp vs H Q) ∧ Binds K fd ps [] := by
  obtain ⟨oc, od, kV, doc, pm, an, ct, osl, lk, hcd, b⟩ := F.ex
  refine ⟨_, fn_of lk hcd S (fun vs H Q _ h => len vs H Q h) fun A outer s H vs Q E hr hsp => ?_, b⟩
  obtain ⟨t, h, q⟩ := hbody A outer s H vs Q E hr hsp
  exact ⟨t, h.nox, q⟩
def spReadCrates (T : List (Addr × Str)) (C : Addr) : SpN := fun vs H Q => ∃ (r dx n L m : Nat) (cs : List Str), vs = [.ref r] ∧ RwAt C H r dx n L 1 ∧ H L = some (.lst ((Str.ofString "crates" :: cs).map V.str)) ∧ OkCrates cs m ∧ Tabs T H ∧
  ∀ H' t, ButT r H H' → Tabs T H' → TupF H' t (cs.map V.str) → Q (.ref t) H'
abbrev s_Row_read_crates : Stmt := inClass (topS 83) 4
abbrev N_Row_read_crates : List Str := ["self", "found", "last"]
theorem sc_Row_read_crates : FnScope N_Row_read_crates ["self"] (defScope s_Row_read_crates) := ⟨rfl, rfl, rfl, by decide +kernel, rfl, by decide +kernel, by decide +kernel⟩
-- cells: ['last']; calls: ['Row.fail', 'Row.has_more', 'Row.next_word']
theorem met_Row_read_crates {T : List (Addr × Str)} {f c : Addr} (B : Base K mg) (W : RowB K mg C) (me : Meth K C "read_crates" f) (FC : FunC K "read_crates" "Row.read_crates" (inClass (topS 83) 4) ["self"] f c) (LT : LamAt base mg T c "Row.read_crates.<locals>.<lambda>") : MetD P w K mg base 4 C "read_crates" (spReadCrates T C) := by
  obtain ⟨Pt, TB, mT, uT⟩ := LT.ex
  suffices key : ∃ fd, FnOk P w K mg base CX0 4 f fd ["self"] (fun vs H Q _ => spReadCrates T C vs H Q) ∧ Binds K fd ["self"] [] by
    obtain ⟨fd, F, b⟩ := key
    exact ⟨f, fd, ["self"], me, F, b⟩
  refine FC.ok (k := 3) sc_Row_read_crates (fun vs H Q h => ?_) (fun A outer s H vs Q E hr h => ?_)
  · obtain ⟨r, dx, n, L, m, cs, rfl, _⟩ := h
    rfl
  · obtain ⟨r, dx, n, L, m, cs, rfl, hrw, hL, okc, hT, q⟩ := h
    have c1 : 1 ≤ cs.length := okc.1
    have c5 : cs.length ≤ 5 := okc.2.1
    refine ⟨_, (pss_cons (ps_set (i := 1) sc_Row_read_crates.nd rfl (.inl rfl) (pe_lstN pa_nil))
    (pss_cons (ps_while PassesOwn.never (PW.pt (pw_or (pt_cmpR (op_eqD hr.units) (pv 1) (pe_lstN pa_nil) (nomark _)) (pw_or1 (pt_val (pe_mD0 (met_Row_has_more B W) W.cls hr (by decide) (pv 0)))))) (
        (pss_cons (ps_if (pt_cmpR op_eq (pe_callB call_len rfl B.f_len boot_len (pa_cons (pv 1) pa_nil)) (pe_gc rfl B.g_MAX_CRATES) (nomark _)) (
            (pss_one ps_never
            )) (pss_nil))
        (pss_cons (ps_set (i := 2) sc_Row_read_crates.nd rfl (.inr rfl) (pe_ifExp (pt_cmpR (op_neD hr.units) (pv 1) (pe_lstN pa_nil) (nomark _)) (pe_ix ix_list (pv 1) (pe_un un_neg pe_int) (fun _ _ => rfl)) pe_str))
        (pss_one (ps_expr (pe_bm PySem.F.plainAttrs_list PySem.F.slot_list_append PySem.F.type_list_append mt_append (pv 1) (pa_cons (pe_nwLam (a := "word") (k := 1) (tb := tAndV (tCallN spIsWord (tCons (tVar 3) tNil)) (tOp (fun x y H Q => ∃ i j : Str, x = .str i ∧ y = .str j ∧ Q (.bl (decide (j.cps.toList < i.cps.toList))) H) (tVar 3) (tVar 2))) B W hr (by decide) (pv 0) TB rfl mT uT (lamP_by rfl) (show Str.ofString "word" ∉ N_Row_read_crates by decide +kernel) rfl (fun _ _ _ _ _ _ => by rfl) (fun A' outer' s' H' f' c' hr2 => pe_and (pe_c (cal_is_word B) hr2 (by decide) rfl (pa_cons (pv 3) pa_nil)) (pe_one (pe_cmpR op_gt_str (pv 3) (pv 2) (nomark _))))) pa_nil)))
        )))))
    (pss_one (ps_ret (pe_callTy call_tupleF rfl B.f_tuple (by decide +kernel) (pa_cons (pv 1) pa_nil)))
    ))), ?_⟩
    refine ⟨small (by simp), fun F H0 nF e0 hF => ?_⟩
    have hws : ∀ {k : Nat} {z : Str}, cs[k]? = some z → (Str.ofString "crates" :: cs)[1 + k]? = some z := fun {k z} h => by rw [Nat.add_comm 1 k]; exact h
    have rF : F ≠ r := fun z => by unfold RwAt at hrw; rw [← z, nF] at hrw; cases hrw
    have lr : L ≠ r := fun z => by unfold RwAt at hrw; rw [← z, hL] at hrw; cases hrw
    have lF : L ≠ F := fun z => by rw [z, nF] at hL; cases hL
    refine ⟨fun m σ H1 => ∃ k, m = cs.length - k ∧ k ≤ cs.length ∧ (∃ j2, σ = [some (.ref r), some (.ref F), j2]) ∧ ButT r H H1 ∧ Tabs T H1 ∧ RwAt C H1 r dx n L (1 + k) ∧ H1 F = some (.lst ((cs.take k).map V.str)), ⟨cs.length, 0, rfl, Nat.zero_le _, ⟨_, rfl⟩, ButT.of (But.of e0), hT.ext e0, e0 _ _ hrw, hF⟩, ?_⟩
    rintro _ σ H1 ⟨k, rfl, hk, ⟨j2, rfl⟩, k1, t1, r1, hF1⟩
    have hL1 := k1 _ _ lr hL (fun _ z => nomatch z)
    refine ⟨_, rfl, small (by simp), fun D H2 nD e2 hD => ?_⟩
    have hF2 := e2 _ _ hF1
    have r2 : RwAt C H2 r dx n L (1 + k) := e2 _ _ r1
    have hL2 := e2 _ _ hL1
    have sd : ∀ ws : List Str, DpAll K H2 (ws.map V.str) (ws.map PyData.str) := fun ws => DpAll.map (fun a => .str a) ws
    have ss : ∀ x ∈ (cs.take k).map PyData.str, Sh 0 x := fun x hx => by
      obtain ⟨z, hz, rfl⟩ := List.mem_map.mp hx
      exact Sh.str (word_ok (okc.2.2.2.1 z (List.mem_of_mem_take hz)))
    have tl : (cs.take k).length = k := by rw [List.length_take]; omega
    have ue : ((cs.take k).map V.str = []) ↔ k = 0 := by rw [List.map_eq_nil_iff, ← List.length_eq_zero_iff, tl]
    refine rEq_nil _ 0 (by decide) (SqL.of hF2) (SqL.of hD) (sd _) ss ⟨_, rfl, ?_⟩
    by_cases hkc : k < cs.length
    · refine if_two (fun g _ => iteT g) (fun g _ => ⟨_, rfl, r, dx, _, rfl, r2, rfl, r, dx, n, L, 1 + k, Str.ofString "crates" :: cs, rfl, r2, hL2, true, by rw [decide_eq_true (by rw [List.length_cons]; omega)], iteT g⟩) ?_
      obtain ⟨z, hz⟩ : ∃ z, cs[k]? = some z := ⟨_, List.getElem?_eq_getElem hkc⟩
      have wz := okc.2.2.2.1 z (List.mem_of_getElem? hz)
      obtain ⟨l0, l1, l2⟩ : ∃ l0 : Str, (k = 0 → l0 = "") ∧ (k ≠ 0 → cs[k - 1]? = some l0) := by
        by_cases k0 : k = 0
        · exact ⟨"", fun _ => rfl, fun z => absurd k0 z⟩
        · exact ⟨cs[k - 1]'(by omega), fun z => absurd z k0, fun _ => List.getElem?_eq_getElem (by omega)⟩
      have lt : l0.cps.toList < z.cps.toList := by
        by_cases k0 : k = 0
        · rw [l1 k0]
          have z1 := wz.1
          show ([] : List Nat) < z.cps.toList
          cases h : z.cps.toList with
          | nil =>
            have : z.cps.toList.length = z.length := rfl
            rw [h] at this
            have : (0 : Nat) = z.length := this
            omega
          | cons a t => exact List.nil_lt_cons a t
        · have := okc.2.2.2.2 (k - 1) l0 z (l2 k0) (by rw [show k - 1 + 1 = k by omega]; exact hz)
          exact of_decide_eq_true this
      refine ⟨fun σ' H' => (∃ j2, σ' = [some (.ref r), some (.ref F), j2]) ∧ ButT r H H' ∧ Tabs T H' ∧ RwAt C H' r dx n L (1 + (k + 1)) ∧ H' F = some (.lst ((cs.take (k + 1)).map V.str)), fun σ' H' p => ⟨cs.length - (k + 1), by omega, k + 1, rfl, hkc, p⟩, ?_⟩
      refine ⟨_, rfl, _, _, rfl, .inl ⟨_, SqL.of hF2, rfl⟩, rfl, false, bl_f (fun zz => ?_), iteF ?_⟩
      · have := V.int.inj zz
        rw [List.length_map, tl] at this
        omega
      refine ⟨_, rfl, small (by simp), fun D2 H3 nD2 e3 hD2 => ?_⟩
      have hF3 := e3 _ _ hF2
      refine rNe_nil ((cs.take k).map PyData.str) 0 (by decide) (SqL.of hF3) (SqL.of hD2) (DpAll.map (fun a => .str a) _) ss ⟨_, rfl, ?_⟩
      refine if_two (fun g h => ⟨_, rfl, _, rfl, _, _, _, V.str l0, rfl, rfl, SqL.of hF3, atI_neg1 ?_, g⟩) (fun g h => ?_) ?_
      · have k0 : k ≠ 0 := fun k0 => by rw [decide_eq_true (ue.mpr k0)] at h; cases h
        rw [List.length_map, tl, List.getElem?_map, List.getElem?_take_of_lt (by omega), l2 k0]
        rfl
      · have k0 : k = 0 := by
          by_cases k0 : k = 0
          · exact k0
          · rw [decide_eq_false (fun zz => k0 (ue.mp zz))] at h; cases h
        rw [l1 k0] at g
        exact g
      have r3 : RwAt C H3 r dx n L (1 + k) := e3 _ _ r2
      have t3 := (t1.ext e2).ext e3
      refine ⟨_, rfl, .inl ⟨rfl, _, SqL.of hF3⟩, _, rfl, r, dx, n, L, 1 + k, Str.ofString "crates" :: cs, z, rfl, r3, e3 _ _ hL2, hws hz, t3, fun H4 x4 t4 => ⟨fun Qx hq => ?_, fun H5 k5 r5 => ?_⟩⟩
      · exact ⟨_, rfl, z, rfl, wz, fun H5 e5 => ⟨_, rfl, iteT ⟨_, rfl, _, rfl, _, _, rfl, rfl, qb Qx (decide_eq_true lt) (hq H5 e5)⟩⟩⟩
      · have r4 : RwAt C H4 r dx n L (1 + k) := x4 _ _ r3 (fun _ z => nomatch z)
        have hF5 := k5 _ _ rF (x4 _ _ hF3 (fun _ z => nomatch z))
        have t5 := tabs_but t4 k5 r4
        refine ⟨_, _, _, rfl, rfl, hF5, small' (by rw [List.length_map, tl]; omega), ⟨_, rfl⟩, ?_, tabs_list t5 (But.upd _ _ _) hF5, ?_, ?_⟩
        · have kk := ((k1.trans (ButT.of (But.of e2))).trans (ButT.of (But.of e3))).trans ((ButT.ext x4).trans (ButT.of k5))
          exact fun b o nb hb nt => by rw [upd_ne (fun zz => by rw [zz, nF] at hb; cases hb)]; exact kk b o nb hb nt
        · rw [RwAt, upd_ne rF.symm]
          exact r5
        · rw [upd_same, take_succ_get hz, List.map_append]
          rfl
    · have ke : k = cs.length := by omega
      rw [decide_eq_false (fun z => by have := ue.mp z; omega)]
      refine iteF ⟨_, rfl, r, dx, _, rfl, r2, rfl, r, dx, n, L, 1 + k, Str.ofString "crates" :: cs, rfl, r2, hL2, false, by rw [decide_eq_false (by rw [List.length_cons]; omega)], iteF ?_⟩
      rw [ke, List.take_length] at hF2
      exact ⟨_, rfl, _, _, rfl, SqL.of hF2, fun t H3 nt e3 ht => q H3 t ((k1.trans (ButT.of (But.of e2))).trans (ButT.of (But.of e3))) ((t1.ext e2).ext e3) ht⟩
end
end CC

/-! text X1 -/
namespace CC
open PySem PySem.Spec PyProof.Rows L2
/-! ### the lines and words of a store's text -/
theorem joinL_mem {S : List Nat} {c : Nat} : ∀ {ps : List (List Nat)}, c ∈ TL.joinL S ps → c ∈ S ∨ ∃ p ∈ ps, c ∈ p
  | [], h => by cases h
  | [p], h => .inr ⟨p, List.mem_singleton.mpr rfl, h⟩
  | p :: q :: r, h => by
    rcases List.mem_append.mp (show c ∈ p ++ (S ++ TL.joinL S (q :: r)) from h) with h | h
    · exact .inr ⟨p, List.mem_cons_self, h⟩
    · rcases List.mem_append.mp h with h | h
      · exact .inl h
      · exact (joinL_mem (ps := q :: r) h).imp id fun ⟨x, hx, k⟩ => ⟨x, List.mem_cons_of_mem _ hx, k⟩
theorem join_mem {a : Str} {c : Nat} {ws : List Str} (h : c ∈ (Txt.join a ws).cps.toList) : c ∈ a.cps.toList ∨ ∃ w ∈ ws, c ∈ w.cps.toList := by
  rw [show Txt.join a ws = Str.join a ws from TL.join_eq a ws] at h
  have h2 : c ∈ TL.tl (Str.join a ws) := h
  rw [TL.tl_join] at h2
  rcases joinL_mem h2 with h | ⟨p, hp, h⟩
  · exact .inl h
  · obtain ⟨w, hw, rfl⟩ := List.mem_map.mp hp
    exact .inr ⟨w, hw, h⟩
theorem num_high : ∀ n < 100, ∀ c ∈ (numS ((n : Nat) : Int)).cps.toList, 33 ≤ c := by decide +kernel
theorem letters_high : ∀ c ∈ letters.cps.toList, 33 ≤ c := by decide +kernel
theorem words_high {ds : List Door} {cs : List Str} (ok : OkDoors ds) (okc : ∀ c ∈ cs, IsWord c) : ∀ ws ∈ wordLists ds cs, ws ≠ [] ∧ ∀ x ∈ ws, ∀ c ∈ x.cps.toList, 33 ≤ c := fun ws hw => by
  have k1 : ∀ c ∈ (Str.ofString "door").cps.toList, 33 ≤ c := by decide +kernel
  have k2 : ∀ c ∈ (Str.ofString "crates").cps.toList, 33 ≤ c := by decide +kernel
  unfold wordLists at hw
  rcases List.mem_append.mp hw with hw | hw
  · obtain ⟨d, hd, rfl⟩ := List.mem_map.mp hw
    obtain ⟨o1, o2, o3, o4⟩ := ok.2.2.1 d hd
    refine ⟨fun z => (nomatch z), fun x hx => ?_⟩
    rcases List.mem_cons.mp hx with rfl | hx
    · exact k1
    · rcases List.mem_cons.mp hx with rfl | hx
      · exact num_high d.1 (by omega)
      · rw [List.mem_singleton.mp hx]; exact num_high d.2 (by omega)
  · rw [List.mem_singleton.mp hw]
    refine ⟨fun z => (nomatch z), fun x hx => ?_⟩
    rcases List.mem_cons.mp hx with rfl | hx
    · exact k2
    · exact fun c hc => letters_high c ((okc x hx).2.2 c hc)
theorem split_words {ds : List Door} {cs : List Str} (ok : OkDoors ds) (okc : ∀ c ∈ cs, IsWord c) {ws : List Str} (h : ws ∈ wordLists ds cs) : Txt.split (Txt.join " " ws) " " = ws := by
  obtain ⟨h1, h2⟩ := words_high ok okc ws h
  refine TL.split_join (s := 32) (S := []) rfl (by decide +kernel) h1 fun p hp hc => ?_
  have := h2 p hp 32 hc
  omega
theorem split_lines {ds : List Door} {cs : List Str} (ok : OkDoors ds) (okc : ∀ c ∈ cs, IsWord c) : Txt.split (storeText ds cs) "\n" = storeLines ds cs := by
  refine TL.split_join (s := 10) (S := []) rfl (by decide +kernel) ?_ fun p hp hc => ?_
  · unfold storeLines wordLists
    simp
  · obtain ⟨ws, hw, rfl⟩ := List.mem_map.mp hp
    obtain ⟨h1, h2⟩ := words_high ok okc ws hw
    rcases join_mem (show 10 ∈ (Txt.join " " ws).cps.toList from hc) with h | ⟨w, hw, h⟩
    · exact absurd h (by decide +kernel)
    · have := h2 w hw 10 h
      omega
theorem line_len {ds : List Door} {cs : List Str} (ok : OkDoors ds) (okc : ∀ c ∈ cs, IsWord c) (c5 : cs.length ≤ 5) {ws : List Str} (h : ws ∈ wordLists ds cs) : (Txt.join " " ws).length ≤ 60 := by
  obtain ⟨w6, w8⟩ := words_ok ok okc c5 ws h
  have sp : (" " : Str).length ≤ 1 := by decide
  exact Nat.le_trans (join_len " " 8 ws w8) (Nat.le_trans (Nat.mul_le_mul w6 (show 8 + (" " : Str).length ≤ 9 by omega)) (by decide))
theorem text_len {ds : List Door} {cs : List Str} (ok : OkDoors ds) (okc : ∀ c ∈ cs, IsWord c) (c5 : cs.length ≤ 5) : (storeText ds cs).length ≤ 305 := by
  have wl : (storeLines ds cs).length ≤ 5 := by
    unfold storeLines wordLists
    have := ok.2.1
    rw [List.length_map, List.length_append, List.length_map, List.length_singleton]
    omega
  have sp : ("\n" : Str).length ≤ 1 := by decide
  refine Nat.le_trans (join_len "\n" 60 _ fun y hy => ?_) (Nat.mul_le_mul wl (show 60 + ("\n" : Str).length ≤ 61 by omega))
  obtain ⟨ws, hw, rfl⟩ := List.mem_map.mp hy
  exact line_len ok okc c5 hw
theorem lines_get {ds : List Door} {cs : List Str} {i : Nat} {y : Str} (h : (storeLines ds cs)[i]? = some y) : (∃ d, ds[i]? = some d ∧ y = Txt.join " " [Str.ofString "door", numS d.1, numS d.2] ∧ [Str.ofString "door", numS d.1, numS d.2] ∈ wordLists ds cs) ∨ (i = ds.length ∧ y = Txt.join " " (Str.ofString "crates" :: cs) ∧ (Str.ofString "crates" :: cs) ∈ wordLists ds cs) := by
  unfold storeLines at h
  rw [List.getElem?_map] at h
  obtain ⟨ws, hw, rfl⟩ := Option.map_eq_some_iff.mp h
  have hm := List.mem_of_getElem? hw
  unfold wordLists at hw
  by_cases hi : i < ds.length
  · rw [List.getElem?_append_left (by rw [List.length_map]; exact hi), List.getElem?_map] at hw
    obtain ⟨d, hd, rfl⟩ := Option.map_eq_some_iff.mp hw
    exact .inl ⟨d, hd, rfl, hm⟩
  · rw [List.getElem?_append_right (by rw [List.length_map]; omega), List.length_map] at hw
    have := (List.getElem?_eq_some_iff.mp hw).1
    have e : i - ds.length = 0 := by simp at this; omega
    rw [e] at hw
    cases (show some (Str.ofString "crates" :: cs) = some ws from hw)
    exact .inr ⟨by omega, rfl, hm⟩
end CC

/-! text D22 -/
namespace CC
open PySem PySem.Spec PyProof.Rows L2 LamX
theorem ButT.tup {K : PySem.W.Frag} {r : Addr} {H H' : Hp} {C dx : Addr} {fs : List (Str × V)} {a : Addr} {xs : List V} (k : ButT r H H') (h : H r = some (.ins C dx fs)) (t : SqT K H a xs) : SqT K H' a xs := by
  rcases t with (t | ⟨o, t⟩) | t
  · exact .inl (.inl (k _ _ (fun z => by rw [z, h] at t; cases t) t (fun _ z => nomatch z)))
  · exact .inl (.inr ⟨o, k _ _ (fun z => by rw [z, h] at t; cases t) t (fun _ z => nomatch z)⟩)
  · exact .inr t
theorem ext_tup {K : PySem.W.Frag} {H H' : Hp} {a : Addr} {xs : List V} (k : ExtN H H') (t : SqT K H a xs) : SqT K H' a xs := by
  rcases t with (t | ⟨o, t⟩) | t
  · exact .inl (.inl (k _ _ t (fun _ z => nomatch z)))
  · exact .inl (.inr ⟨o, k _ _ t (fun _ z => nomatch z)⟩)
  · exact .inr t
theorem ButT.tupN {K : PySem.W.Frag} {r : Addr} {H H' : Hp} {a : Addr} {xs : List V} (k : ButT r H H') (h : H r = none) (t : SqT K H a xs) : SqT K H' a xs := by
  rcases t with (t | ⟨o, t⟩) | t
  · exact .inl (.inl (k _ _ (fun z => by rw [z, h] at t; cases t) t (fun _ z => nomatch z)))
  · exact .inl (.inr ⟨o, k _ _ (fun z => by rw [z, h] at t; cases t) t (fun _ z => nomatch z)⟩)
  · exact .inr t
section
variable {P : Program} {w : World} {K : PySem.W.Frag} {mg : Str → Option Value} {base : Heap} {C CW : Addr}
def spParse (T : List (Addr × Str)) (K : PySem.W.Frag) (C : Addr) : SpN := fun vs H Q => ∃ (ds : List Door) (cs : List Str), vs = [.str (storeText ds cs)] ∧ OkDoors ds ∧ OkCrates cs (places ds) ∧ Tabs T H ∧ ∀ H' a, ExtN H H' → Tabs T H' → StoreAt K C H' a ds cs → Q (.ref a) H'
abbrev s_parse_store : Stmt := topS 85
abbrev N_parse_store : List Str := ["text", "rows", "names", "lines", "number", "line", "row", "heads", "warmth"]
theorem sc_parse_store : FnScope N_parse_store ["text"] (defScope s_parse_store) := ⟨rfl, rfl, rfl, by decide +kernel, rfl, by decide +kernel, by decide +kernel⟩
-- cells: ['heads']; calls: ['Row.__init__', 'Row.fail', 'Row.has_more', 'Row.next_word', 'Row.read_crates', 'Store.__init__', 'heads_at']
theorem cal_parse_store {T : List (Addr × Str)} {f c : Addr} (B : Base K mg) (S : StoreB K mg C) (W : RowB K mg CW) (hRC : MetD P w K mg base 4 CW "read_crates" (spReadCrates T CW)) (mgf : mg "parse_store" = some (.ref f)) (kp : PySem.W.keepIn K (.ref f) = true)
    (FC : FunC K "parse_store" "parse_store" (topS 85) ["text"] f c) (LT : LamAt base mg T c "parse_store.<locals>.<lambda>") : Cal P w K mg base 6 "parse_store" (spParse T K C) := by
  obtain ⟨Pt, TB, mT, uT⟩ := LT.ex
  suffices key : ∃ fd, FnOk P w K mg base CX0 6 f fd ["text"] (fun vs H Q _ => spParse T K C vs H Q) ∧ Binds K fd ["text"] [] by
    obtain ⟨fd, F, b⟩ := key
    exact ⟨f, fd, ["text"], F, mgf, kp, b⟩
  refine FC.ok (k := 5) sc_parse_store (fun vs H Q h => ?_) (fun A outer s H vs Q E hr h => ?_)
  · obtain ⟨ds, cs, rfl, _⟩ := h
    rfl
  · obtain ⟨ds, cs, rfl, okd, okc, hT, q⟩ := h
    have okw := okc.2.2.2.1
    have c5 : cs.length ≤ 5 := okc.2.1
    have d4 : ds.length ≤ 4 := okd.2.1
    have d1 : 1 ≤ ds.length := okd.1
    obtain ⟨fc, fdc, _, hmc, _⟩ := B.d_is_count.ex
    refine ⟨_, (pss_cons (ps_par (i := 1) (j := 2) rfl sc_parse_store.nd rfl rfl (by decide) rfl rfl (pa_cons (pe_lstN pa_nil) (pa_cons (pe_tupF pa_nil) pa_nil)) rfl)
    (pss_cons (ps_set (i := 3) sc_parse_store.nd rfl (.inl rfl) (pe_split (pv 0) pe_str))
    (pss_cons (ps_for PassesOwn.never rfl (pi_enum rfl B.f_enumerate (pa_cons (pv 3) pa_nil)) (pg_tup rfl (pgs_cons (pg_name (i := 4) sc_parse_store.nd rfl (.inl rfl)) (pgs_cons (pg_name (i := 5) sc_parse_store.nd rfl (.inl rfl)) pgs_nil))) (
        (pss_cons (ps_set (i := 6) sc_parse_store.nd rfl (.inl rfl) (pe_mkN (mak_Row B W) hr (by decide) rfl (pa_cons (pv 4) (pa_cons (pv 5) pa_nil))))
        (pss_cons (ps_set (i := 7) sc_parse_store.nd rfl (.inr rfl) (pe_c (cal_heads_at B) hr (by decide) rfl (pa_cons (pv 1) (pa_cons (pv 2) pa_nil))))
        (pss_one (ps_if (pt_cmpR op_eq (pe_nwLam (a := "word") (k := 0) (tb := tOp (rIn K false) (tVar 9) (tVar 7)) B W hr (by decide) (pv 6) TB rfl mT uT (lamP_by rfl) (show Str.ofString "word" ∉ N_parse_store by decide +kernel) rfl (fun _ _ _ _ _ _ => by rfl) (fun A' outer' s' H' f' c' hr2 => pe_cmpR op_in_seq (pv 9) (pv 7) rfl)) (pe_gc rfl B.g_CRATES) (nomark _)) (
            (pss_one (ps_set (i := 2) sc_parse_store.nd rfl (.inl rfl) (pe_mD0 hRC W.cls hr (by decide) (pv 6)))
            )) (
            (pss_cons (ps_set (i := 8) sc_parse_store.nd rfl (.inl rfl) (pe_callTy call_int_str rfl B.f_int (by decide +kernel) (pa_cons (pe_mD (met_Row_next_word B W) W.cls hr (by decide) (pv 6) (pa_cons (pe_gc (v := .ref fc) rfl ⟨_, hmc, rfl⟩) pa_nil)) pa_nil)))
            (pss_cons (ps_expr (pe_bm PySem.F.plainAttrs_list PySem.F.slot_list_append PySem.F.type_list_append mt_append (pv 1) (pa_cons (pe_tupF (pa_cons (pv 8) (pa_cons (pe_callTy call_int_str rfl B.f_int (by decide +kernel) (pa_cons (pe_mD (met_Row_next_word B W) W.cls hr (by decide) (pv 6) (pa_cons (pe_gc (v := .ref fc) rfl ⟨_, hmc, rfl⟩) pa_nil)) pa_nil)) pa_nil))) pa_nil)))
            (pss_one (ps_if (pt_val (pe_mD0 (met_Row_has_more B W) W.cls hr (by decide) (pv 6))) (
                (pss_one ps_never
                )) (pss_nil))
            )))))
        )))))
    (pss_cons (ps_if (pt_cmpR (op_eqD hr.units) (pv 2) (pe_tupF pa_nil) (nomark _)) (
        (pss_one ps_never
        )) (pss_nil))
    (pss_one (ps_ret (pe_mkN (mak_Store B S) hr (by decide) rfl (pa_cons (pe_callTy call_tupleF rfl B.f_tuple (by decide +kernel) (pa_cons (pv 1) pa_nil)) (pa_cons (pv 2) pa_nil))))
    ))))), ?_⟩
    refine ⟨small (by simp), fun R H1 nR e1 hR => ⟨small (by simp), fun U H2 nU e2 hU => ?_⟩⟩
    refine ⟨_, _, rfl, _, rfl, ⟨_, rfl⟩, _, _, rfl, rfl, by decide, small (by have := text_len okd okw c5; omega), fun Ln nLn => ?_⟩
    generalize hh : upd H2 Ln _ = H3
    obtain ⟨e3, hLn⟩ := upH hh nLn
    clear hh
    rw [split_lines okd okw] at hLn
    have e03 := (e1.trans e2).trans e3
    have nRH : H R = none := nR
    have hRL : R ≠ Ln := fun z => by have := e2 _ _ hR; rw [z, nLn] at this; cases this
    have nLH : H Ln = none := (e1.trans e2).free nLn
    refine ⟨_, rfl, _, _, rfl, SqL.of hLn, ?_⟩
    refine for_it walk_enum (fun i σ H4 => ∃ nm us, (∃ j4 j5 j6 j7 j8, σ = [some (.str (storeText ds cs)), some (.ref R), some (.ref nm), some (.ref Ln), j4, j5, j6, j7, j8]) ∧ ExtN H H4 ∧ Tabs T H4 ∧ H4 Ln = some (.lst ((storeLines ds cs).map V.str)) ∧ H4 R = some (.lst us) ∧ Paired (DoorV K H4) us (ds.take i) ∧
      (i ≤ ds.length → SqT K H4 nm []) ∧ (i = ds.length + 1 → SqT K H4 nm (cs.map V.str))) ?_ (fun i σ H4 _ ⟨_, _, _, _, _, h, _⟩ => SqL.of h) (fun i y σ H4 H5 hi p hy => ?_) (fun σ H4 p => ?_)
    · exact ⟨U, [], ⟨_, _, _, _, _, rfl⟩, ExtN.of e03, hT.ext e03, hLn, e3 _ _ (e2 _ _ hR), .nil, fun _ => e3.tup hU.sq, fun z => by omega⟩
    · obtain ⟨nm, us, ⟨j4, j5, j6, j7, j8, rfl⟩, x4, t4, hLn4, hR4, p4, hnm, _⟩ := p
      obtain ⟨a1, b1, k1, k2, e5, T5, rfl, hT5⟩ := pair_of (K := K) hy
      cases k1
      obtain ⟨yl, hyl, rfl⟩ := sV_get k2
      refine ⟨_, _, rfl, hT5, rfl, _, _, rfl, _, _, rfl, rfl, ?_⟩
      have hll : (storeLines ds cs).length = ds.length + 1 := by
        unfold storeLines wordLists
        rw [List.length_map, List.length_append, List.length_map]
        rfl
      have hin : i ≤ ds.length := by
        rw [List.length_map, hll] at hi
        omega
      have hnm := hnm hin
      obtain ⟨ws, hws, eyl⟩ : ∃ ws, ws ∈ wordLists ds cs ∧ yl = Txt.join " " ws := by
        rcases lines_get hyl with ⟨d, _, h, m⟩ | ⟨_, h, m⟩
        · exact ⟨_, m, h⟩
        · exact ⟨_, m, h⟩
      have hl60 : yl.length ≤ 60 := by rw [eyl]; exact line_len okd okw c5 hws
      have hspl : Txt.split yl " " = ws := by rw [eyl]; exact split_words okd okw hws
      refine ⟨_, rfl, _, rfl, fun x dx nx ndx ne => ?_⟩
      refine ⟨x, dx, i, yl, rfl, upd_same, by omega, fun H6 Lw k6 r6 hw6 => ⟨rfl, ?_⟩⟩
      rw [hspl] at hw6
      have e6 : Same H5 H6 := fun b o hb => by
        have bx : b ≠ x := fun z => by rw [z, nx] at hb; cases hb
        refine k6 b o bx ?_
        rw [upd_ne bx, upd_ne (fun z => by rw [z, ndx] at hb; cases hb)]
        exact hb
      have e46 := e5.trans e6
      have hR6 := e46 _ _ hR4
      have p6 : Paired (DoorV K H6) us (ds.take i) := Paired.imp (fun _ _ h => h.mono e46.n) p4
      have nx4 : H4 x = none := e5.free nx
      have tl : (ds.take i).length = i := by rw [List.length_take]; omega
      refine ⟨_, rfl, _, rfl, R, nm, us, ds.take i, rfl, hR6, p6, by omega, e46.tup hnm, fun H7 Th e7 hTh => ?_⟩
      rw [tl] at hTh
      have r7 : RwAt CW H7 x dx i Lw 0 := e7 _ _ r6
      have hw7 := e7 _ _ hw6
      have e47 := e46.trans e7
      have lx : Lw ≠ x := fun z => by unfold RwAt at r6; rw [← z, hw6] at r6; cases r6
      have rx : R ≠ x := fun z => by rw [z, nx4] at hR4; cases hR4
      have lnx : Ln ≠ x := fun z => by rw [z, nx4] at hLn4; cases hLn4
      rcases lines_get hyl with ⟨d, hd, eyd, hmd⟩ | ⟨ein, eyc, hmc'⟩
      · have hi4 : i < ds.length := (List.getElem?_eq_some_iff.mp hd).1
        have ew : ws = [Str.ofString "door", numS d.1, numS d.2] := by rw [← hspl, eyd]; exact split_words okd okw hmd
        subst ew
        have hin0 : Str.ofString "door" ∈ heads i := by
          unfold heads
          rw [if_pos (show i < 4 by omega)]
          exact List.mem_append_left _ (List.mem_singleton.mpr rfl)
        obtain ⟨o1, o2, o3, o4⟩ := okd.2.2.1 d (List.mem_of_getElem? hd)
        obtain ⟨n1, n2, n3, n4⟩ := count_is d.1 (by omega) o1
        obtain ⟨m1, m2, m3, m4⟩ := count_is d.2 (by omega) o3
        have nl := numS2_len d.1 (by omega)
        have ml := numS2_len d.2 (by omega)
        refine ⟨_, rfl, x, dx, i, Lw, 0, _, Str.ofString "door", rfl, r7, hw7, rfl, t4.ext e47, fun H8 x8 t8 => ⟨fun Qx hq => ⟨_, rfl, _, rfl, _, _, rfl, .inr (ext_tup x8 hTh.sq), rfl, strs_flat _, qb Qx (by rw [inV_str, decide_eq_true hin0]; rfl) (hq _ (Same.refl _))⟩, fun H9 k9 r9 => ?_⟩⟩
        have r8 : RwAt CW H8 x dx i Lw 0 := x8 _ _ r7 (fun _ z => nomatch z)
        have kk : ∀ {H' : Hp}, But x H8 H' → ButT x H4 H' := fun {H'} k => ((ButT.of (But.of e47)).trans (ButT.ext x8)).trans (ButT.of k)
        have lst : ∀ {H' : Hp} {b : Addr} {xs : List V}, ButT x H4 H' → b ≠ x → H4 b = some (.lst xs) → H' b = some (.lst xs) := fun {H' b xs} k nb hb => k b _ nb hb (fun _ z => nomatch z)
        have hw8 := x8 _ _ hw7 (fun _ z => nomatch z)
        refine ⟨rfl, false, bl_f (fun z => absurd (V.str.inj z) (by decide)), iteF ?_⟩
        have hw9 := k9 _ _ lx hw8
        refine ⟨_, rfl, x, dx, _, rfl, r9, rfl, x, dx, i, Lw, 1, fc, _, numS d.1, rfl, hmc, r9, hw9, rfl, ⟨n1, nl, n2, n3⟩, fun H10 k10 r10 => ?_⟩
        have hw10 := k10 _ _ lx hw9
        have k910 := k9.trans k10
        refine ⟨_, _, rfl, n4, by omega, ?_⟩
        have hR10 := lst (kk k910) rx hR4
        refine ⟨_, rfl, .inl ⟨rfl, _, SqL.of hR10⟩, _, rfl, _, rfl, x, dx, _, rfl, r10, rfl, x, dx, i, Lw, 2, fc, _, numS d.2, rfl, hmc, r10, hw10, rfl, ⟨m1, ml, m2, m3⟩, fun H11 k11 r11 => ?_⟩
        have k911 := k910.trans k11
        have hw11 := k11 _ _ lx hw10
        refine ⟨_, _, rfl, m4, by omega, small (by simp), fun T12 H12 nT12 e12 hT12 => ?_⟩
        have k912 := k911.trans (But.of e12)
        have hR12 := lst (kk k912) rx hR4
        have t9 := tabs_but t8 k9 r8
        have t12 := ((tabs_but (tabs_but t9 k10 r9) k11 r10)).ext e12
        refine ⟨_, _, _, rfl, rfl, hR12, small' ?_, ?_⟩
        · rw [Paired.len p4, List.length_take]; omega
        generalize hh : upd H12 R _ = H13
        have k13 : But R H12 H13 := by rw [← hh]; exact But.upd _ _ _
        have hR13 : H13 R = some (.lst (us ++ [V.ref T12])) := by rw [← hh]; exact upd_same
        clear hh
        have r12 : RwAt CW H12 x dx i Lw 3 := e12 _ _ r11
        have hw12 := e12 _ _ hw11
        have lR : Lw ≠ R := fun z => by
          have a1 := hw7
          rw [z, e7 _ _ hR6] at a1
          have e : us = _ := (HO.lst.inj (Option.some.inj a1))
          rw [e] at p4
          have no : ∀ {v : Str} {vs : List V} {dt : List Door}, Paired (DoorV K H4) (V.str v :: vs) dt → False := fun {v vs dt} p => by
            cases p with
            | cons h _ =>
              obtain ⟨b, e, _⟩ := h
              cases e
          exact no p4
        refine ⟨_, rfl, x, dx, _, rfl, k13 _ _ rx.symm r12, rfl, x, dx, i, Lw, 3, _, rfl, k13 _ _ rx.symm r12, k13 _ _ lR hw12, false, rfl, iteF ?_⟩
        have m13 : SameN H12 H13 := SameN.list hR12 k13
        refine ⟨nm, _, ⟨_, _, _, _, _, rfl⟩, fun b o hb nt => ?_, tabs_list t12 k13 hR12, k13 _ _ hRL.symm (lst (kk k912) lnx hLn4), hR13, ?_, fun _ => m13.tup ((kk k912).tupN nx4 hnm), fun z => by omega⟩
        · have b4 := x4 b o hb nt
          exact k13 b o (fun z => by rw [z, nRH] at hb; cases hb) (kk k912 b o (fun z => by rw [z, nx4] at b4; cases b4) b4 nt)
        · rw [take_succ_get hd]
          exact Paired.snoc (Paired.imp (fun _ _ ⟨b, e, h⟩ => ⟨b, e, m13.tup ((kk k912).tupN nx4 h)⟩) p4) ⟨T12, rfl, m13.tup hT12.sq⟩
      · have ew : ws = Str.ofString "crates" :: cs := by rw [← hspl, eyc]; exact split_words okd okw hmc'
        subst ew
        have hin0 : Str.ofString "crates" ∈ heads i := by
          unfold heads
          rw [if_neg (show ¬ i = 0 by omega)]
          exact List.mem_append_right _ (List.mem_singleton.mpr rfl)
        refine ⟨_, rfl, x, dx, i, Lw, 0, _, Str.ofString "crates", rfl, r7, hw7, rfl, t4.ext e47, fun H8 x8 t8 => ⟨fun Qx hq => ⟨_, rfl, _, rfl, _, _, rfl, .inr (ext_tup x8 hTh.sq), rfl, strs_flat _, qb Qx (by rw [inV_str, decide_eq_true hin0]; rfl) (hq _ (Same.refl _))⟩, fun H9 k9 r9 => ?_⟩⟩
        have r8 : RwAt CW H8 x dx i Lw 0 := x8 _ _ r7 (fun _ z => nomatch z)
        have hw9 := k9 _ _ lx (x8 _ _ hw7 (fun _ z => nomatch z))
        refine ⟨rfl, true, rfl, iteT ?_⟩
        refine ⟨_, rfl, x, dx, _, rfl, r9, rfl, x, dx, i, Lw, places ds, cs, rfl, r9, hw9, okc, tabs_but t8 k9 r8, fun H10 t k10 t10 ht10 => ?_⟩
        have kk : ButT x H4 H10 := (((ButT.of (But.of e47)).trans (ButT.ext x8)).trans (ButT.of k9)).trans k10
        refine ⟨t, us, ⟨_, _, _, _, _, rfl⟩, fun b o hb nt => ?_, t10, kk _ _ lnx hLn4 (fun _ z => nomatch z), kk _ _ rx hR4 (fun _ z => nomatch z), ?_, fun z => by omega, fun _ => ht10.sq⟩
        · have b4 := x4 b o hb nt
          exact kk b o (fun z => by rw [z, nx4] at b4; cases b4) b4 nt
        · rw [List.take_of_length_le (by omega)] at p4 ⊢
          exact Paired.imp (fun _ _ ⟨b, e, h⟩ => ⟨b, e, kk.tupN nx4 h⟩) p4
    · obtain ⟨nm, us, ⟨j4, j5, j6, j7, j8, rfl⟩, x4, t4, hLn4, hR4, p4, _, hnm⟩ := p
      have hll : ((storeLines ds cs).map V.str).length = ds.length + 1 := by
        unfold storeLines wordLists
        rw [List.length_map, List.length_map, List.length_append, List.length_map]
        rfl
      have hnm := hnm hll
      rw [hll, List.take_of_length_le (by omega)] at p4
      have ss : ∀ x ∈ cs.map PyData.str, Sh 0 x := fun x hx => by
        obtain ⟨z, hz, rfl⟩ := List.mem_map.mp hx
        exact Sh.str (word_ok (okw z hz))
      refine ⟨_, rfl, small (by simp), fun D H5 nD e5 hD => ?_⟩
      refine rEq_unit (cs.map PyData.str) 0 (by decide) (e5.tup hnm) hD.sq (DpAll.map (fun a => .str a) _) ss ⟨_, rfl, ?_⟩
      have hne : cs.map V.str ≠ [] := fun z => by
        have := List.map_eq_nil_iff.mp z
        have c1 := okc.1
        rw [this] at c1
        exact absurd c1 (by decide)
      rw [decide_eq_false hne]
      refine iteF ⟨_, rfl, _, _, rfl, SqL.of (e5 _ _ hR4), fun T1 H6 nT1 e6 hT1 => ⟨_, rfl, fun y dy ny ndy ney => ?_⟩⟩
      generalize hh : upd (upd H6 dy (.own y)) y (.ins C dy []) = H7
      have hy7 : H7 y = some (.ins C dy []) := by rw [← hh]; exact upd_same
      have hdy7 : H7 dy = some (.own y) := by rw [← hh, upd_ne ney]; exact upd_same
      have e7 : Same H6 H7 := fun b o hb => by
        rw [← hh, upd_ne (fun z => by rw [z, ny] at hb; cases hb), upd_ne (fun z => by rw [z, ndy] at hb; cases hb)]
        exact hb
      clear hh
      have e47 := (e5.trans e6).trans e7
      refine ⟨y, dy, T1, nm, ds, cs, rfl, hy7, hdy7, ney, ⟨T1, us, rfl, (hT1.mono e7.n).sq, Paired.imp (fun _ _ h => h.mono e47.n) p4⟩, okd, e47.tup hnm, okc, fun H8 k8 st => ⟨rfl, ?_⟩⟩
      have e68 : Same H6 H8 := fun b o hb => k8 b o (fun z => by rw [z, ny] at hb; cases hb) (fun z => by rw [z, ndy] at hb; cases hb) (e7 _ _ hb)
      have e48 := (e5.trans e6).trans e68
      exact q H8 y (x4.trans (ExtN.of e48)) (t4.ext e48) st
end
end CC

/-! text E1 -/
namespace CC
open PySem PySem.Spec PyProof.Rows L2
/-! ### drawing numbers -/
/-- the drawn row: the script, where it is read, two numbers -/
def Row4 (K : PySem.W.Frag) (H : Hp) (rw L : Addr) (ns : List Int) (i j k : Int) : Prop := H rw = some (.lst [.ref L, .int i, .int j, .int k]) ∧ SqL K H L (ns.map V.int) ∧ (L ≠ rw ∨ ∀ H' : Hp, SqL K H' L (ns.map V.int)) ∧ 0 ≤ i ∧ (0 ≤ j ∧ j < 2147483647) ∧ 0 ≤ k
/-- the row's address, the script's address, its numbers -/
abbrev Dr : Type := Addr × Addr × List Int
def DrawAt (K : PySem.W.Frag) (H : Hp) (d : Dr) : Prop := ∃ i j k, Row4 K H d.1 d.2.1 d.2.2 i j k
theorem mod_nat (k : Int) {m : Nat} (h : 1 ≤ m) : ∃ t : Nat, k % (m : Int) = (t : Int) ∧ t < m := by
  have h1 : 0 ≤ k % (m : Int) := Int.emod_nonneg _ (by omega)
  have h2 : k % (m : Int) < m := Int.emod_lt_of_pos _ (by omega)
  exact ⟨(k % (m : Int)).toNat, (Int.toNat_of_nonneg h1).symm, by omega⟩
section
variable {P : Program} {w : World} {K : PySem.W.Frag} {mg : Str → Option Value} {base : Heap} {C : Addr}
theorem sql_but {r : Addr} {H H' : Hp} {L : Addr} {xs : List V} (k : But r H H') (n : L ≠ r) (h : SqL K H L xs) : SqL K H' L xs := by
  rcases h with (h | ⟨o, h⟩) | h
  · exact .inl (.inl (k _ _ n h))
  · exact .inl (.inr ⟨o, k _ _ n h⟩)
  · exact .inr h
theorem sql_or {r : Addr} {H H' : Hp} {L : Addr} {xs : List V} (k : But r H H') (n : L ≠ r ∨ ∀ H' : Hp, SqL K H' L xs) (h : SqL K H L xs) : SqL K H' L xs := n.elim (fun n => sql_but k n h) fun n => n H'
def spTaken (K : PySem.W.Frag) : SpN := fun vs H Q => ∃ (d : Dr) (m : Nat), vs = [.ref d.1, nV m] ∧ DrawAt K H d ∧ 1 ≤ m ∧ m ≤ 100000 ∧ ∀ H' (t : Nat), But d.1 H H' → DrawAt K H' d → t < m → Q (nV t) H'
abbrev s__law_taken : Stmt := topS 87
abbrev N__law_taken : List Str := ["_law_row", "_law_many", "_law_found", "_law_cell"]
theorem sc__law_taken : FnScope N__law_taken ["_law_row", "_law_many"] (defScope s__law_taken) := ⟨rfl, rfl, rfl, by decide +kernel, rfl, by decide +kernel, by decide +kernel⟩
-- cells: []; calls: []
theorem cal__law_taken (B : Base K mg) : Cal P w K mg base 1 "_law_taken" (spTaken K) := by
  refine B.d__law_taken.ok sc__law_taken (fun vs H Q h => ?_) (fun f cdv A outer s H vs Q E hr h => ?_)
  · obtain ⟨d, m, rfl, _⟩ := h
    rfl
  · obtain ⟨⟨rw, L, ns⟩, m, rfl, ⟨i, j, k, hrw, hL, nL, i0, j0, k0⟩, m1, m5, q⟩ := h
    replace hrw : H rw = some (.lst [.ref L, .int i, .int j, .int k]) := hrw
    replace hL : SqL K H L (ns.map V.int) := hL
    replace nL : L ≠ rw ∨ ∀ H' : Hp, SqL K H' L (ns.map V.int) := nL
    replace q : ∀ H' (t : Nat), But rw H H' → DrawAt K H' (rw, L, ns) → t < m → Q (nV t) H' := q
    refine ⟨_, (pss_cons (ps_if (pt_cmpR op_gt (pe_ix ix_list (pv 0) pe_int (fun _ _ => rfl)) pe_int (nomark _)) (
        (pss_cons (ps_set (i := 2) sc__law_taken.nd rfl (.inl rfl) (pe_op op_mod (pe_callTy call_int1 rfl B.f_int (by decide +kernel) (pa_cons (pe_ix ix_list (pv 0) pe_int (fun _ _ => rfl)) pa_nil)) (pv 1)))
        (pss_cons (ps_asg (pe_op op_fdiv (pe_ix ix_list (pv 0) pe_int (fun _ _ => rfl)) (pv 1)) (pg_sub (pv 0) pe_int set_list))
        (pss_one (ps_ret (pv 2))
        )))) (pss_nil))
    (pss_cons (ps_asg (pe_op op_add (pe_ix ix_list (pv 0) pe_int (fun _ _ => rfl)) pe_int) (pg_sub (pv 0) pe_int set_list))
    (pss_cons (ps_if (pt_cmpR op_gt (pe_ix ix_list (pv 0) pe_int (fun _ _ => rfl)) (pe_callB call_len rfl B.f_len boot_len (pa_cons (pe_ix ix_list (pv 0) pe_int (fun _ _ => rfl)) pa_nil)) (nomark _)) (
        (pss_cons (ps_asg (pe_op op_mod (pe_callTy call_int1 rfl B.f_int (by decide +kernel) (pa_cons (pe_op op_add (pe_op op_mul (pe_ix ix_list (pv 0) pe_int (fun _ _ => rfl)) pe_int) pe_int) pa_nil)) pe_int) (pg_sub (pv 0) pe_int set_list))
        (pss_one (ps_ret (pe_op op_mod (pe_callTy call_int1 rfl B.f_int (by decide +kernel) (pa_cons (pe_op op_fdiv (pe_ix ix_list (pv 0) pe_int (fun _ _ => rfl)) pe_int) pa_nil)) (pv 1)))
        ))) (pss_nil))
    (pss_cons (ps_set (i := 3) sc__law_taken.nd rfl (.inl rfl) (pe_ix ix_list (pe_ix ix_list (pv 0) pe_int (fun _ _ => rfl)) (pe_op op_sub (pe_ix ix_list (pv 0) pe_int (fun _ _ => rfl)) pe_int) (fun _ _ => rfl)))
    (pss_cons (ps_asg (pe_op op_mod (pe_callTy call_int1 rfl B.f_int (by decide +kernel) (pa_cons (pe_op op_add (pe_op op_add (pe_op op_mul (pe_ix ix_list (pv 0) pe_int (fun _ _ => rfl)) pe_int) (pv 3)) pe_int) pa_nil)) pe_int) (pg_sub (pv 0) pe_int set_list))
    (pss_cons (ps_asg (pe_ifExp (pt_cmpR op_ge (pv 3) (pe_op op_pow pe_int pe_int) (nomark _)) (pe_op op_fdiv (pv 3) (pv 1)) pe_int) (pg_sub (pv 0) pe_int set_list))
    (pss_one (ps_ret (pe_op op_mod (pe_callTy call_int1 rfl B.f_int (by decide +kernel) (pa_cons (pv 3) pa_nil)) (pv 1)))
    ))))))), ?_⟩
    refine ⟨_, rfl, _, _, _, _, rfl, rfl, SqL.of hrw, rfl, ?_⟩
    have mp : (0 : Int) < (m : Int) := by omega
    have dv : CDiv k (m : Int) := ⟨by omega, by omega⟩
    refine ⟨_, _, rfl, rfl, _, rfl, ite2 (fun hk => ?_) (fun hk => ?_)⟩
    · obtain ⟨t, et, ht⟩ := mod_nat k m1
      refine ⟨_, rfl, _, _, _, _, rfl, rfl, SqL.of hrw, rfl, .inl ⟨_, rfl, _, rfl, _, _, rfl, rfl, mp, ?_⟩⟩
      refine ⟨_, rfl, _, _, _, _, rfl, rfl, SqL.of hrw, rfl, _, rfl, _, _, rfl, rfl, dv, _, rfl, _, _, _, 3, rfl, rfl, hrw, rfl, _, rfl, ?_⟩
      show Q (V.int (k % (m : Int))) _
      rw [et]
      exact q _ t (But.upd _ _ _) ⟨i, j, k / (m : Int), upd_same, sql_or (But.upd _ _ _) nL hL, nL, i0, j0, Int.ediv_nonneg k0 (by omega)⟩ ht
    refine ⟨_, rfl, _, _, _, _, rfl, rfl, SqL.of hrw, rfl, _, _, rfl, rfl, _, rfl, _, _, _, 1, rfl, rfl, hrw, rfl, ?_⟩
    generalize hh : upd H rw _ = H1
    have k1 : But rw H H1 := by rw [← hh]; exact But.upd _ _ _
    have r1 : H1 rw = some (.lst [.ref L, .int (i + 1), .int j, .int k]) := by rw [← hh]; exact upd_same
    clear hh
    have hL1 := sql_or k1 nL hL
    refine ⟨_, rfl, _, _, _, _, rfl, rfl, SqL.of r1, rfl, _, rfl, _, _, _, _, rfl, rfl, SqL.of r1, rfl, _, _, rfl, .inl ⟨_, hL1, rfl⟩, _, _, rfl, rfl, _, rfl, ite2 (fun hn => ?_) (fun hn => ?_)⟩
    · refine ⟨_, rfl, _, _, _, _, rfl, rfl, SqL.of r1, rfl, _, _, rfl, rfl, .inr ⟨by decide, by decide⟩, _, _, rfl, rfl, .inl ⟨_, rfl, _, _, rfl, rfl, (show (0 : Int) < 2147483647 by decide), _, rfl, _, _, _, 2, rfl, rfl, r1, rfl, ?_⟩⟩
      generalize hh : upd H1 rw _ = H2
      have k2 : But rw H1 H2 := by rw [← hh]; exact But.upd _ _ _
      have r2 : H2 rw = some (.lst [.ref L, .int (i + 1), .int ((j * 48271 + 11) % 2147483647), .int k]) := by rw [← hh]; exact upd_same
      clear hh
      obtain ⟨t, et, ht⟩ := mod_nat ((j * 48271 + 11) % 2147483647 / 7) m1
      refine ⟨_, rfl, _, _, _, _, rfl, rfl, SqL.of r2, rfl, _, _, rfl, rfl, ⟨by decide, by decide⟩, .inl ⟨_, rfl, _, rfl, _, _, rfl, rfl, mp, ?_⟩⟩
      show Q (V.int ((j * 48271 + 11) % 2147483647 / 7 % (m : Int))) _
      rw [et]
      exact q _ t (k1.trans k2) ⟨_, _, _, r2, sql_or k2 nL hL1, nL, by omega, ⟨Int.emod_nonneg _ (by decide), Int.emod_lt_of_pos _ (by decide)⟩, k0⟩ ht
    have hil : i.toNat < ns.length := by
      rw [List.length_map] at hn
      have hn : ¬ decide (((ns.length : Nat) : Int) < i + 1) = true := hn
      rw [decide_eq_true_eq] at hn
      omega
    obtain ⟨cell, hc⟩ : ∃ cell, ns[i.toNat]? = some cell := ⟨_, List.getElem?_eq_getElem hil⟩
    have hat : atI (ns.map V.int) (i + 1 - 1) = some (V.int cell) := by
      rw [show i + 1 - 1 = ((i.toNat : Nat) : Int) by omega]
      exact atI_nat (map_get hc)
    refine ⟨_, rfl, _, _, _, _, rfl, rfl, SqL.of r1, rfl, _, rfl, _, _, _, _, rfl, rfl, SqL.of r1, rfl, _, _, rfl, rfl, _, _, _, _, rfl, rfl, hL1, hat, ?_⟩
    refine ⟨_, rfl, _, _, _, _, rfl, rfl, SqL.of r1, rfl, _, _, rfl, rfl, .inr ⟨by decide, by decide⟩, _, rfl, _, _, rfl, rfl, _, _, rfl, rfl, .inl ⟨_, rfl, _, _, rfl, rfl, (show (0 : Int) < 2147483647 by decide), _, rfl, _, _, _, 2, rfl, rfl, r1, rfl, ?_⟩⟩
    generalize hh : upd H1 rw _ = H2
    have k2 : But rw H1 H2 := by rw [← hh]; exact But.upd _ _ _
    have r2 : H2 rw = some (.lst [.ref L, .int (i + 1), .int ((j * 48271 + cell + 11) % 2147483647), .int k]) := by rw [← hh]; exact upd_same
    clear hh
    refine ⟨_, rfl, _, _, rfl, rfl, ⟨by decide, by decide, by decide⟩, _, _, rfl, rfl, _, rfl, ite2 (fun hb => ?_) (fun hb => ?_)⟩
    · have c0 : 0 ≤ cell := by
        have hb : decide ((10 : Int) ^ (18 : Int).toNat ≤ cell) = true := hb
        have := of_decide_eq_true hb
        have e : (10 : Int) ^ (18 : Int).toNat = 1000000000000000000 := by decide
        omega
      refine ⟨_, rfl, _, rfl, _, _, rfl, rfl, ⟨by omega, by omega⟩, _, rfl, _, _, _, 3, rfl, rfl, r2, rfl, ?_⟩
      obtain ⟨t, et, ht⟩ := mod_nat cell m1
      generalize hh : upd H2 rw _ = H3
      have k3 : But rw H2 H3 := by rw [← hh]; exact But.upd _ _ _
      have r3 : H3 rw = some (.lst [.ref L, .int (i + 1), .int ((j * 48271 + cell + 11) % 2147483647), .int (cell / (m : Int))]) := by rw [← hh]; exact upd_same
      clear hh
      refine ⟨_, rfl, .inl ⟨_, rfl, _, rfl, _, _, rfl, rfl, mp, ?_⟩⟩
      show Q (V.int (cell % (m : Int))) _
      rw [et]
      exact q _ t (k1.trans (k2.trans k3)) ⟨_, _, _, r3, sql_or k3 nL (sql_or k2 nL hL1), nL, by omega, ⟨Int.emod_nonneg _ (by decide), Int.emod_lt_of_pos _ (by decide)⟩, Int.ediv_nonneg c0 (by omega)⟩ ht
    · refine ⟨_, rfl, _, _, _, 3, rfl, rfl, r2, rfl, ?_⟩
      obtain ⟨t, et, ht⟩ := mod_nat cell m1
      generalize hh : upd H2 rw _ = H3
      have k3 : But rw H2 H3 := by rw [← hh]; exact But.upd _ _ _
      have r3 : H3 rw = some (.lst [.ref L, .int (i + 1), .int ((j * 48271 + cell + 11) % 2147483647), .int 0]) := by rw [← hh]; exact upd_same
      clear hh
      refine ⟨_, rfl, .inl ⟨_, rfl, _, rfl, _, _, rfl, rfl, mp, ?_⟩⟩
      show Q (V.int (cell % (m : Int))) _
      rw [et]
      exact q _ t (k1.trans (k2.trans k3)) ⟨_, _, _, r3, sql_or k3 nL (sql_or k2 nL hL1), nL, by omega, ⟨Int.emod_nonneg _ (by decide), Int.emod_lt_of_pos _ (by decide)⟩, Int.le_refl _⟩ ht
end
end CC

/-! text E2 -/
namespace CC
open PySem PySem.Spec PyProof.Rows L2
theorem DrawAt.lst {K : PySem.W.Frag} {H : Hp} {d : Dr} (h : DrawAt K H d) : ∃ xs, H d.1 = some (.lst xs) := let ⟨_, _, _, h, _⟩ := h; ⟨_, h⟩
theorem DrawAt.same {K : PySem.W.Frag} {H H' : Hp} {d : Dr} (e : Same H H') (h : DrawAt K H d) : DrawAt K H' d := by
  obtain ⟨i, j, k, h1, h2, h3⟩ := h
  refine ⟨i, j, k, e _ _ h1, ?_, h3⟩
  rcases h2 with (h | ⟨o, h⟩) | h
  · exact .inl (.inl (e _ _ h))
  · exact .inl (.inr ⟨o, e _ _ h⟩)
  · exact .inr h
theorem But.tupL {K : PySem.W.Frag} {r : Addr} {H H' : Hp} {xs : List V} {a : Addr} {ys : List V} (k : But r H H') (h : H r = some (.lst xs)) (t : SqT K H a ys) : SqT K H' a ys := by
  rcases t with (t | ⟨o, t⟩) | t
  · exact .inl (.inl (k _ _ (fun z => by rw [z, h] at t; cases t) t))
  · exact .inl (.inr ⟨o, k _ _ (fun z => by rw [z, h] at t; cases t) t⟩)
  · exact .inr t
/-- the script's list is none that came later -/
def Old (K : PySem.W.Frag) (d : Dr) (r : Addr) : Prop := r ≠ d.1 ∧ ∀ H : Hp, SqL K H d.2.1 (d.2.2.map V.int) → d.2.1 ≠ r ∨ ∀ H', SqL K H' d.2.1 (d.2.2.map V.int)
theorem DrawAt.new {K : PySem.W.Frag} {H : Hp} {d : Dr} {r : Addr} (h : DrawAt K H d) (n : H r = none) : Old K d r := by
  obtain ⟨i, j, k, h1, h2, h3⟩ := h
  refine ⟨fun z => (by rw [z, h1] at n; exact nomatch n), fun H0 _ => ?_⟩
  rcases h2 with (h | ⟨o, h⟩) | h
  · exact .inl fun z => by rw [z, n] at h; cases h
  · exact .inl fun z => by rw [z, n] at h; cases h
  · exact .inr fun H' => .inr h
theorem DrawAt.but {K : PySem.W.Frag} {H H' : Hp} {d : Dr} {r : Addr} (k : But r H H') (o : Old K d r) (h : DrawAt K H d) : DrawAt K H' d := by
  obtain ⟨i, j, m, h1, h2, h3⟩ := h
  refine ⟨i, j, m, k _ _ o.1.symm h1, ?_, h3⟩
  rcases o.2 H h2 with n | n
  · exact sql_but k n h2
  · exact n H'
theorem seq_nat {t n : Nat} (h : t < n) : seqIndex? ((t : Nat) : Int) n = some t := by
  unfold seqIndex?
  simp
  omega
theorem map_erase {α β : Type} (f : α → β) (l : List α) (k : Nat) : (l.map f).eraseIdx k = (l.eraseIdx k).map f := by
  rw [List.eraseIdx_eq_take_drop_succ, List.eraseIdx_eq_take_drop_succ, List.map_append, List.map_take, List.map_drop]
section
variable {P : Program} {w : World} {K : PySem.W.Frag} {mg : Str → Option Value} {base : Heap} {C : Addr}
def spPick (K : PySem.W.Frag) : SpN := fun vs H Q => ∃ (d : Dr) (p : Addr) (xs : List V), vs = [.ref d.1, .ref p] ∧ DrawAt K H d ∧ ((SqL K H p xs ∧ p ≠ d.1) ∨ SqT K H p xs) ∧ 1 ≤ xs.length ∧ xs.length ≤ 100000 ∧ ∀ (H' : Hp) (i : Nat) (v : V), But d.1 H H' → DrawAt K H' d → xs[i]? = some v → Q v H'
abbrev s__law_pick : Stmt := topS 88
abbrev N__law_pick : List Str := ["_law_row", "_law_some"]
theorem sc__law_pick : FnScope N__law_pick ["_law_row", "_law_some"] (defScope s__law_pick) := ⟨rfl, rfl, rfl, by decide +kernel, rfl, by decide +kernel, by decide +kernel⟩
-- cells: []; calls: ['_law_taken']
theorem cal__law_pick (B : Base K mg) : Cal P w K mg base 2 "_law_pick" (spPick K) := by
  refine B.d__law_pick.ok sc__law_pick (fun vs H Q h => ?_) (fun f cdv A outer s H vs Q E hr h => ?_)
  · obtain ⟨d, p, xs, rfl, _⟩ := h
    rfl
  · obtain ⟨d, p, xs, rfl, hd, hx, x1, x5, q⟩ := h
    obtain ⟨ds, hrw⟩ := hd.lst
    refine ⟨_, (pss_one (ps_ret (pe_ix ix_seq (pv 1) (pe_c (cal__law_taken B) hr (by decide) rfl (pa_cons (pv 0) (pa_cons (pe_callB call_len rfl B.f_len boot_len (pa_cons (pv 1) pa_nil)) pa_nil))) (fun _ _ => rfl)))
    ), ?_⟩
    rcases hx with ⟨hx, np⟩ | hx
    · refine ⟨_, rfl, _, rfl, _, rfl, _, _, rfl, .inl ⟨_, hx, rfl⟩, d, xs.length, rfl, hd, x1, x5, fun H' t k hd' ht => .inl ?_⟩
      obtain ⟨v, hv⟩ : ∃ v, xs[t]? = some v := ⟨_, List.getElem?_eq_getElem ht⟩
      exact ⟨_, _, _, _, rfl, rfl, sql_but k np hx, atI_nat hv, q H' t v k hd' hv⟩
    · refine ⟨_, rfl, _, rfl, _, rfl, _, _, rfl, .inr ⟨_, hx, rfl⟩, d, xs.length, rfl, hd, x1, x5, fun H' t k hd' ht => .inr (.inl ?_)⟩
      obtain ⟨v, hv⟩ : ∃ v, xs[t]? = some v := ⟨_, List.getElem?_eq_getElem ht⟩
      exact ⟨_, _, _, _, rfl, rfl, k.tupL hrw hx, atI_nat hv, q H' t v k hd' hv⟩
def spMixed (K : PySem.W.Frag) : SpN := fun vs H Q => ∃ (d : Dr) (p : Addr) (cs : List Str), vs = [.ref d.1, .ref p] ∧ DrawAt K H d ∧ SqT K H p (cs.map V.str) ∧ (∀ c ∈ cs, PyData.strOk c = true) ∧ cs.length ≤ 100 ∧ ∀ (H' : Hp) (D : Addr) (zs : List Str), But d.1 H H' → DrawAt K H' d → H D = none → H' D = some (.lst (zs.map V.str)) → zs.Perm cs → Q (.ref D) H'
abbrev s__law_mixed : Stmt := topS 89
abbrev N__law_mixed : List Str := ["_law_row", "_law_things", "_law_left", "_law_found"]
theorem sc__law_mixed : FnScope N__law_mixed ["_law_row", "_law_things"] (defScope s__law_mixed) := ⟨rfl, rfl, rfl, by decide +kernel, rfl, by decide +kernel, by decide +kernel⟩
-- cells: []; calls: ['_law_taken']
theorem cal__law_mixed (B : Base K mg) : Cal P w K mg base 2 "_law_mixed" (spMixed K) := by
  refine B.d__law_mixed.ok sc__law_mixed (fun vs H Q h => ?_) (fun f cdv A outer s H vs Q E hr h => ?_)
  · obtain ⟨d, p, cs, rfl, _⟩ := h
    rfl
  · obtain ⟨d, p, cs, rfl, hd, hp, ok, c1, q⟩ := h
    obtain ⟨ds, hrw⟩ := hd.lst
    refine ⟨_, (pss_cons (ps_par (i := 2) (j := 3) rfl sc__law_mixed.nd rfl rfl (by decide) rfl rfl (pa_cons (pe_callTy call_listN rfl B.f_list (by decide +kernel) (pa_cons (pv 1) pa_nil)) (pa_cons (pe_lstN pa_nil) pa_nil)) rfl)
    (pss_cons (ps_while PassesOwn.never (pt_cmpR (op_neD hr.units) (pv 2) (pe_lstN pa_nil) (nomark _)) (
        (pss_one (ps_expr (pe_bm PySem.F.plainAttrs_list PySem.F.slot_list_append PySem.F.type_list_append mt_append (pv 3) (pa_cons (pe_bm PySem.F.plainAttrs_list PySem.F.slot_list_pop PySem.F.type_list_pop mt_popAt (pv 2) (pa_cons (pe_c (cal__law_taken B) hr (by decide) rfl (pa_cons (pv 0) (pa_cons (pe_callB call_len rfl B.f_len boot_len (pa_cons (pv 2) pa_nil)) pa_nil))) pa_nil)) pa_nil)))
        )))
    (pss_one (ps_ret (pv 3))
    ))), ?_⟩
    refine ⟨_, rfl, _, _, rfl, .inr hp, fun L H1 nL e1 hL => ⟨small (by simp), fun F H2 nF e2 hF => ?_⟩⟩
    have nFH : H F = none := e1.free nF
    have LF : L ≠ F := fun z => by rw [z, nF] at hL; cases hL
    have oL := hd.new nL
    have oF := hd.new nFH
    have Lr : L ≠ d.1 := oL.1
    have Fr : F ≠ d.1 := oF.1
    refine ⟨_, _, rfl, fun m σ H3 => ∃ (ls fs : List Str), m = ls.length ∧ σ = [some (.ref d.1), some (.ref p), some (.ref L), some (.ref F)] ∧ But d.1 H H3 ∧ DrawAt K H3 d ∧ H3 L = some (.lst (ls.map V.str)) ∧ H3 F = some (.lst (fs.map V.str)) ∧ (fs ++ ls).Perm cs,
      ⟨_, cs, [], rfl, rfl, But.of (e1.trans e2), hd.same (e1.trans e2), e2 _ _ hL, hF, List.Perm.refl _⟩, ?_⟩
    rintro _ σ H3 ⟨ls, fs, rfl, rfl, k3, d3, hL3, hF3, pm⟩
    have lsub : ∀ z ∈ ls, z ∈ cs := fun z hz => pm.subset (List.mem_append_right _ hz)
    have lc : fs.length + ls.length = cs.length := by rw [← List.length_append]; exact pm.length_eq
    refine ⟨_, rfl, small (by simp), fun D H4 nD e4 hD => ?_⟩
    have ss : ∀ x ∈ ls.map PyData.str, Sh 0 x := fun x hx => by
      obtain ⟨z, hz, rfl⟩ := List.mem_map.mp hx
      exact Sh.str (ok z (lsub z hz))
    refine rNe_nil (ls.map PyData.str) 0 (by decide) (SqL.of (e4 _ _ hL3)) (SqL.of hD) (DpAll.map (fun a => .str a) _) ss ⟨_, rfl, ?_⟩
    by_cases hl : ls = []
    · rw [decide_eq_true (show ls.map V.str = [] by rw [hl]; rfl)]
      refine iteF ⟨_, rfl, q H4 F fs (k3.trans (But.of e4)) (d3.same e4) nFH (e4 _ _ hF3) ?_⟩
      rw [hl, List.append_nil] at pm
      exact pm
    · have lp : 1 ≤ ls.length := List.length_pos_iff.mpr hl
      rw [decide_eq_false (fun z => hl (List.map_eq_nil_iff.mp z))]
      refine iteT ⟨fun σ H' => ∃ m', m' < ls.length ∧ ∃ (ls' fs' : List Str), m' = ls'.length ∧ σ = [some (.ref d.1), some (.ref p), some (.ref L), some (.ref F)] ∧ But d.1 H H' ∧ DrawAt K H' d ∧ H' L = some (.lst (ls'.map V.str)) ∧ H' F = some (.lst (fs'.map V.str)) ∧ (fs' ++ ls').Perm cs, fun σ' H' h => h, ?_⟩
      refine ⟨_, rfl, .inl ⟨rfl, _, SqL.of (e4 _ _ hF3)⟩, _, rfl, .inl ⟨rfl, _, SqL.of (e4 _ _ hL3)⟩, _, rfl, _, rfl, _, _, rfl, .inl ⟨_, SqL.of (e4 _ _ hL3), rfl⟩, d, _, rfl, d3.same e4, by rw [List.length_map]; exact lp, by rw [List.length_map]; omega, fun H5 t k5 d5 ht => ?_⟩
      rw [List.length_map] at ht
      have hL5 := k5 _ _ Lr (e4 _ _ hL3)
      have hF5 := k5 _ _ Fr (e4 _ _ hF3)
      obtain ⟨z, hz⟩ : ∃ z, ls[t]? = some z := ⟨_, List.getElem?_eq_getElem ht⟩
      refine ⟨_, _, _, t, V.str z, rfl, rfl, hL5, by omega, by omega, by rw [List.length_map]; exact seq_nat ht, map_get hz, ?_⟩
      generalize hh : upd H5 L _ = H6
      have k6 : But L H5 H6 := by rw [← hh]; exact But.upd _ _ _
      have hL6 : H6 L = some (.lst ((ls.eraseIdx t).map V.str)) := by rw [← hh, upd_same, map_erase]
      clear hh
      have hF6 := k6 _ _ LF.symm hF5
      refine ⟨_, _, _, rfl, rfl, hF6, small' (by rw [List.length_map]; omega), ls.length - 1, by omega, ls.eraseIdx t, fs ++ [z], by rw [List.length_eraseIdx_of_lt ht], rfl, ?_, ?_, ?_, ?_, ?_⟩
      · exact fun b o nb hb => by
          rw [upd_ne (fun z => by rw [z, nFH] at hb; cases hb)]
          exact k6 b o (fun z => by rw [z, nL] at hb; cases hb) (k5 b o nb (e4 _ _ (k3 b o nb hb)))
      · exact (d5.but k6 oL).but (But.upd _ _ _) oF
      · rw [upd_ne LF]; exact hL6
      · rw [upd_same, List.map_append]; rfl
      · rw [List.append_assoc]
        refine (List.Perm.append_left fs ?_).trans pm
        have := (List.getElem?_eq_some_iff.mp hz).2
        rw [← this]
        exact perm_erase ht
end
end CC

/-! text E3 -/
namespace CC
open PySem PySem.Spec PyProof.Rows L2
/-! ### the law's stores -/
def SchemeV (K : PySem.W.Frag) (H : Hp) (v : V) (ds : List Door) (cs : List Str) : Prop := ∃ p d c, v = .ref p ∧ SqT K H p [.ref d, .ref c] ∧ DoorsV K H (.ref d) ds ∧ SqT K H c (cs.map V.str)
def fiveNames : List Str := [Str.ofString "fig", Str.ofString "jam", Str.ofString "kiwi", Str.ofString "lime", Str.ofString "plum"]
theorem five_words : ∀ c ∈ fiveNames, 1 ≤ c.length ∧ c.length ≤ 8 ∧ ∀ x ∈ c.cps.toList, x ∈ letters.cps.toList := by decide +kernel
theorem five_up : ∀ i < 4, ltS (fiveNames.getD i "") (fiveNames.getD (i + 1) "") = true := by decide +kernel
theorem five_ok {k n : Nat} (h1 : 1 ≤ k) (h5 : k ≤ 5) (hn : k ≤ n) : OkCrates (fiveNames.take k) n := by
  have l5 : fiveNames.length = 5 := rfl
  have tl : (fiveNames.take k).length = k := by rw [List.length_take]; omega
  refine ⟨by omega, by omega, by omega, fun c hc => five_words c (List.mem_of_mem_take hc), fun i a b ha hb => ?_⟩
  have hi := (List.getElem?_eq_some_iff.mp hb).1
  rw [tl] at hi
  rw [List.getElem?_take_of_lt (by omega)] at ha hb
  have := five_up i (by omega)
  rw [List.getD_eq_getElem?_getD, List.getD_eq_getElem?_getD, ha, hb] at this
  exact this
section
variable {P : Program} {w : World} {K : PySem.W.Frag} {mg : Str → Option Value} {base : Heap} {C : Addr}
def spScheme (K : PySem.W.Frag) : SpN := fun vs H Q => ∃ (d : Dr) (m c : Nat), vs = [.ref d.1, nV m, nV c] ∧ DrawAt K H d ∧ 1 ≤ m ∧ m ≤ 6 ∧ 1 ≤ c ∧ c ≤ 5 ∧ ∀ (H' : Hp) (v : V) (ds : List Door) (cs : List Str), But d.1 H H' → DrawAt K H' d → SchemeV K H' v ds cs → OkDoors ds → OkCrates cs (places ds) → Q v H'
abbrev s__law_scheme : Stmt := topS 90
abbrev N__law_scheme : List Str := ["_law_row", "_law_most", "_law_crates", "_law_found", "_law_left", "_law_count", "_law_size", "_law_door"]
theorem sc__law_scheme : FnScope N__law_scheme ["_law_row", "_law_most", "_law_crates"] (defScope s__law_scheme) := ⟨rfl, rfl, rfl, by decide +kernel, rfl, by decide +kernel, by decide +kernel⟩
-- cells: []; calls: ['_law_taken']
theorem cal__law_scheme (B : Base K mg) : Cal P w K mg base 2 "_law_scheme" (spScheme K) := by
  refine B.d__law_scheme.ok sc__law_scheme (fun vs H Q h => ?_) (fun f cdv A outer s H vs Q E hr h => ?_)
  · obtain ⟨d, m, c, rfl, _⟩ := h
    rfl
  · obtain ⟨d, m, c, rfl, hd, m1, m6, c1, c5, q⟩ := h
    refine ⟨_, (pss_cons (ps_par (i := 3) (j := 4) rfl sc__law_scheme.nd rfl rfl (by decide) rfl rfl (pa_cons (pe_lstN pa_nil) (pa_cons (pe_op op_add pe_int (pe_c (cal__law_taken B) hr (by decide) rfl (pa_cons (pv 0) (pa_cons (pv 1) pa_nil)))) pa_nil)) rfl)
    (pss_cons (ps_while PassesOwn.never (PW.pt (pw_and (pt_cmpR op_gt (pv 4) pe_int (nomark _)) (pw_and1 (pt_cmpR op_lt (pe_callB call_len rfl B.f_len boot_len (pa_cons (pv 3) pa_nil)) pe_int (nomark _))))) (
        (pss_cons (ps_set (i := 5) sc__law_scheme.nd rfl (.inl rfl) (pe_callB (call_min2 rfl) rfl B.f_min (by decide +kernel) (pa_cons (pv 4) (pa_cons (pe_op op_add pe_int (pe_c (cal__law_taken B) hr (by decide) rfl (pa_cons (pv 0) (pa_cons pe_int pa_nil)))) pa_nil))))
        (pss_cons (ps_expr (pe_bm PySem.F.plainAttrs_list PySem.F.slot_list_append PySem.F.type_list_append mt_append (pv 3) (pa_cons (pe_tupF (pa_cons (pe_op op_add pe_int (pe_c (cal__law_taken B) hr (by decide) rfl (pa_cons (pv 0) (pa_cons pe_int pa_nil)))) (pa_cons (pv 5) pa_nil))) pa_nil)))
        (pss_one (ps_set (i := 4) sc__law_scheme.nd rfl (.inl rfl) (pe_op op_sub (pv 4) (pv 5)))
        )))))
    (pss_cons (ps_set (i := 6) sc__law_scheme.nd rfl (.inl rfl) (pe_callB (cr_sum rfl) rfl B.f_sum (by decide +kernel) (pa_cons (pe_lcX (own := [("_law_door", 7)]) rfl sc__law_scheme.nd (pi_list (pv 3)) (blkOk_by (own := [("_law_door", 7)]) (N := N__law_scheme) (sc := defScope s__law_scheme) (by decide +kernel)) (fun _ _ _ _ _ => (pg_name (i := 7) sc__law_scheme.nd rfl (.inl rfl))) (fun _ _ _ _ _ => pts_nil) (fun _ _ _ _ _ => (pe_ix ix_tup (pv 7) pe_int (fun _ _ => rfl)))) pa_nil)))
    (pss_cons (ps_set (i := 5) sc__law_scheme.nd rfl (.inl rfl) (pe_callB (call_min2 rfl) rfl B.f_min (by decide +kernel) (pa_cons (pe_op op_add pe_int (pe_c (cal__law_taken B) hr (by decide) rfl (pa_cons (pv 0) (pa_cons (pv 2) pa_nil)))) (pa_cons (pv 6) pa_nil))))
    (pss_one (ps_ret (pe_tupF (pa_cons (pe_callTy call_tupleF rfl B.f_tuple (by decide +kernel) (pa_cons (pv 3) pa_nil)) (pa_cons (pe_callTy call_tupleF rfl B.f_tuple (by decide +kernel) (pa_cons (pe_slice sl_list (pe_lstN (pa_cons pe_str (pa_cons pe_str (pa_cons pe_str (pa_cons pe_str (pa_cons pe_str pa_nil)))))) po_none (po_some (pv 5))) pa_nil)) pa_nil))))
    ))))), ?_⟩
    refine ⟨small (by simp), fun F H1 nF e1 hF => ?_⟩
    have oF := hd.new nF
    refine ⟨_, rfl, _, rfl, d, m, rfl, hd.same e1, m1, by omega, fun H2 t k2 d2 ht => ⟨_, _, rfl, rfl, _, _, rfl, ?_⟩⟩
    refine ⟨fun n σ H3 => ∃ (lf : Nat) (us : List V) (ds : List Door), n = lf ∧ (∃ j5 j6 j7, σ = [some (.ref d.1), some (nV m), some (nV c), some (.ref F), some (nV lf), j5, j6, j7]) ∧ But d.1 H H3 ∧ DrawAt K H3 d ∧ H3 F = some (.lst us) ∧ Paired (DoorV K H3) us ds ∧ (∀ x ∈ ds, OkDoor x) ∧ ds.length ≤ 4 ∧ places ds + lf ≤ m ∧ (ds = [] → 1 ≤ lf),
      ⟨_, 1 + t, [], [], rfl, ⟨none, none, none, rfl⟩, (But.of e1).trans k2, d2, k2 _ _ oF.1 hF, .nil, fun _ h => (nomatch h), by simp, ?_, fun _ => by omega⟩, ?_⟩
    · show 0 + (1 + t) ≤ m
      omega
    rintro lf σ H3 ⟨_, us, ds, rfl, ⟨j5, j6, j7, rfl⟩, k3, d3, hF3, p3, okd, l4, pm, ne⟩
    have len := Paired.len p3
    have pl : places ds ≤ 6 := by omega
    obtain ⟨xs, hrw⟩ := hd.lst
    refine ⟨_, rfl, _, _, rfl, rfl, _, rfl, ?_⟩
    have exit : ds ≠ [] → ∀ Qx : Prop, True → True := fun _ _ _ => trivial
    by_cases go : 0 < lf ∧ ds.length < 4
    · obtain ⟨g1, g2⟩ := go
      rw [decide_eq_true (show (0 : Int) < ((lf : Nat) : Int) by omega)]
      refine iteT ⟨_, rfl, _, _, rfl, .inl ⟨_, SqL.of hF3, rfl⟩, _, _, rfl, rfl, _, rfl, ?_⟩
      rw [decide_eq_true (show ((us.length : Nat) : Int) < 4 by omega)]
      refine iteT ⟨fun σ' H' => ∃ n, n < lf ∧ ∃ (lf : Nat) (us : List V) (ds : List Door), n = lf ∧ (∃ j5 j6 j7, σ' = [some (.ref d.1), some (nV m), some (nV c), some (.ref F), some (nV lf), j5, j6, j7]) ∧ But d.1 H H' ∧ DrawAt K H' d ∧ H' F = some (.lst us) ∧ Paired (DoorV K H') us ds ∧ (∀ x ∈ ds, OkDoor x) ∧ ds.length ≤ 4 ∧ places ds + lf ≤ m ∧ (ds = [] → 1 ≤ lf), fun σ' H' h => h, ?_⟩
      refine ⟨_, rfl, _, rfl, d, 3, rfl, d3, by decide, by decide, fun H4 t4 k4 d4 ht4 => ⟨_, _, rfl, rfl, _, _, rfl, ?_⟩⟩
      obtain ⟨cnt, ec, cn1, cn2, cn3⟩ : ∃ cnt : Nat, (if 1 + ((t4 : Nat) : Int) < ((lf : Nat) : Int) then 1 + ((t4 : Nat) : Int) else ((lf : Nat) : Int)) = ((cnt : Nat) : Int) ∧ 1 ≤ cnt ∧ cnt ≤ lf ∧ cnt ≤ 3 := by
        split
        · exact ⟨1 + t4, by omega, by omega, by omega, by omega⟩
        · exact ⟨lf, by omega, by omega, by omega, by omega⟩
      refine ⟨_, rfl, .inl ⟨rfl, _, SqL.of (k4 _ _ oF.1 hF3)⟩, _, rfl, d, 9, rfl, d4, by decide, by decide, fun H5 t5 k5 d5 ht5 => ⟨_, _, rfl, rfl, _, rfl, small (by simp), fun T H6 nT e6 hT => ?_⟩⟩
      have IF : Int := 0
      have e36 : ∀ b o, b ≠ d.1 → H3 b = some o → H6 b = some o := fun b o nb hb => e6 _ _ (k5 b o nb (k4 b o nb hb))
      have hF6 := e36 _ _ oF.1 hF3
      have hT : TupF H6 T [nV (1 + t5), nV cnt] := by
        rw [show nV cnt = V.int (if 1 + ((t4 : Nat) : Int) < ((lf : Nat) : Int) then 1 + ((t4 : Nat) : Int) else ((lf : Nat) : Int)) by rw [ec]; rfl]
        exact hT
      refine ⟨_, _, _, rfl, rfl, hF6, small' (by omega), _, rfl, _, rfl, _, _, rfl, rfl, lf - cnt, by omega, lf - cnt, us ++ [V.ref T], ds ++ [(1 + t5, cnt)], rfl, ⟨some (nV cnt), j6, j7, ?_⟩, ?_, ?_, upd_same, ?_, ?_, ?_, ?_, fun z => absurd z (by simp)⟩
      · show [some (.ref d.1), some (nV m), some (nV c), some (.ref F), some (V.int (((lf : Nat) : Int) - (if 1 + ((t4 : Nat) : Int) < ((lf : Nat) : Int) then 1 + ((t4 : Nat) : Int) else ((lf : Nat) : Int)))), some (V.int (if 1 + ((t4 : Nat) : Int) < ((lf : Nat) : Int) then 1 + ((t4 : Nat) : Int) else ((lf : Nat) : Int))), j6, j7] = _
        rw [ec, show ((lf : Nat) : Int) - ((cnt : Nat) : Int) = ((lf - cnt : Nat) : Int) by omega]
        rfl
      · exact fun b o nb hb => by
          rw [upd_ne (fun z => by rw [z, nF] at hb; cases hb)]
          exact e36 b o nb (k3 b o nb hb)
      · exact (d5.same e6).but (But.upd _ _ _) oF
      · have m6 : SameN H6 (upd H6 F (.lst (us ++ [V.ref T]))) := SameN.wr hF6
        obtain ⟨x3, hx3⟩ := d3.lst
        have k36 : But d.1 H3 H6 := e36
        exact Paired.snoc (Paired.imp (fun _ _ ⟨b, e, h⟩ => ⟨b, e, m6.tup (k36.tupL hx3 h)⟩) p3) ⟨T, rfl, m6.tup hT.sq⟩
      · intro x hx
        rcases List.mem_append.mp hx with h | h
        · exact okd x h
        · rw [List.mem_singleton.mp h]
          exact ⟨by show 1 ≤ 1 + t5; omega, by show 1 + t5 ≤ 99; omega, cn1, by show cnt ≤ 4; omega⟩
      · rw [List.length_append, List.length_singleton]; omega
      · unfold places at pm ⊢
        rw [List.map_append, List.sum_append]
        show _ + (cnt + 0) + (lf - cnt) ≤ m
        omega
    · have dne : ds ≠ [] := fun z => go ⟨ne z, by rw [z]; decide⟩
      refine if_two (fun g h => ⟨_, rfl, _, _, rfl, .inl ⟨_, SqL.of hF3, rfl⟩, _, _, rfl, rfl, false, congrArg V.bl (decide_eq_false (fun z => ?_)), iteF g⟩) (fun g h => iteF g) ?_
      · have z : ((us.length : Nat) : Int) < 4 := z
        have h := of_decide_eq_true h
        exact go ⟨by omega, by omega⟩
      refine ⟨_, rfl, _, rfl, ⟨_, SqL.of hF3⟩, ?_⟩
      refine comp_it walk_list ds (fun x => some ((x.2 : Nat) : Int)) (DoorV K) (fun _ v b => v = .int b) (fun _ _ _ _ _ h => h) len.symm (fun _ e => SqL.of (e _ _ hF3))
        (by omega) (fun i H4 y H' x hx hy e => ?_) (fun i x y H' Qy Qn hx e hs ky kn => ?_) (fun D H4 ys hD e4 g1 g2 => ?_)
      · obtain ⟨rfl, hy⟩ := hy
        obtain ⟨v', hv', hlv⟩ := Paired.get p3 hx
        rw [hy] at hv'
        cases hv'
        exact ⟨Same.refl _, hlv.mono e.n⟩
      · obtain ⟨b, rfl, hb⟩ := hs
        exact ⟨rfl, _, rfl, _, _, _, _, rfl, rfl, hb, rfl, ky _ _ _ rfl (Same.refl _) rfl⟩
      rw [fm_some] at g2
      refine ⟨_, _, rfl, SqL.of (by rw [g1, ints_of g2]), ?_⟩
      rw [sum_places]
      have dp : 1 ≤ places ds := by
        cases ds with
        | nil => exact absurd rfl dne
        | cons x r =>
          have := (okd x List.mem_cons_self).2.2.1
          show 1 ≤ ((x :: r).map (·.2)).sum
          rw [List.map_cons, List.sum_cons]
          omega
      refine ⟨_, rfl, _, rfl, d, c, rfl, d3.same e4, c1, by omega, fun H5 t5 k5 d5 ht5 => ⟨_, _, rfl, rfl, _, rfl, _, _, rfl, ?_⟩⟩
      obtain ⟨cnt, ec, cn1, cn2, cn3⟩ : ∃ cnt : Nat, (if ((places ds : Nat) : Int) < 1 + ((t5 : Nat) : Int) then ((places ds : Nat) : Int) else 1 + ((t5 : Nat) : Int)) = ((cnt : Nat) : Int) ∧ 1 ≤ cnt ∧ cnt ≤ 5 ∧ cnt ≤ places ds := by
        split
        · exact ⟨places ds, rfl, by omega, by omega, by omega⟩
        · exact ⟨1 + t5, by omega, by omega, by omega, by omega⟩
      have hF5 := k5 _ _ oF.1 (e4 _ _ hF3)
      refine ⟨_, rfl, _, _, rfl, SqL.of hF5, fun T1 H6 nT1 e6 hT1 => ⟨small (by simp), fun N H7 nN e7 hN => ⟨_, rfl, _, rfl, _, _, rfl, SqL.of hN, fun S2 nS2 => ?_⟩⟩⟩
      generalize hh : upd H7 S2 _ = H8
      obtain ⟨e8, hS2⟩ := upH hh nS2
      clear hh
      have hS2 : H8 S2 = some (.lst ((fiveNames.take cnt).map V.str)) := by
        rw [hS2]
        show some (HO.lst (cutV (fiveNames.map V.str) none (some (if ((places ds : Nat) : Int) < 1 + ((t5 : Nat) : Int) then ((places ds : Nat) : Int) else 1 + ((t5 : Nat) : Int))))) = _
        rw [ec]
        unfold cutV
        rw [HT.sIx_none, HT.sIx_nat, List.length_map, Nat.min_eq_left (show cnt ≤ fiveNames.length from cn2), List.drop_zero, Nat.sub_zero, List.map_take]
      refine ⟨_, _, rfl, SqL.of hS2, fun T2 H9 nT2 e9 hT2 => ⟨small (by simp), fun T3 H10 nT3 e10 hT3 => ?_⟩⟩
      have e510 := (((e6.trans e7).trans e8).trans e9).trans e10
      have k310 : But d.1 H3 H10 := fun b o nb hb => e510 _ _ (k5 b o nb (e4 _ _ hb))
      refine q H10 _ ds (fiveNames.take cnt) (k3.trans k310) (d5.same e510) ⟨T3, T1, T2, rfl, hT3.sq, ⟨T1, us, rfl, (hT1.mono ((((e7.trans e8).trans e9).trans e10).n)).sq, ?_⟩, (hT2.mono e10.n).sq⟩ ⟨List.length_pos_iff.mpr dne, l4, okd, pl⟩ (five_ok cn1 cn2 cn3)
      obtain ⟨x3, hx3⟩ := d3.lst
      exact Paired.imp (fun _ _ ⟨b, e, h⟩ => ⟨b, e, k310.tupL hx3 h⟩) p3
end
end CC

/-! text E4 -/
namespace CC
open PySem PySem.Spec PyProof.Rows L2
theorem SchemeV.mono {K : PySem.W.Frag} {H H' : Hp} {v : V} {ds : List Door} {cs : List Str} (e : SameN H H') (h : SchemeV K H v ds cs) : SchemeV K H' v ds cs := by
  obtain ⟨p, d, c, rfl, h1, h2, h3⟩ := h
  exact ⟨p, d, c, rfl, e.tup h1, h2.mono e, e.tup h3⟩
section
variable {P : Program} {w : World} {K : PySem.W.Frag} {mg : Str → Option Value} {base : Heap} {C : Addr}
def spLStore (K : PySem.W.Frag) (C : Addr) : SpN := fun vs H Q => ∃ (v : V) (ds : List Door) (cs : List Str), vs = [v] ∧ SchemeV K H v ds cs ∧ OkDoors ds ∧ OkCrates cs (places ds) ∧ ∀ H' a, Same H H' → StoreAt K C H' a ds cs → Q (.ref a) H'
abbrev s__law_store : Stmt := topS 91
abbrev N__law_store : List Str := ["_law_s"]
theorem sc__law_store : FnScope N__law_store ["_law_s"] (defScope s__law_store) := ⟨rfl, rfl, rfl, by decide +kernel, rfl, by decide +kernel, by decide +kernel⟩
-- cells: []; calls: ['Store.__init__']
theorem cal__law_store (B : Base K mg) (S : StoreB K mg C) : Cal P w K mg base 6 "_law_store" (spLStore K C) := by
  refine B.d__law_store.ok sc__law_store (fun vs H Q h => ?_) (fun f cdv A outer s H vs Q E hr h => ?_)
  · obtain ⟨v, ds, cs, rfl, _⟩ := h
    rfl
  · obtain ⟨v, ds, cs, rfl, ⟨p, d, c, rfl, h1, h2, h3⟩, okd, okc, q⟩ := h
    refine ⟨_, (pss_one (ps_ret (pe_mkN (mak_Store B S) hr (by decide) rfl (pa_cons (pe_ix ix_tup (pv 0) pe_int (fun _ _ => rfl)) (pa_cons (pe_ix ix_tup (pv 0) pe_int (fun _ _ => rfl)) pa_nil))))
    ), ?_⟩
    refine ⟨_, rfl, _, _, _, _, rfl, rfl, h1, rfl, _, rfl, _, _, _, _, rfl, rfl, h1, rfl, fun y dy ny ndy ney => ?_⟩
    generalize hh : upd (upd H dy (.own y)) y (.ins C dy []) = H7
    have hy7 : H7 y = some (.ins C dy []) := by rw [← hh]; exact upd_same
    have hdy7 : H7 dy = some (.own y) := by rw [← hh, upd_ne ney]; exact upd_same
    have e7 : Same H H7 := fun b o hb => by
      rw [← hh, upd_ne (fun z => by rw [z, ny] at hb; cases hb), upd_ne (fun z => by rw [z, ndy] at hb; cases hb)]
      exact hb
    clear hh
    exact ⟨y, dy, d, c, ds, cs, rfl, hy7, hdy7, ney, h2.mono e7.n, okd, e7.tup h3, okc, fun H8 k8 st => ⟨rfl, q H8 y (fun b o hb => k8 b o (fun z => by rw [z, ny] at hb; cases hb) (fun z => by rw [z, ndy] at hb; cases hb) (e7 _ _ hb)) st⟩⟩
def spLEdges (K : PySem.W.Frag) : SpN := fun vs H Q => ∃ (v : V) (ds : List Door) (cs : List Str), vs = [v] ∧ SchemeV K H v ds cs ∧ OkDoors ds ∧ ∀ H' r, Same H H' → H r = none → H' r = some (.lst ((edges ds).map nV)) → Q (.ref r) H'
abbrev s__law_edges : Stmt := topS 92
abbrev N__law_edges : List Str := ["_law_s", "_law_found", "_law_k"]
theorem sc__law_edges : FnScope N__law_edges ["_law_s"] (defScope s__law_edges) := ⟨rfl, rfl, rfl, by decide +kernel, rfl, by decide +kernel, by decide +kernel⟩
-- cells: []; calls: []
theorem cal__law_edges (B : Base K mg) : Cal P w K mg base 1 "_law_edges" (spLEdges K) := by
  refine B.d__law_edges.ok sc__law_edges (fun vs H Q h => ?_) (fun f cdv A outer s H vs Q E hr h => ?_)
  · obtain ⟨v, ds, cs, rfl, _⟩ := h
    rfl
  · obtain ⟨v, ds, cs, rfl, ⟨p, d, c, rfl, h1, ⟨d', as, ed, ht, hp⟩, h3⟩, okd, q⟩ := h
    cases ed
    have len := Paired.len hp
    have l4 := okd.2.1
    refine ⟨_, (pss_cons (ps_set (i := 1) sc__law_edges.nd rfl (.inl rfl) (pe_lstN pa_nil))
    (pss_cons (ps_for PassesOwn.never rfl (pi_range1 rfl B.f_range (pa_cons (pe_callB call_len rfl B.f_len boot_len (pa_cons (pe_ix ix_tup (pv 0) pe_int (fun _ _ => rfl)) pa_nil)) pa_nil)) (pg_name (i := 2) sc__law_edges.nd rfl (.inl rfl)) (
        (pss_one (ps_set (i := 1) sc__law_edges.nd rfl (.inl rfl) (pe_op op_catN (pv 1) (pe_op op_repN (pe_lstN (pa_cons (pv 2) pa_nil)) (pe_ix ix_tup (pe_ix ix_tup (pe_ix ix_tup (pv 0) pe_int (fun _ _ => rfl)) (pv 2) (fun _ _ => rfl)) pe_int (fun _ _ => rfl)))))
        )))
    (pss_one (ps_ret (pv 1))
    ))), ?_⟩
    refine ⟨small (by simp), fun F H1 nF e1 hF => ?_⟩
    refine ⟨_, rfl, _, _, _, _, rfl, rfl, e1.tup h1, rfl, _, _, rfl, .inr ⟨_, e1.tup ht, rfl⟩, _, rfl, by omega, by omega, ?_⟩
    have hpl : ((as.length : Nat) : Int).toNat = as.length := Int.toNat_natCast _
    refine for_it walk_rng (fun i σ H3 => ∃ r, (∃ j2, σ = [some (.ref p), some (.ref r), j2]) ∧ Same H H3 ∧ H r = none ∧ H3 r = some (.lst ((edges (ds.take i)).map nV))) ⟨F, ⟨_, rfl⟩, e1, nF, hF⟩
      (fun _ _ _ _ _ => trivial) (fun i y σ H4 H3 hi p => ?_) (fun σ H3 p => ?_)
    · intro hy
      obtain ⟨r, ⟨j2, rfl⟩, e3, nr, hr3⟩ := p
      obtain ⟨rfl, rfl⟩ := hy
      rw [hpl] at hi
      obtain ⟨dd, hdd⟩ : ∃ dd, ds[i]? = some dd := ⟨_, List.getElem?_eq_getElem (by omega)⟩
      obtain ⟨x, hx, b, rfl, hb⟩ := Paired.get hp hdd
      have okk := okd.2.2.1 dd (List.mem_of_getElem? hdd)
      refine ⟨_, rfl, _, rfl, small (by simp), fun M H5 nM e5 hM => ?_⟩
      have e35 := e3.trans e5
      refine ⟨_, rfl, _, _, _, _, rfl, rfl, e35.tup h1, rfl, _, rfl, _, _, _, _, rfl, rfl, e35.tup ht, atI_nat hx, _, _, _, _, rfl, rfl, e35.tup hb, rfl, ?_⟩
      refine ⟨_, dd.2, _, rfl, rfl, hM, by have := okk.2.2.2; omega, by simp, fun R H6 nR e6 hR => ?_⟩
      have hr6 := e6 _ _ (e5 _ _ hr3)
      have tk : (edges (ds.take i)).length ≤ 6 := by
        rw [edges_len]
        have : places ds ≤ 6 := places_le okd
        unfold places at this ⊢
        have := e_sum ds i
        omega
      refine ⟨_, _, _, _, rfl, rfl, hr6, hR, small (by simp; have := okk.2.2.2; omega), fun N H7 nN e7 hN => ⟨N, ⟨_, rfl⟩, (e35.trans e6).trans e7, (e35.trans e6).free nN, ?_⟩⟩
      rw [hN, take_succ_get hdd]
      unfold edges
      rw [edgesFrom_snoc, List.map_append, List.map_replicate]
      have tl : (ds.take i).length = i := by
        rw [List.length_take]
        have := (List.getElem?_eq_some_iff.mp hdd).1
        omega
      rw [Nat.zero_add, tl]
      have rep : (List.replicate dd.2 [nV i]).flatten = List.replicate dd.2 (nV i) := by
        generalize dd.2 = n
        induction n with
        | zero => rfl
        | succ n ih => rw [List.replicate_succ, List.flatten_cons, ih]; rfl
      rw [rep]
    · obtain ⟨r, ⟨j2, rfl⟩, e3, nr, hr3⟩ := p
      rw [hpl, len, List.take_length] at hr3
      exact ⟨_, rfl, q H3 r e3 nr hr3⟩
def spLSeen (K : PySem.W.Frag) : SpN := fun vs H Q => ∃ (v u : V) (ds : List Door) (cs : List Str) (l : Lay) (d : Nat), vs = [v, u, nV d] ∧ SchemeV K H v ds cs ∧ OkDoors ds ∧ LayV H u l ∧ l.length = places ds ∧ ∀ H' r, Same H H' → LayV H' r (seen ds l d) → Q r H'
abbrev s__law_seen : Stmt := topS 95
abbrev N__law_seen : List Str := ["_law_s", "_law_layout", "_law_door", "_law_edges_here", "_law_k"]
theorem sc__law_seen : FnScope N__law_seen ["_law_s", "_law_layout", "_law_door"] (defScope s__law_seen) := ⟨rfl, rfl, rfl, by decide +kernel, rfl, by decide +kernel, by decide +kernel⟩
-- cells: ['_law_door', '_law_edges_here', '_law_layout']; calls: ['_law_edges']
theorem cal__law_seen (B : Base K mg) : Cal P w K mg base 2 "_law_seen" (spLSeen K) := by
  refine B.d__law_seen.ok sc__law_seen (fun vs H Q h => ?_) (fun f cdv A outer s H vs Q E hr h => ?_)
  · obtain ⟨v, u, ds, cs, l, d, rfl, _⟩ := h
    rfl
  · obtain ⟨v, u, ds, cs, l, d, rfl, sv, okd, ⟨b, rfl, hb⟩, hl, q⟩ := h
    have n6 : places ds ≤ 6 := places_le okd
    have he : (edges ds).length = places ds := edges_len ds
    refine ⟨_, (pss_cons (ps_set (i := 3) sc__law_seen.nd rfl (.inr rfl) (pe_c (cal__law_edges B) hr (by decide) rfl (pa_cons (pv 0) pa_nil)))
    (pss_one (ps_ret (pe_callTy call_tupleF rfl B.f_tuple (by decide +kernel) (pa_cons (pe_lcX (own := [("_law_k", 4)]) rfl sc__law_seen.nd (pi_range1 rfl B.f_range (pa_cons (pe_callB call_len rfl B.f_len boot_len (pa_cons (pv 1) pa_nil)) pa_nil)) (blkOk_by (own := [("_law_k", 4)]) (N := N__law_seen) (sc := defScope s__law_seen) (by decide +kernel)) (fun _ _ _ _ _ => (pg_name (i := 4) sc__law_seen.nd rfl (.inl rfl))) (fun _ _ _ _ _ => (pts_one (pt_cmpR op_eq (pe_ix ix_list (pv 3) (pv 4) (fun _ _ => rfl)) (pv 2) (nomark _)))) (fun _ _ _ _ _ => (pe_ix ix_tup (pv 1) (pv 4) (fun _ _ => rfl)))) pa_nil)))
    )), ?_⟩
    refine ⟨_, rfl, v, ds, cs, rfl, sv, okd, fun H1 r e1 nr hr1 => ?_⟩
    refine ⟨_, rfl, _, _, rfl, .inr ⟨_, (hb.mono e1.n).sq, rfl⟩, _, rfl, by rw [List.length_map]; omega, by rw [List.length_map]; omega, ?_⟩
    have hpl : (((l.map oV).length : Nat) : Int).toNat = (l.map oV).length := Int.toNat_natCast _
    have zl : (l.zip (edges ds)).length = l.length := by rw [List.length_zip, hl, he, Nat.min_self]
    refine comp_it walk_rng (l.zip (edges ds)) (fun p => if p.2 = d then some p.1 else none) (fun _ v p => ∃ i, v = nV i ∧ (l.zip (edges ds))[i]? = some p) (fun _ v b => v = oV b) (fun _ _ _ _ _ h => h) (by rw [hpl, zl, List.length_map]) (fun _ _ => trivial)
      (by rw [hpl, List.length_map]; omega) (fun i H2 x H' j hj hy e => ?_) (fun i j x H' Qy Qn hj e hs ky kn => ?_) (fun D H' ys hD e g1 g2 => ?_)
    · obtain ⟨rfl, rfl⟩ := hy
      exact ⟨Same.refl _, i, rfl, hj⟩
    · obtain ⟨k, rfl, hk⟩ := hs
      obtain ⟨z1, z2⟩ := List.getElem?_zip_eq_some.mp hk
      refine ⟨rfl, _, rfl, _, rfl, _, _, _, _, rfl, rfl, SqL.of (e _ _ hr1), atI_nat (map_get z2), _, rfl, rfl, ?_⟩
      by_cases hnd : j.2 = d
      · exact ⟨true, bl_t (by rw [hnd]), iteT ⟨_, rfl, _, rfl, _, _, _, _, rfl, rfl, (hb.mono (e1.trans e).n).sq, atI_nat (map_get z1), ky _ _ _ (if_pos hnd) (Same.refl _) rfl⟩⟩
      · exact ⟨false, bl_f (nV_ne hnd), iteF (kn (if_neg hnd) _ (Same.refl _))⟩
    · rw [fm_filter_map] at g2
      refine ⟨_, _, rfl, SqL.of g1, fun T H2 nT e2 hT => ?_⟩
      exact q _ _ ((e1.trans e).trans e2) ⟨T, rfl, by rwa [lay_of g2] at hT⟩
def spLTurned (K : PySem.W.Frag) : SpN := fun vs H Q => ∃ v l i j, vs = [v, nV i, nV j] ∧ LayV H v l ∧ i < l.length ∧ j < l.length ∧ l.length ≤ 100 ∧ ∀ H' r, Same H H' → LayV H' r (swapL l i j) → Q r H'
abbrev s__law_turned : Stmt := topS 96
abbrev N__law_turned : List Str := ["_law_layout", "_law_one", "_law_other", "_law_found"]
theorem sc__law_turned : FnScope N__law_turned ["_law_layout", "_law_one", "_law_other"] (defScope s__law_turned) := ⟨rfl, rfl, rfl, by decide +kernel, rfl, by decide +kernel, by decide +kernel⟩
-- cells: []; calls: []
theorem cal__law_turned (B : Base K mg) : Cal P w K mg base 1 "_law_turned" (spLTurned K) := by
  refine B.d__law_turned.ok sc__law_turned (fun vs H Q h => ?_) (fun f cdv A outer s H vs Q E hr h => ?_)
  · obtain ⟨v, l, i, j, rfl, _⟩ := h
    rfl
  · obtain ⟨v, l, i, j, rfl, ⟨b, rfl, hb⟩, hi, hj, l1, q⟩ := h
    refine ⟨_, (pss_cons (ps_set (i := 3) sc__law_turned.nd rfl (.inl rfl) (pe_callTy call_listN rfl B.f_list (by decide +kernel) (pa_cons (pv 0) pa_nil)))
    (pss_cons (ps_asg (pe_tupF (pa_cons (pe_ix ix_tup (pv 0) (pv 2) (fun _ _ => rfl)) (pa_cons (pe_ix ix_tup (pv 0) (pv 1) (fun _ _ => rfl)) pa_nil))) (pg_tup rfl (pgs_cons (pg_sub (pv 3) (pv 1) set_list) (pgs_cons (pg_sub (pv 3) (pv 2) set_list) pgs_nil))))
    (pss_one (ps_ret (pe_callTy call_tupleF rfl B.f_tuple (by decide +kernel) (pa_cons (pv 3) pa_nil)))
    ))), ?_⟩
    refine ⟨_, rfl, _, _, rfl, .inr hb.sq, fun L H1 nL e1 hL => ?_⟩
    have gi := map_get (f := oV) (getD_get hi)
    have gj := map_get (f := oV) (getD_get hj)
    have hb1 := (hb.mono e1.n).sq (K := K)
    refine ⟨_, rfl, _, rfl, _, _, _, _, rfl, rfl, hb1, atI_nat gj, _, rfl, _, rfl, _, _, _, _, rfl, rfl, hb1, atI_nat gi, small (by simp), fun T H2 nT e2 hT => ?_⟩
    refine ⟨_, _, rfl, hT.sq, rfl, _, _, rfl, _, rfl, _, rfl, _, _, _, _, rfl, rfl, e2 _ _ hL, ixN_nat (by rw [List.length_map]; exact hi), ?_⟩
    refine ⟨_, _, rfl, _, rfl, _, rfl, _, _, _, _, rfl, rfl, upd_same, ixN_nat (by rw [List.length_set, List.length_map]; exact hj), rfl, ?_⟩
    refine ⟨_, rfl, _, _, rfl, SqL.of upd_same, fun T3 H3 nT3 e3 hT3 => ?_⟩
    have e03 : Same H H3 := Same.trans (((e1.trans e2).mut nL).mut nL) e3
    refine q _ _ e03 ⟨T3, rfl, ?_⟩
    unfold swapL
    rw [List.map_set, List.map_set]
    exact hT3
end
end CC

/-! text E5 -/
namespace CC
open PySem PySem.Spec PyProof.Rows L2
theorem cnt_none (l : Lay) : ((l.map oV).countP fun z => eqV z V.non) = nones l := by
  unfold nones
  rw [List.countP_map]
  refine List.countP_congr fun o _ => ?_
  show eqV (oV o) (oV none) = true ↔ _
  rw [eqV_oV]
section
variable {P : Program} {w : World} {K : PySem.W.Frag} {mg : Str → Option Value} {base : Heap} {C : Addr}
abbrev s__law_rank : Stmt := topS 93
abbrev N__law_rank : List Str := ["_law_layout", "_law_name"]
theorem sc__law_rank : FnScope N__law_rank ["_law_layout"] (defScope s__law_rank) := ⟨rfl, rfl, rfl, by decide +kernel, rfl, by decide +kernel, by decide +kernel⟩
-- cells: []; calls: []
theorem cal__law_rank (B : Base K mg) : Cal P w K mg base 1 "_law_rank" (spRank K) := by
  refine B.d__law_rank.ok sc__law_rank (fun vs H Q h => ?_) (fun f cdv A outer s H vs Q E hr h => ?_)
  · obtain ⟨v, l, rfl, _⟩ := h
    rfl
  · obtain ⟨v, l, rfl, ⟨a, rfl, ht⟩, hl, q⟩ := h
    refine ⟨_, (pss_one (ps_ret (pe_callTy call_tupleF rfl B.f_tuple (by decide +kernel) (pa_cons (pe_lcX (own := [("_law_name", 1)]) rfl sc__law_rank.nd (pi_tup (pv 0)) (blkOk_by (own := [("_law_name", 1)]) (N := N__law_rank) (sc := defScope s__law_rank) (by decide +kernel)) (fun _ _ _ _ _ => (pg_name (i := 1) sc__law_rank.nd rfl (.inl rfl))) (fun _ _ _ _ _ => pts_nil) (fun _ _ _ _ _ => (pe_ifExp (pt_cmp (pc_notN (pv 1))) (pv 1) pe_str))) pa_nil)))
    ), ?_⟩
    refine ⟨_, rfl, _, rfl, ⟨_, ht.sq⟩, ?_⟩
    refine comp_it walk_tup l (fun o => some (o.getD "")) (fun _ v o => v = oV o) (fun _ v b => v = .str b) (fun _ _ _ _ _ h => h) (by rw [List.length_map]) (fun _ e => (ht.mono e.n).sq)
      (by rw [List.length_map]; omega) (fun i H1 x H' o ho hy e => ?_) (fun i o x H' Qy Qn ho e hs ky kn => ?_) (fun D H' ys hD e g1 g2 => ?_)
    · obtain ⟨rfl, hx⟩ := hy
      obtain ⟨o', ho', rfl⟩ := oV_get hx
      rw [ho] at ho'
      cases ho'
      exact ⟨Same.refl _, rfl⟩
    · subst hs
      cases o with
      | none => exact ⟨rfl, _, rfl, false, bl_nf rfl, iteF (ky _ _ _ rfl (Same.refl _) rfl)⟩
      | some z => exact ⟨rfl, _, rfl, true, bl_nt (fun h => nomatch h), iteT ⟨_, rfl, ky _ _ _ rfl (Same.refl _) rfl⟩⟩
    · rw [fm_some] at g2
      refine ⟨_, _, rfl, SqL.of g1, fun T H2 nT e2 hT => ?_⟩
      exact q _ _ (e.trans e2) ⟨T, rfl, by have := hT.sq (K := K); rwa [strs_of g2] at this⟩
def spLLayouts (K : PySem.W.Frag) : SpN := fun vs H Q => ∃ (v : V) (ds : List Door) (cs : List Str), vs = [v] ∧ SchemeV K H v ds cs ∧ OkDoors ds ∧ OkCrates cs (places ds) ∧ ∀ H' r, Same H H' → H r = none → LaysV H' r (allLay ds cs) → Q (.ref r) H'
abbrev s__law_layouts : Stmt := topS 94
abbrev N__law_layouts : List Str := ["_law_s", "_law_size", "_law_found", "_law_turn", "_law_longer", "_law_some", "_law_left", "_law_name", "_law_free", "_law_one"]
theorem sc__law_layouts : FnScope N__law_layouts ["_law_s"] (defScope s__law_layouts) := ⟨rfl, rfl, rfl, by decide +kernel, rfl, by decide +kernel, by decide +kernel⟩
-- cells: ['_law_some']; calls: ['_law_edges']
theorem cal__law_layouts (B : Base K mg) : Cal P w K mg base 2 "_law_layouts" (spLLayouts K) := by
  refine B.d__law_layouts.ok sc__law_layouts (fun vs H Q h => ?_) (fun f cdv A outer s H vs Q E hr h => ?_)
  · obtain ⟨v, ds, cs, rfl, _⟩ := h
    rfl
  · obtain ⟨v, ds, cs, rfl, sv, okd, okc, q⟩ := h
    obtain ⟨p, d, c, rfl, h1, h2, h3⟩ := id sv
    have n6 : places ds ≤ 6 := places_le okd
    have c5 : cs.length ≤ 5 := okc.2.1
    have cn : cs.length ≤ places ds := okc.2.2.1
    refine ⟨_, (pss_cons (ps_par (i := 1) (j := 2) rfl sc__law_layouts.nd rfl rfl (by decide) rfl rfl (pa_cons (pe_callB call_len rfl B.f_len boot_len (pa_cons (pe_c (cal__law_edges B) hr (by decide) rfl (pa_cons (pv 0) pa_nil)) pa_nil)) (pa_cons (pe_lstN (pa_cons (pe_tupF pa_nil) pa_nil)) pa_nil)) rfl)
    (pss_cons (ps_for PassesOwn.never rfl (pi_range1 rfl B.f_range (pa_cons (pv 1) pa_nil)) (pg_name (i := 3) sc__law_layouts.nd rfl (.inl rfl)) (
        (pss_cons (ps_set (i := 4) sc__law_layouts.nd rfl (.inl rfl) (pe_lstN pa_nil))
        (pss_cons (ps_for PassesOwn.never rfl (pi_list (pv 2)) (pg_name (i := 5) sc__law_layouts.nd rfl (.inr rfl)) (
            (pss_cons (ps_setLcX (i := 6) (own := [("_law_name", 7)]) rfl sc__law_layouts.nd rfl rfl (sw_true rfl rfl rfl rfl) (pi_tup (pe_ix ix_tup (pv 0) pe_int (fun _ _ => rfl))) (blkOk_by (own := [("_law_name", 7)]) (N := N__law_layouts) (sc := defScope s__law_layouts) (by decide +kernel)) (fun _ _ _ _ _ => (pg_name (i := 7) sc__law_layouts.nd rfl (.inl rfl))) (fun _ _ _ _ _ => (pts_one (pt_cmpR op_notIn_seq (pv 7) (pv 5) rfl))) (fun _ _ _ _ _ => (pv 7)))
            (pss_cons (ps_set (i := 8) sc__law_layouts.nd rfl (.inl rfl) (pe_ifExp (pt_cmpR op_lt (pe_tm PySem.F.slot_tuple_count PySem.F.type_tuple_count mt_tcnt (pv 5) (pa_cons pe_non pa_nil)) (pe_op op_sub (pv 1) (pe_callB call_len rfl B.f_len boot_len (pa_cons (pe_ix ix_tup (pv 0) pe_int (fun _ _ => rfl)) pa_nil))) (nomark _)) (pe_lstN (pa_cons pe_non pa_nil)) (pe_lstN pa_nil)))
            (pss_one (ps_set (i := 4) sc__law_layouts.nd rfl (.inl rfl) (pe_op op_catN (pv 4) (pe_lcX (own := [("_law_one", 9)]) rfl sc__law_layouts.nd (pi_list (pe_op op_catN (pv 8) (pv 6))) (blkOk_by (own := [("_law_one", 9)]) (N := N__law_layouts) (sc := defScope s__law_layouts) (by decide +kernel)) (fun _ _ _ _ _ => (pg_name (i := 9) sc__law_layouts.nd rfl (.inl rfl))) (fun _ _ _ _ _ => pts_nil) (fun _ _ _ _ _ => (pe_op op_catF (pv 5) (pe_tupF (pa_cons (pv 9) pa_nil)))))))
            )))))
        (pss_one (ps_set (i := 2) sc__law_layouts.nd rfl (.inl rfl) (pv 4))
        )))))
    (pss_one (ps_ret (pv 2))
    ))), ?_⟩
    refine ⟨_, rfl, .ref p, ds, cs, rfl, sv, okd, fun H0 r0 e0 nr0 hr0 => ⟨_, _, rfl, .inl ⟨_, SqL.of hr0, rfl⟩, small (by simp), fun T H1 nT e1 hT => ⟨small (by simp), fun R H2 nR e2 hR => ?_⟩⟩⟩
    have el : ((edges ds).map nV).length = places ds := by rw [List.length_map, edges_len]
    rw [el]
    have e02 := (e0.trans e1).trans e2
    have nRH : H R = none := (e0.trans e1).free nR
    refine ⟨_, _, rfl, _, rfl, _, rfl, by omega, by omega, ?_⟩
    have hpl : ((places ds : Nat) : Int).toNat = places ds := Int.toNat_natCast _
    refine for_it walk_rng (fun i σ H3 => (∃ r j3 j4 j5 j6 j7 j8 j9, σ = [some (.ref p), some (nV (places ds)), some (.ref r), j3, j4, j5, j6, j7, j8, j9] ∧ H r = none ∧ LaysV H3 r (layAt (places ds) cs i)) ∧ Same H H3) ?_ (fun _ _ _ _ _ => trivial) (fun i y σ H4 H3 hi p0 hy => ?_) (fun σ H3 p0 => ?_)
    · exact ⟨⟨R, _, _, _, _, _, _, _, rfl, nRH, _, hR, .cons ⟨T, rfl, hT.mono e2.n⟩ .nil⟩, e02⟩
    · obtain ⟨⟨r, j3, j4, j5, j6, j7, j8, j9, rfl, nr, rvs, hr3, pr3⟩, e3⟩ := p0
      obtain ⟨rfl, rfl⟩ := hy
      have hi6 : i < places ds := hpl ▸ hi
      refine ⟨small (by simp), fun L H5 nL e5 hL => ?_⟩
      have nLH : H L = none := e3.free nL
      have rl : (layAt (places ds) cs i).length ≤ 46656 := Nat.le_trans (layAt_len c5 i) (pow6 (by omega))
      refine ⟨_, rfl, _, rfl, ⟨_, SqL.of (e5 _ _ hr3)⟩, ?_⟩
      refine for_it walk_list (fun k σ H6 => (∃ lg j5 j6 j7 j8 j9, σ = [some (.ref p), some (nV (places ds)), some (.ref r), some (nV i), some (.ref lg), j5, j6, j7, j8, j9] ∧ H lg = none ∧ LaysV H6 lg (((layAt (places ds) cs i).take k).flatMap (ext (places ds) cs i))) ∧ Same H H6 ∧ H6 r = some (.lst rvs) ∧ Paired (LayV H6) rvs (layAt (places ds) cs i)) ?_
        (fun k σ H6 _ p => SqL.of p.2.2.1) (fun k y σ H7 H6 hk p6 hy => ?_) (fun σ H6 p6 => ?_)
      · exact ⟨⟨L, _, _, _, _, _, rfl, nLH, _, hL, .nil⟩, e3.trans e5, e5 _ _ hr3, pmono e5.n pr3⟩
      · obtain ⟨⟨lg, j5, j6, j7, j8, j9, rfl, nlg, lvs, hl6, p6⟩, e6, hr6, pr6⟩ := p6
        obtain ⟨rfl, hy⟩ := hy
        obtain ⟨l, hl, hlv⟩ := Paired.get1 pr6 hy
        obtain ⟨la, rfl, hla⟩ := hlv
        have lm := List.mem_of_getElem? hl
        have pre := (layAt_mem (crates_nodup okc) cn (Nat.le_of_lt hi6)).mp lm
        have lll := left_len (crates_nodup okc) pre.nd pre.sub
        have ls := len_split l
        have l6 : l.length ≤ 6 := by rw [pre.len]; omega
        have lfl : (left cs l).length ≤ 5 := by omega
        have hc6 := e6.tup h3
        refine ⟨_, rfl, _, _, _, _, rfl, rfl, e6.tup h1, rfl, _, rfl, ⟨_, hc6⟩, ?_⟩
        have fl : ∀ (c : Str), inV (V.str c) (l.map oV) = decide (some c ∈ l) := fun c => inV_oV (some c) l
        refine comp_it walk_tup cs (fun c => if some c ∉ l then some c else none) (fun _ v c => v = .str c) (fun _ v b => v = .str b) (fun _ _ _ _ _ h => h) (by rw [List.length_map]) (fun _ e => e.tup hc6)
          (by rw [List.length_map]; omega) (fun i H1 x H' c hc hy e => ?_) (fun i c x H' Qy Qn hc e hs ky kn => ?_) (fun D H7 ys hD ex g1 g2 => ?_)
        · obtain ⟨rfl, hx⟩ := hy
          obtain ⟨c', hc', rfl⟩ := sV_get hx
          rw [hc] at hc'
          cases hc'
          exact ⟨Same.refl _, rfl⟩
        · subst hs
          refine ⟨rfl, _, rfl, _, rfl, _, _, rfl, .inr (hla.mono e.n).sq, rfl, flat_oV l, ?_⟩
          by_cases hm : some c ∈ l
          · exact ⟨false, by rw [fl, decide_eq_true hm]; rfl, iteF (kn (if_neg fun z => z hm) _ (Same.refl _))⟩
          · exact ⟨true, by rw [fl, decide_eq_false hm]; rfl, iteT ⟨_, rfl, ky _ _ _ (if_pos hm) (Same.refl _) rfl⟩⟩
        rw [fm_filter] at g2
        have hD' : H7 D = some (.lst ((left cs l).map V.str)) := by rw [g1, strs_of g2]; rfl
        have hla7 := hla.mono ex.n
        have hc7 := ex.tup hc6
        refine ⟨_, rfl, ⟨_, _, rfl, hla7⟩, _, _, _, rfl, rfl, hla7.sq, rfl, flat_oV l, _, rfl, _, rfl, _, _, _, _, rfl, rfl, ex.tup (e6.tup h1), rfl, _, _, rfl, .inr ⟨_, hc7, rfl⟩, _, _, rfl, rfl, _, _, rfl, rfl, _, rfl, ?_⟩
        rw [cnt_none]
        by_cases hc0 : (left cs l).length < places ds - i
        · rw [decide_eq_true (show ((nones l : Nat) : Int) < ((places ds : Nat) : Int) - (((cs.map V.str).length : Nat) : Int) by rw [List.length_map]; have := pre.len; omega)]
          refine iteT ⟨small (by simp), fun Fr H8 nFr eF hFr => ?_⟩
          have e8 := ex.trans eF
          refine ⟨_, rfl, _, rfl, _, rfl, _, _, _, _, rfl, rfl, hFr, eF _ _ hD', small (by simp; omega), fun M H9 nM e9 hM => ⟨_, rfl, ⟨_, SqL.of hM⟩, ?_⟩⟩
          have e69 := e8.trans e9
          have hla9 := hla.mono e69.n
          have ml : ([none].map oV ++ (left cs l).map V.str) = ([none] ++ (left cs l).map some).map oV := by rw [List.map_append, List.map_map]; rfl
          refine comp_it walk_list ([none] ++ (left cs l).map some) (fun o => some (l ++ [o])) (fun _ v o => v = oV o) LayV (fun _ _ _ _ e h => h.mono e) (by simp) (fun _ e => SqL.of (e _ _ hM))
            (by simp; omega) (fun i H1 x H' o ho hy e => ?_) (fun i o x H' Qy Qn ho e hs ky kn => ?_) (fun D2 H10 ys2 hD2 e10 g3 g4 => ?_)
          · obtain ⟨rfl, hx⟩ := hy
            have hx : ([none].map oV ++ (left cs l).map V.str)[i]? = some x := hx
            rw [ml] at hx
            obtain ⟨o', ho', rfl⟩ := oV_get hx
            rw [ho] at ho'
            cases ho'
            exact ⟨Same.refl _, rfl⟩
          · subst hs
            refine ⟨rfl, _, rfl, _, rfl, small (by simp), fun T2 H11 nT2 e11 hT2 => ⟨_, _, _, _, rfl, rfl, (hla9.mono (e.trans e11).n).sq, hT2.sq, small (by simp; omega), fun z => ?_, fun _ z => (nomatch z), fun _ _ => fun T3 H12 nT3 e12 hT3 => ?_⟩⟩
            · have z := List.map_eq_nil_iff.mp z
              exact ky _ _ _ rfl e11 ⟨T2, rfl, by rw [z]; exact hT2⟩
            · exact ky _ _ _ rfl (e11.trans e12) ⟨T3, rfl, by rw [List.map_append]; exact hT3⟩
          · rw [fm_some] at g4
            have e610 := e69.trans e10
            have hl10 := e610 _ _ hl6
            have exl : ([none] ++ (left cs l).map some).map (fun o => l ++ [o]) = ext (places ds) cs i l := by
              unfold ext
              rw [if_pos (hc0)]
              rw [List.map_append, List.map_map]
              rfl
            rw [exl] at g4
            have p10 := pmono e610.n p6
            have yl : ys2.length ≤ 6 := by rw [Paired.len g4]; exact ext_len c5
            have ll : lvs.length ≤ 300000 := by
              rw [Paired.len p6]
              have := flat_len (l := (layAt (places ds) cs i).take k) (f := ext (places ds) cs i) (m := 6) fun r _ => ext_len c5
              have : ((layAt (places ds) cs i).take k).length ≤ 46656 := by rw [List.length_take]; omega
              omega
            refine ⟨_, _, _, _, rfl, rfl, hl10, g3, smM (by omega), fun N H11 nN e11 hN => ⟨⟨N, _, _, _, _, _, rfl, (e6.trans e610).free nN, _, hN, ?_⟩, e6.trans (e610.trans e11), (e610.trans e11) _ _ hr6, pmono (e610.trans e11).n pr6⟩⟩
            rw [take_succ_get hl, List.flatMap_append, List.flatMap_singleton]
            exact pmono e11.n (Paired.app p10 g4)
        · rw [decide_eq_false (show ¬ ((nones l : Nat) : Int) < ((places ds : Nat) : Int) - (((cs.map V.str).length : Nat) : Int) by rw [List.length_map]; have := pre.len; omega)]
          refine iteF ⟨small (by simp), fun Fr H8 nFr eF hFr => ?_⟩
          have e8 := ex.trans eF
          refine ⟨_, rfl, _, rfl, _, rfl, _, _, _, _, rfl, rfl, hFr, eF _ _ hD', small (by simp; omega), fun M H9 nM e9 hM => ⟨_, rfl, ⟨_, SqL.of hM⟩, ?_⟩⟩
          have e69 := e8.trans e9
          have hla9 := hla.mono e69.n
          have ml : (([] : Lay).map oV ++ (left cs l).map V.str) = (([] : Lay) ++ (left cs l).map some).map oV := by rw [List.map_append, List.map_map]; rfl
          refine comp_it walk_list (([] : Lay) ++ (left cs l).map some) (fun o => some (l ++ [o])) (fun _ v o => v = oV o) LayV (fun _ _ _ _ e h => h.mono e) (by simp) (fun _ e => SqL.of (e _ _ hM))
            (by simp; omega) (fun i H1 x H' o ho hy e => ?_) (fun i o x H' Qy Qn ho e hs ky kn => ?_) (fun D2 H10 ys2 hD2 e10 g3 g4 => ?_)
          · obtain ⟨rfl, hx⟩ := hy
            have hx : (([] : Lay).map oV ++ (left cs l).map V.str)[i]? = some x := hx
            rw [ml] at hx
            obtain ⟨o', ho', rfl⟩ := oV_get hx
            rw [ho] at ho'
            cases ho'
            exact ⟨Same.refl _, rfl⟩
          · subst hs
            refine ⟨rfl, _, rfl, _, rfl, small (by simp), fun T2 H11 nT2 e11 hT2 => ⟨_, _, _, _, rfl, rfl, (hla9.mono (e.trans e11).n).sq, hT2.sq, small (by simp; omega), fun z => ?_, fun _ z => (nomatch z), fun _ _ => fun T3 H12 nT3 e12 hT3 => ?_⟩⟩
            · have z := List.map_eq_nil_iff.mp z
              exact ky _ _ _ rfl e11 ⟨T2, rfl, by rw [z]; exact hT2⟩
            · exact ky _ _ _ rfl (e11.trans e12) ⟨T3, rfl, by rw [List.map_append]; exact hT3⟩
          · rw [fm_some] at g4
            have e610 := e69.trans e10
            have hl10 := e610 _ _ hl6
            have exl : (([] : Lay) ++ (left cs l).map some).map (fun o => l ++ [o]) = ext (places ds) cs i l := by
              unfold ext
              rw [if_neg (hc0)]
              rw [List.map_append, List.map_map]
              rfl
            rw [exl] at g4
            have p10 := pmono e610.n p6
            have yl : ys2.length ≤ 6 := by rw [Paired.len g4]; exact ext_len c5
            have ll : lvs.length ≤ 300000 := by
              rw [Paired.len p6]
              have := flat_len (l := (layAt (places ds) cs i).take k) (f := ext (places ds) cs i) (m := 6) fun r _ => ext_len c5
              have : ((layAt (places ds) cs i).take k).length ≤ 46656 := by rw [List.length_take]; omega
              omega
            refine ⟨_, _, _, _, rfl, rfl, hl10, g3, smM (by omega), fun N H11 nN e11 hN => ⟨⟨N, _, _, _, _, _, rfl, (e6.trans e610).free nN, _, hN, ?_⟩, e6.trans (e610.trans e11), (e610.trans e11) _ _ hr6, pmono (e610.trans e11).n pr6⟩⟩
            rw [take_succ_get hl, List.flatMap_append, List.flatMap_singleton]
            exact pmono e11.n (Paired.app p10 g4)
      · obtain ⟨⟨lg, j5, j6, j7, j8, j9, rfl, nlg, ll⟩, e6, hr6, pr6⟩ := p6
        have hl : rvs.length = (layAt (places ds) cs i).length := Paired.len pr3
        rw [hl, List.take_length] at ll
        exact ⟨_, rfl, ⟨lg, _, _, _, _, _, _, _, rfl, nlg, ll⟩, e6⟩
    · obtain ⟨⟨r, j3, j4, j5, j6, j7, j8, j9, rfl, nr, lr⟩, e3⟩ := p0
      rw [hpl] at lr
      exact ⟨_, rfl, q H3 r e3 nr lr⟩
end
end CC

/-! text E6 -/
namespace CC
open PySem PySem.Spec PyProof.Rows L2
theorem seen_len_of {ds : List Door} {l : Lay} (h : l.length = places ds) (d : Nat) : (seen ds l d).length = (placesOf ds d).length := by
  have he : (edges ds).length = places ds := edges_len ds
  unfold seen placesOf
  rw [List.length_map, ← List.countP_eq_length_filter, ← List.countP_eq_length_filter]
  have e1 : (l.zip (edges ds)).countP (fun p => decide (p.2 = d)) = (edges ds).countP (fun e => decide (e = d)) := by
    have : (edges ds) = (l.zip (edges ds)).map (·.2) := by rw [List.map_snd_zip (by omega)]
    conv => rhs; rw [this]
    rw [List.countP_map]
    rfl
  have e2 : (edges ds).countP (fun e => decide (e = d)) = (List.range (places ds)).countP fun i => decide ((edges ds)[i]? = some d) := by
    have : (edges ds) = (List.range (places ds)).map fun i => (edges ds).getD i 0 := by
      refine List.ext_getElem? fun i => ?_
      rw [List.getElem?_map]
      by_cases hi : i < places ds
      · rw [List.getElem?_range hi, List.getElem?_eq_getElem (by omega)]
        show _ = some ((edges ds).getD i 0)
        rw [List.getD_eq_getElem?_getD, List.getElem?_eq_getElem (by omega)]
        rfl
      · rw [List.getElem?_eq_none (by omega), List.getElem?_eq_none (by rw [List.length_range]; omega)]
        rfl
    conv => lhs; rw [this]
    rw [List.countP_map]
    refine List.countP_congr fun i hi => ?_
    have hi := List.mem_range.mp hi
    show decide ((edges ds).getD i 0 = d) = true ↔ _
    rw [List.getD_eq_getElem?_getD, List.getElem?_eq_getElem (by omega)]
    simp
  rw [e1, e2]
theorem isSo_fm {a b : Lay} (h : a.length = b.length) : isSo a b = decide ((List.range a.length).filterMap (fun i => if pairOk (a.getD i none) (b.getD i none) = true then none else some i) = []) := by
  rw [Bool.eq_iff_iff, decide_eq_true_eq]
  unfold isSo
  rw [List.all_eq_true, List.filterMap_eq_nil_iff]
  constructor
  · intro hz i hi
    have hi := List.mem_range.mp hi
    refine if_pos (hz (a.getD i none, b.getD i none) (List.mem_of_getElem? (i := i) (List.getElem?_zip_eq_some.mpr ⟨getD_get hi, getD_get (by omega)⟩)))
  · intro hz p hp
    obtain ⟨i, hi, e⟩ := List.getElem_of_mem hp
    have h2 : (a.zip b)[i]? = some p := by rw [List.getElem?_eq_getElem hi, e]
    obtain ⟨z1, z2⟩ := List.getElem?_zip_eq_some.mp h2
    have ha := (List.getElem?_eq_some_iff.mp z1).1
    have := hz i (List.mem_range.mpr ha)
    rw [List.getD_eq_getElem?_getD, List.getD_eq_getElem?_getD, z1, z2] at this
    by_cases hq : pairOk p.1 p.2 = true
    · exact hq
    · exact absurd this (by rw [if_neg (show ¬ pairOk ((some p.1).getD none) ((some p.2).getD none) = true from hq)]; simp)
section
variable {P : Program} {w : World} {K : PySem.W.Frag} {mg : Str → Option Value} {base : Heap} {C : Addr}
def spLIsSo (K : PySem.W.Frag) : SpN := fun vs H Q => ∃ (v u x : V) (ds : List Door) (cs : List Str) (l : Lay) (d : Nat) (t : Lay), vs = [v, u, x] ∧ SchemeV K H v ds cs ∧ OkDoors ds ∧ LayV H u l ∧ l.length = places ds ∧ RowV K H x (.opened d t) ∧ t.length = (placesOf ds d).length ∧ ∀ H', Same H H' → Q (.bl (isSo (seen ds l d) t)) H'
abbrev s__law_is_so : Stmt := topS 100
abbrev N__law_is_so : List Str := ["_law_s", "_law_layout", "_law_row", "_law_here", "_law_wrong", "_law_k"]
theorem sc__law_is_so : FnScope N__law_is_so ["_law_s", "_law_layout", "_law_row"] (defScope s__law_is_so) := ⟨rfl, rfl, rfl, by decide +kernel, rfl, by decide +kernel, by decide +kernel⟩
-- cells: ['_law_here', '_law_row']; calls: ['_law_seen']
theorem cal__law_is_so (B : Base K mg) : Cal P w K mg base 3 "_law_is_so" (spLIsSo K) := by
  refine B.d__law_is_so.ok sc__law_is_so (fun vs H Q h => ?_) (fun f cdv A outer s H vs Q E hr h => ?_)
  · obtain ⟨v, u, x, ds, cs, l, d, t, rfl, _⟩ := h
    rfl
  · obtain ⟨v, u, x, ds, cs, l, d, t, rfl, sv, okd, lv, hl, ⟨b, T, rfl, ht, hT⟩, tl, q⟩ := h
    have n6 : places ds ≤ 6 := places_le okd
    have sl : (seen ds l d).length = t.length := by rw [seen_len_of hl, tl]
    have s6 : (seen ds l d).length ≤ 6 := Nat.le_trans (seen_len ds l d) (by omega)
    refine ⟨_, (pss_cons (ps_set (i := 3) sc__law_is_so.nd rfl (.inr rfl) (pe_c (cal__law_seen B) hr (by decide) rfl (pa_cons (pv 0) (pa_cons (pv 1) (pa_cons (pe_ix ix_tup (pv 2) pe_int (fun _ _ => rfl)) pa_nil)))))
    (pss_cons (ps_setLcX (i := 4) (own := [("_law_k", 5)]) rfl sc__law_is_so.nd rfl rfl (sw_true rfl rfl rfl rfl) (pi_range1 rfl B.f_range (pa_cons (pe_callB call_len rfl B.f_len boot_len (pa_cons (pv 3) pa_nil)) pa_nil)) (blkOk_by (own := [("_law_k", 5)]) (N := N__law_is_so) (sc := defScope s__law_is_so) (by decide +kernel)) (fun _ _ _ _ _ => (pg_name (i := 5) sc__law_is_so.nd rfl (.inl rfl))) (fun _ _ _ _ _ => (pts_one (PW.pt (pw_and (pt_cmpR op_ne (pe_ix ix_tup (pv 3) (pv 5) (fun _ _ => rfl)) (pe_ix ix_tup (pe_ix ix_tup (pv 2) pe_int (fun _ _ => rfl)) (pv 5) (fun _ _ => rfl)) (nomark _)) (pw_and1 (PW.pt (pw_or (pt_cmpR op_ne (pe_ix ix_tup (pe_ix ix_tup (pv 2) pe_int (fun _ _ => rfl)) (pv 5) (fun _ _ => rfl)) pe_str (nomark _)) (pw_or1 (pt_cmp (pc_isN (pe_ix ix_tup (pv 3) (pv 5) (fun _ _ => rfl)))))))))))) (fun _ _ _ _ _ => (pv 5)))
    (pss_one (ps_ret (pe_cmpR (op_eqD hr.units) (pv 4) (pe_lstN pa_nil) (nomark _)))
    ))), ?_⟩
    refine ⟨_, rfl, _, rfl, _, rfl, _, _, _, _, rfl, rfl, ht, rfl, v, u, ds, cs, l, d, rfl, sv, okd, lv, hl, fun H1 r e1 ⟨c, er, hc⟩ => ?_⟩
    subst er
    refine ⟨_, rfl, _, _, rfl, .inr ⟨_, hc.sq, rfl⟩, _, rfl, by rw [List.length_map]; omega, by rw [List.length_map]; omega, ?_⟩
    have hpl : ((((seen ds l d).map oV).length : Nat) : Int).toNat = (seen ds l d).length := by rw [Int.toNat_natCast, List.length_map]
    have getD_ok : ∀ {a : Lay} {i : Nat}, i < a.length → (a.map oV)[i]? = some (oV (a.getD i none)) := fun {a i} h => map_get (getD_get h)
    refine comp_it walk_rng (List.range (seen ds l d).length) (fun i => if pairOk ((seen ds l d).getD i none) (t.getD i none) = true then none else some i) (fun _ v i => v = nV i ∧ i < (seen ds l d).length) (fun _ v b => v = nV b) (fun _ _ _ _ _ h => h) (by rw [List.length_range, hpl]) (fun _ _ => trivial)
      (by rw [hpl]; omega) (fun i H2 x H' j hj hy e => ?_) (fun i j x H' Qy Qn hj e hs ky kn => ?_) (fun D H' ys hD e g1 g2 => ?_)
    · obtain ⟨rfl, rfl⟩ := hy
      obtain ⟨rfl, hi⟩ := range_get hj
      exact ⟨Same.refl _, rfl, hi⟩
    · obtain ⟨rfl, hj⟩ := hs
      have c1 := (hc.mono e.n).sq (K := K)
      have b1 := (e1.trans e).tup ht
      have t1 := (hT.mono (e1.trans e).n).sq (K := K)
      have ga := getD_ok (a := seen ds l d) hj
      have gb := getD_ok (a := t) (show j < t.length by omega)
      refine ⟨rfl, _, rfl, _, rfl, _, _, _, _, rfl, rfl, c1, atI_nat ga, _, rfl, _, _, _, _, rfl, rfl, b1, rfl, _, rfl, _, _, _, _, rfl, rfl, t1, atI_nat gb, oV_scal _ _, ?_⟩
      generalize ho1 : (seen ds l d).getD j none = o1 at *
      generalize ho2 : t.getD j none = o2 at *
      have two : ∀ {Q' : VK}, Q' (oV o2) H' → True := fun _ => trivial
      by_cases h12 : o1 = o2
      · exact ⟨false, bl_nf (congrArg oV h12), iteF (iteF (kn (if_pos (by unfold pairOk; rw [decide_eq_true h12]; rfl)) _ (Same.refl _)))⟩
      · refine ⟨true, bl_nt (fun z => h12 (oV_inj z)), iteT ⟨_, rfl, _, _, _, _, rfl, rfl, b1, rfl, _, rfl, _, _, _, _, rfl, rfl, t1, atI_nat gb, oV_scal o2 (some "?"), ?_⟩⟩
        by_cases hq : o2 = some "?"
        · refine ⟨false, bl_nf (congrArg oV hq), iteF ⟨_, rfl, _, rfl, _, _, _, _, rfl, rfl, c1, atI_nat ga, ?_⟩⟩
          cases o1 with
          | none => exact ⟨true, bl_t rfl, iteT ⟨_, rfl, ky _ _ _ (if_neg (by unfold pairOk; rw [decide_eq_false h12, decide_eq_true hq]; decide)) (Same.refl _) rfl⟩⟩
          | some z => exact ⟨false, bl_f (fun h => nomatch h), iteF (kn (if_pos (by unfold pairOk; rw [decide_eq_false h12, decide_eq_true hq]; rfl)) _ (Same.refl _))⟩
        · exact ⟨true, bl_nt (fun z => hq (oV_inj z)), iteT (iteT ⟨_, rfl, ky _ _ _ (if_neg (by unfold pairOk; rw [decide_eq_false h12, decide_eq_false hq]; simp)) (Same.refl _) rfl⟩)⟩
    · have yn := nats_of g2
      have dd : DpAll K H' ys (((List.range (seen ds l d).length).filterMap fun i => if pairOk ((seen ds l d).getD i none) (t.getD i none) = true then none else some i).map fun i => PyData.int ((i : Nat) : Int)) := by
        rw [yn]
        exact DpAll.map (fun a => .int _) _
      refine ⟨_, rfl, small (by simp), fun L H2 nL e2 hL => ?_⟩
      have dd2 : DpAll K H2 ys (((List.range (seen ds l d).length).filterMap fun i => if pairOk ((seen ds l d).getD i none) (t.getD i none) = true then none else some i).map fun i => PyData.int ((i : Nat) : Int)) := by
        rw [yn]
        exact DpAll.map (fun a => .int _) _
      refine rEq_nil _ 0 (by decide) (SqL.of (e2 _ _ g1)) (SqL.of hL) dd2 (fun x hx => by obtain ⟨i, _, rfl⟩ := List.mem_map.mp hx; exact Sh.int _) ?_
      refine qb Q ?_ (q H2 ((e1.trans e).trans e2))
      rw [isSo_fm sl, yn]
      rw [Bool.eq_iff_iff, decide_eq_true_eq, decide_eq_true_eq, List.map_eq_nil_iff]
end
end CC

/-! text M2 -/
namespace CC
open PySem PySem.Spec PyProof.Rows L2
theorem zip_at {α : Type} (k : Nat) : ∀ {a b : List α} {e : List Nat}, a.length = e.length → b.length = e.length → ((a.zip e).filter fun p => decide (p.2 = k)).map (·.1) = ((b.zip e).filter fun p => decide (p.2 = k)).map (·.1) → ∀ i : Nat, e[i]? = some k → a[i]? = b[i]?
  | [], [], [], _, _, _, i, h => by simp at h
  | [], _ :: _, [], _, hb, _, _, _ => by cases hb
  | _ :: _, _, [], ha, _, _, _, _ => by cases ha
  | [], _, _ :: _, ha, _, _, _, _ => by cases ha
  | _ :: _, [], _ :: _, _, hb, _, _, _ => by cases hb
  | x :: a, y :: b, c :: e, ha, hb, h, i, hi => by
    have ha' : a.length = e.length := by simpa using ha
    have hb' : b.length = e.length := by simpa using hb
    rw [List.zip_cons_cons, List.zip_cons_cons] at h
    by_cases hc : c = k
    · rw [List.filter_cons_of_pos (by simpa using hc), List.filter_cons_of_pos (by simpa using hc), List.map_cons, List.map_cons] at h
      injection h with h1 h2
      cases i with
      | zero => exact congrArg some h1
      | succ i => exact zip_at k ha' hb' h2 i (by simpa using hi)
    · rw [List.filter_cons_of_neg (by simpa using hc), List.filter_cons_of_neg (by simpa using hc)] at h
      cases i with
      | zero => exact absurd (Option.some.inj (by simpa using hi)) hc
      | succ i => exact zip_at k ha' hb' h i (by simpa using hi)
theorem zip_of {α : Type} (k : Nat) : ∀ {a b : List α} {e : List Nat}, a.length = e.length → b.length = e.length → (∀ i : Nat, e[i]? = some k → a[i]? = b[i]?) → ((a.zip e).filter fun p => decide (p.2 = k)).map (·.1) = ((b.zip e).filter fun p => decide (p.2 = k)).map (·.1)
  | [], [], [], _, _, _ => rfl
  | [], _ :: _, [], _, hb, _ => by cases hb
  | _ :: _, _, [], ha, _, _ => by cases ha
  | [], _, _ :: _, ha, _, _ => by cases ha
  | _ :: _, [], _ :: _, _, hb, _ => by cases hb
  | x :: a, y :: b, c :: e, ha, hb, h => by
    have ha' : a.length = e.length := by simpa using ha
    have hb' : b.length = e.length := by simpa using hb
    have ih := zip_of k ha' hb' fun i hi => by simpa using h (i + 1) (by simpa using hi)
    rw [List.zip_cons_cons, List.zip_cons_cons]
    by_cases hc : c = k
    · rw [List.filter_cons_of_pos (by simpa using hc), List.filter_cons_of_pos (by simpa using hc), List.map_cons, List.map_cons, ih]
      have := h 0 (by simp [hc])
      have : x = y := by simpa using this
      rw [this]
    · rw [List.filter_cons_of_neg (by simpa using hc), List.filter_cons_of_neg (by simpa using hc)]
      exact ih
theorem cnt_names (z : Str) : ∀ l : Lay, l.count (some z) = (names l).count z
  | [] => rfl
  | none :: t => by
    have ih := cnt_names z t
    unfold names at ih ⊢
    rw [List.filterMap_cons, List.count_cons_of_ne (by simp), ih]
    rfl
  | some y :: t => by
    have ih := cnt_names z t
    unfold names at ih ⊢
    rw [List.filterMap_cons]
    show _ = (y :: t.filterMap id).count z
    rw [List.count_cons, List.count_cons, ih]
    congr 1
theorem lay_perm {m l : Lay} (h : (names m).Perm (names l)) (hl : m.length = l.length) : m.Perm l := by
  refine List.perm_iff_count.mpr fun o => ?_
  cases o with
  | some z => rw [cnt_names, cnt_names]; exact List.perm_iff_count.mp h z
  | none =>
    have h1 := len_split m
    have h2 := len_split l
    have h3 := h.length_eq
    have e : ∀ l : Lay, l.count none = nones l := fun l => by
      unfold nones List.count
      refine List.countP_congr fun o _ => ?_
      simp
    rw [e, e]
    omega
theorem seen_shuf {ds : List Door} {cs : List Str} {l m : Lay} {d : Nat} (hl : IsLay (places ds) cs l) (hm : IsLay (places ds) cs m) : (∀ k : Nat, k < ds.length → k ≠ d → seen ds m k = seen ds l k) ↔ AfterR ds l (.shuffle d) m := by
  have he : (edges ds).length = places ds := edges_len ds
  have ml : m.length = (edges ds).length := by rw [hm.1, he]
  have ll : l.length = (edges ds).length := by rw [hl.1, he]
  constructor
  · intro h
    refine ⟨by rw [ml, ll], fun i hi => ?_, lay_perm (hm.2.trans hl.2.symm) (by rw [ml, ll])⟩
    cases hk : (edges ds)[i]? with
    | none =>
      have := List.getElem?_eq_none_iff.mp hk
      rw [List.getElem?_eq_none (by omega), List.getElem?_eq_none (by omega)]
    | some k =>
      have kd : k ≠ d := fun z => hi (by rw [hk, z])
      have kl := (edgesFrom_lt ds 0 k (List.mem_of_getElem? hk)).2
      exact zip_at k ml ll (h k (by omega) kd) i hk
  · rintro ⟨_, h, _⟩ k _ kd
    exact zip_of k ml ll fun i hi => h i (by rw [hi]; exact fun z => kd (Option.some.inj z))
end CC

/-! text E7 -/
namespace CC
open PySem PySem.Spec PyProof.Rows L2
theorem in_pm (i h : Nat) : inV (.int (((i : Nat) : Int) - ((h : Nat) : Int))) [.int 1, .int (-1)] = decide (i = h + 1 ∨ h = i + 1) := by
  show (((1 : Int) == ((i : Nat) : Int) - ((h : Nat) : Int)) || (((-1 : Int) == ((i : Nat) : Int) - ((h : Nat) : Int)) || false)) = _
  rw [Bool.eq_iff_iff, Bool.or_false, Bool.or_eq_true, beq_iff_eq, beq_iff_eq, decide_eq_true_eq]
  omega
theorem putL_len {l m : Lay} {h : Nat} {b : Bool} {i : Nat} (hm : m ∈ putsL l h b i) : m.length = l.length := by
  unfold putsL at hm
  obtain ⟨k, _, rfl⟩ := List.mem_map.mp hm
  unfold swapL
  rw [List.length_set, List.length_set]
section
variable {P : Program} {w : World} {K : PySem.W.Frag} {mg : Str → Option Value} {base : Heap} {C : Addr}
def spLAfter (K : PySem.W.Frag) : SpN := fun vs H Q => ∃ (v u x : V) (ds : List Door) (cs : List Str) (l : Lay) (e : Deed), vs = [v, u, x] ∧ SchemeV K H v ds cs ∧ OkDoors ds ∧ OkCrates cs (places ds) ∧ LayV H u l ∧ IsLay (places ds) cs l ∧ DeedV K H x e ∧ OkDeed ds cs e ∧
  ∀ H' r ls, Same H H' → H r = none → LaysV H' r ls → ls.length ≤ 46656 → (∀ m, m ∈ ls ↔ AfterR ds l e m) → Q (.ref r) H'
abbrev s__law_after : Stmt := topS 97
abbrev N__law_after : List Str := ["_law_s", "_law_layout", "_law_deed_here", "_law_some", "_law_other", "_law_alike", "_law_k", "_law_here", "_law_found"]
theorem sc__law_after : FnScope N__law_after ["_law_s", "_law_layout", "_law_deed_here"] (defScope s__law_after) := ⟨rfl, rfl, rfl, by decide +kernel, rfl, by decide +kernel, by decide +kernel⟩
-- cells: ['_law_deed_here', '_law_layout', '_law_other', '_law_s']; calls: ['_law_layouts', '_law_seen', '_law_turned']
theorem cal__law_after (B : Base K mg) : Cal P w K mg base 4 "_law_after" (spLAfter K) := by
  refine B.d__law_after.ok sc__law_after (fun vs H Q h => ?_) (fun f cdv A outer s H vs Q E hr h => ?_)
  · obtain ⟨v, u, x, ds, cs, l, e, rfl, _⟩ := h
    rfl
  · obtain ⟨v, u, x, ds, cs, l, e, rfl, sv, okd, okc, ⟨b, rfl, hb⟩, il, ⟨c, rfl, hc⟩, ok, q⟩ := h
    have n6 : places ds ≤ 6 := places_le okd
    have l6 : l.length ≤ 6 := by rw [il.1]; exact n6
    refine ⟨_, (pss_cons (ps_if (pt_cmpR op_eq (pe_ix ix_tup (pv 2) pe_int (fun _ _ => rfl)) pe_str (nomark _)) (
        (pss_one (ps_ret (pe_lstN (pa_cons (pe_c (cal__law_turned B) hr (by decide) rfl (pa_cons (pv 1) (pa_cons (pe_tm PySem.F.slot_tuple_index PySem.F.type_tuple_index mt_tidx (pv 1) (pa_cons (pe_ix ix_tup (pv 2) pe_int (fun _ _ => rfl)) pa_nil)) (pa_cons (pe_tm PySem.F.slot_tuple_index PySem.F.type_tuple_index mt_tidx (pv 1) (pa_cons (pe_ix ix_tup (pv 2) pe_int (fun _ _ => rfl)) pa_nil)) pa_nil)))) pa_nil)))
        )) (pss_nil))
    (pss_cons (ps_if (pt_cmpR op_eq (pe_ix ix_tup (pv 2) pe_int (fun _ _ => rfl)) pe_str (nomark _)) (
        (pss_cons (ps_set (i := 3) sc__law_after.nd rfl (.inl rfl) (pe_lstN pa_nil))
        (pss_cons (ps_for PassesOwn.never rfl (pi_list (pe_c (cal__law_layouts B) hr (by decide) rfl (pa_cons (pv 0) pa_nil))) (pg_name (i := 4) sc__law_after.nd rfl (.inr rfl)) (
            (pss_cons (ps_setLcX (i := 5) (own := [("_law_k", 6)]) rfl sc__law_after.nd rfl rfl (sw_true rfl rfl rfl rfl) (pi_range1 rfl B.f_range (pa_cons (pe_callB call_len rfl B.f_len boot_len (pa_cons (pe_ix ix_tup (pv 0) pe_int (fun _ _ => rfl)) pa_nil)) pa_nil)) (blkOk_by (own := [("_law_k", 6)]) (N := N__law_after) (sc := defScope s__law_after) (by decide +kernel)) (fun _ _ _ _ _ => (pg_name (i := 6) sc__law_after.nd rfl (.inl rfl))) (fun _ _ _ _ _ => (pts_one (PW.pt (pw_and (pt_cmpR op_ne (pv 6) (pe_ix ix_tup (pv 2) pe_int (fun _ _ => rfl)) (nomark _)) (pw_and1 (pt_cmpR (op_neD hr.units) (pe_c (cal__law_seen B) hr (by decide) rfl (pa_cons (pv 0) (pa_cons (pv 4) (pa_cons (pv 6) pa_nil)))) (pe_c (cal__law_seen B) hr (by decide) rfl (pa_cons (pv 0) (pa_cons (pv 1) (pa_cons (pv 6) pa_nil)))) (nomark _))))))) (fun _ _ _ _ _ => (pv 6)))
            (pss_one (ps_if (pt_cmpR (op_eqD hr.units) (pv 5) (pe_lstN pa_nil) (nomark _)) (
                (pss_one (ps_expr (pe_bm PySem.F.plainAttrs_list PySem.F.slot_list_append PySem.F.type_list_append mt_append (pv 3) (pa_cons (pv 4) pa_nil)))
                )) (pss_nil))
            ))))
        (pss_one (ps_ret (pv 3))
        )))) (pss_nil))
    (pss_cons (ps_par (i := 7) (j := 8) rfl sc__law_after.nd rfl rfl (by decide) rfl rfl (pa_cons (pe_tm PySem.F.slot_tuple_index PySem.F.type_tuple_index mt_tidx (pv 1) (pa_cons (pe_ix ix_tup (pv 2) pe_int (fun _ _ => rfl)) pa_nil)) (pa_cons (pe_lstN pa_nil) pa_nil)) rfl)
    (pss_cons (ps_for PassesOwn.never rfl (pi_range1 rfl B.f_range (pa_cons (pe_callB call_len rfl B.f_len boot_len (pa_cons (pv 1) pa_nil)) pa_nil)) (pg_name (i := 6) sc__law_after.nd rfl (.inl rfl)) (
        (pss_one (ps_if (PW.pt (pw_and (pt_cmp (pc_isN (pe_ix ix_tup (pv 1) (pv 6) (fun _ _ => rfl)))) (pw_and1 (PW.pt (pw_or (pt_cmpR op_eq (pe_ix ix_tup (pv 2) pe_int (fun _ _ => rfl)) pe_str (nomark _)) (pw_or1 (pt_cmpR op_in_seq (pe_op op_sub (pv 6) (pv 7)) (pe_tupF (pa_cons pe_int (pa_cons (pe_un un_neg pe_int) pa_nil))) rfl))))))) (
            (pss_one (ps_expr (pe_bm PySem.F.plainAttrs_list PySem.F.slot_list_append PySem.F.type_list_append mt_append (pv 8) (pa_cons (pe_c (cal__law_turned B) hr (by decide) rfl (pa_cons (pv 1) (pa_cons (pv 7) (pa_cons (pv 6) pa_nil)))) pa_nil)))
            )) (pss_nil))
        )))
    (pss_one (ps_ret (pe_sortedK (cal__law_rank B) hr (by decide) rfl rfl B.f_sorted rfl (pa_cons (pv 8) pa_nil)))
    ))))), ?_⟩
    cases e with
    | swap x y =>
      refine ⟨_, rfl, _, _, _, _, rfl, rfl, hc, rfl, rfl, true, rfl, iteT ?_⟩
      obtain ⟨g1, g2⟩ := idx_get (lay_has il ok.1)
      obtain ⟨g3, g4⟩ := idx_get (lay_has il ok.2.1)
      refine ⟨_, rfl, _, rfl, ⟨_, _, rfl, hb⟩, _, rfl, _, _, _, _, rfl, rfl, hc, rfl, _, _, _, _, _, rfl, rfl, hb.sq, rfl, flat_oV l, map_get g1, by show (x == x) = true; exact beq_self_eq_true x, idx_no g2, ?_⟩
      refine ⟨_, rfl, ⟨_, _, rfl, hb⟩, _, rfl, _, _, _, _, rfl, rfl, hc, rfl, _, _, _, _, _, rfl, rfl, hb.sq, rfl, flat_oV l, map_get g3, by show (y == y) = true; exact beq_self_eq_true y, idx_no g4, ?_⟩
      refine ⟨.ref b, l, _, _, rfl, ⟨b, rfl, hb⟩, (List.getElem?_eq_some_iff.mp g1).1, (List.getElem?_eq_some_iff.mp g3).1, by omega, fun H3 r e3 hr3 => ⟨small (by simp), fun L H4 nL e4 hL => ?_⟩⟩
      exact q _ _ [_] (e3.trans e4) (e3.free nL) ⟨_, hL, .cons (hr3.mono e4.n) .nil⟩ (by simp) fun m => List.mem_singleton
    | shuffle d =>
      refine ⟨_, rfl, _, _, _, _, rfl, rfl, hc, rfl, rfl, false, rfl, iteF ⟨_, rfl, _, _, _, _, rfl, rfl, hc, rfl, rfl, true, rfl, iteT ?_⟩⟩
      obtain ⟨p, dd, cc, rfl, h1, ⟨d', as, ed, htd, hpd⟩, h3⟩ := id sv
      cases ed
      have dl := Paired.len hpd
      have okw := okc.2.2.2.1
      have d4 := okd.2.1
      refine ⟨small (by simp), fun F H1 nF e1 hF => ?_⟩
      refine ⟨_, rfl, _, ds, cs, rfl, sv.mono e1.n, okd, okc, fun H2 r e2 nr ⟨rvs, hr2, pr2⟩ => ⟨_, rfl, ⟨_, SqL.of hr2⟩, ?_⟩⟩
      have rl : (allLay ds cs).length ≤ 46656 := Nat.le_trans (layAt_len okc.2.1 _) (pow6 n6)
      have hF2 := e2 _ _ hF
      have Fr : F ≠ r := fun z => by rw [z, nr] at hF; cases hF
      refine for_it walk_list (fun i σ H3 => (∃ j4 j5 j6 j7 j8, σ = [some (.ref p), some (.ref b), some (.ref c), some (.ref F), j4, j5, j6, j7, j8]) ∧ Same H H3 ∧ H3 r = some (.lst rvs) ∧ Paired (LayV H3) rvs (allLay ds cs) ∧ LaysV H3 F (((allLay ds cs).take i).filter fun m => decide (∀ k ∈ List.range ds.length, k ≠ d → seen ds m k = seen ds l k))) ?_
        (fun i σ H3 _ p => SqL.of p.2.2.1) (fun i y σ H4 H3 hi p hy => ?_) (fun σ H3 p => ?_)
      · exact ⟨⟨_, _, _, _, _, rfl⟩, e1.trans e2, hr2, pr2, _, hF2, .nil⟩
      · obtain ⟨⟨j4, j5, j6, j7, j8, rfl⟩, e3, hr3, pr3, fvs, hF3, pf3⟩ := p
        obtain ⟨rfl, hy⟩ := hy
        obtain ⟨m, hm, ⟨ma, rfl, hma⟩⟩ := Paired.get1 pr3 hy
        have ilm : IsLay (places ds) cs m := (allLay_mem okc).mp (List.mem_of_getElem? hm)
        refine ⟨_, rfl, _, _, _, _, rfl, rfl, e3.tup h1, rfl, _, _, rfl, .inr ⟨_, e3.tup htd, rfl⟩, _, rfl, by omega, by omega, ?_⟩
        have hpl : ((as.length : Nat) : Int).toNat = ds.length := by rw [Int.toNat_natCast, dl]
        refine comp_it walk_rng (List.range ds.length) (fun k => if k ≠ d ∧ seen ds m k ≠ seen ds l k then some k else none) (fun _ v k => v = nV k) (fun _ v k => v = nV k) (fun _ _ _ _ _ h => h) (by rw [List.length_range, hpl]) (fun _ _ => trivial)
          (by rw [hpl]; omega) (fun k H5 x H' j hj hy e => ?_) (fun k j x H' Qy Qn hj e hs ky kn => ?_) (fun D H5 ys hD e5 g1 g2 => ?_)
        · obtain ⟨rfl, rfl⟩ := hy
          obtain ⟨rfl, _⟩ := range_get hj
          exact ⟨Same.refl _, rfl⟩
        · subst hs
          have e03 := e3.trans e
          refine ⟨rfl, _, rfl, _, rfl, _, _, _, _, rfl, rfl, e03.tup hc, rfl, rfl, ?_⟩
          by_cases hjd : j = d
          · exact ⟨false, bl_nf (congrArg nV hjd), iteF (iteF (kn (if_neg fun z => z.1 hjd) _ (Same.refl _)))⟩
          · refine ⟨true, bl_nt (nV_ne hjd), iteT ⟨_, rfl, _, rfl, _, rfl, _, _, ds, cs, m, j, rfl, sv.mono e03.n, okd, ⟨ma, rfl, hma.mono e.n⟩, ilm.1, fun H6 r1 e6 ⟨a1, er1, ha1⟩ => ?_⟩⟩
            subst er1
            refine ⟨_, rfl, _, rfl, _, rfl, _, _, ds, cs, l, j, rfl, sv.mono (e03.trans e6).n, okd, ⟨b, rfl, hb.mono (e03.trans e6).n⟩, il.1, fun H7 r2 e7 ⟨a2, er2, ha2⟩ => ?_⟩
            subst er2
            refine rNe_lay (ha1.mono e7.n).sq ha2.sq (fun z hz => lay_ok ilm okw z (seen_mem hz)) (fun z hz => lay_ok il okw z (seen_mem hz)) ?_
            by_cases hse : seen ds m j = seen ds l j
            · exact ⟨false, bl_nf hse, iteF (kn (if_neg fun z => z.2 hse) _ (e6.trans e7))⟩
            · exact ⟨true, bl_nt hse, iteT ⟨_, rfl, ky _ _ _ (if_pos ⟨hjd, hse⟩) (e6.trans e7) rfl⟩⟩
        · have yn := nats_of g2
          refine ⟨_, rfl, small (by simp), fun L H6 nL e6 hL => ?_⟩
          have dd2 : DpAll K H6 ys (((List.range ds.length).filterMap fun k => if k ≠ d ∧ seen ds m k ≠ seen ds l k then some k else none).map fun i => PyData.int ((i : Nat) : Int)) := by
            rw [yn]
            exact DpAll.map (fun a => .int _) _
          refine rEq_nil _ 0 (by decide) (SqL.of (e6 _ _ g1)) (SqL.of hL) dd2 (fun x hx => by obtain ⟨i, _, rfl⟩ := List.mem_map.mp hx; exact Sh.int _) ⟨_, rfl, ?_⟩
          have hg : ys = [] ↔ ∀ k ∈ List.range ds.length, k ≠ d → seen ds m k = seen ds l k := by
            rw [yn, List.map_eq_nil_iff, List.filterMap_eq_nil_iff]
            constructor
            · intro h k hk kd
              by_cases hse : seen ds m k = seen ds l k
              · exact hse
              · have := h k hk
                rw [if_pos ⟨kd, hse⟩] at this
                cases this
            · intro h k hk
              exact if_neg fun z => z.2 (h k hk z.1)
          have e36 := e5.trans e6
          have hF6 := e36 _ _ hF3
          have hr6 := e36 _ _ hr3
          have pr6 := pmono e36.n pr3
          have pf6 := pmono e36.n pf3
          have fl : fvs.length ≤ 46656 := by
            rw [Paired.len pf3]
            refine Nat.le_trans (List.length_filter_le _ _) ?_
            rw [List.length_take]
            omega
          by_cases good : ∀ k ∈ List.range ds.length, k ≠ d → seen ds m k = seen ds l k
          · rw [decide_eq_true (hg.mpr good)]
            refine iteT ⟨_, rfl, .inl ⟨rfl, _, SqL.of hF6⟩, _, rfl, _, _, _, rfl, rfl, hF6, small' (by omega), ⟨_, _, _, _, _, rfl⟩, (e3.trans e36).mut nF, by rw [upd_ne Fr.symm]; exact hr6, pmono (SameN.wr hF6) pr6, _, upd_same, ?_⟩
            rw [take_succ_get hm, List.filter_append, show ([m].filter fun m => decide (∀ k ∈ List.range ds.length, k ≠ d → seen ds m k = seen ds l k)) = [m] from List.filter_eq_self.mpr fun x hx => by rw [List.mem_singleton.mp hx]; exact decide_eq_true good]
            exact pmono (SameN.wr hF6) (Paired.snoc pf6 ⟨ma, rfl, hma.mono e36.n⟩)
          · rw [decide_eq_false (fun z => good (hg.mp z))]
            refine iteF ⟨⟨_, _, _, _, _, rfl⟩, e3.trans e36, hr6, pr6, fvs, hF6, ?_⟩
            rw [take_succ_get hm, List.filter_append, show ([m].filter fun m => decide (∀ k ∈ List.range ds.length, k ≠ d → seen ds m k = seen ds l k)) = [] from List.filter_eq_nil_iff.mpr fun x hx => by rw [List.mem_singleton.mp hx, decide_eq_true_eq]; exact good, List.append_nil]
            exact pf6
      · obtain ⟨⟨j4, j5, j6, j7, j8, rfl⟩, e3, hr3, pr3, lf⟩ := p
        rw [Paired.len pr2, List.take_length] at lf
        refine ⟨_, rfl, q H3 F _ e3 nF lf (Nat.le_trans (List.length_filter_le _ _) rl) fun m => ?_⟩
        rw [List.mem_filter, decide_eq_true_eq, allLay_mem okc]
        constructor
        · rintro ⟨hm, h⟩
          exact (seen_shuf il hm).mp fun k hk kd => h k (List.mem_range.mpr hk) kd
        · intro h
          have ilm := perm_lay il (after_perm il ok h)
          exact ⟨ilm, fun k hk kd => (seen_shuf il ilm).mpr h k (List.mem_range.mp hk) kd⟩
    | move z =>
      refine ⟨_, rfl, _, _, _, _, rfl, rfl, hc, rfl, rfl, false, rfl, iteF ⟨_, rfl, _, _, _, _, rfl, rfl, hc, rfl, rfl, false, rfl, iteF ?_⟩⟩
      obtain ⟨g1, g2⟩ := idx_get (lay_has il ok)
      have ih : idxOf l z < l.length := (List.getElem?_eq_some_iff.mp g1).1
      refine ⟨_, rfl, ⟨_, _, rfl, hb⟩, _, rfl, _, _, _, _, rfl, rfl, hc, rfl, _, _, _, _, _, rfl, rfl, hb.sq, rfl, flat_oV l, map_get g1, by show (z == z) = true; exact beq_self_eq_true z, idx_no g2, small (by simp), fun L H1 nL e1 hL => ⟨_, _, rfl, ?_⟩⟩
      refine ⟨_, rfl, _, _, rfl, .inr ⟨_, (hb.mono e1.n).sq, rfl⟩, _, rfl, by rw [List.length_map]; omega, by rw [List.length_map]; omega, ?_⟩
      have hpl : (((l.map oV).length : Nat) : Int).toNat = l.length := by rw [Int.toNat_natCast, List.length_map]
      refine for_it walk_rng (fun i σ H2 => (∃ j3 j4 j5 j6, σ = [some v, some (.ref b), some (.ref c), j3, j4, j5, j6, some (nV (idxOf l z)), some (.ref L)]) ∧ Same H H2 ∧ LaysV H2 L (putsL l (idxOf l z) false i)) ?_ (fun _ _ _ _ _ => trivial) (fun i y σ H3' H3 hi p hy => ?_) (fun σ H2 p => ?_)
      · exact ⟨⟨_, _, _, _, rfl⟩, e1, _, hL, .nil⟩
      · obtain ⟨⟨j3, j4, j5, j6, rfl⟩, e3, lvs, hL3, pl3⟩ := p
        obtain ⟨rfl, rfl⟩ := hy
        rw [hpl] at hi
        obtain ⟨o, ho⟩ : ∃ o, l[i]? = some o := ⟨_, List.getElem?_eq_getElem hi⟩
        refine ⟨_, rfl, _, rfl, _, _, _, _, rfl, rfl, (hb.mono e3.n).sq, atI_nat (map_get ho), ?_⟩
        cases o with
        | some x =>
          have c0 : putC l (idxOf l z) false i = false := by unfold putC; rw [ho]; rfl
          exact ⟨false, bl_f (fun h => nomatch h), iteF (iteF ⟨⟨_, _, _, _, rfl⟩, e3, lvs, hL3, by rw [putsL_succ, if_neg (by rw [c0]; exact Bool.false_ne_true), List.append_nil]; exact pl3⟩)⟩
        | none =>
          refine ⟨true, bl_t rfl, iteT ⟨_, rfl, _, _, _, _, rfl, rfl, e3.tup hc, rfl, ?_⟩⟩
          have ll : lvs.length ≤ 6 := by
            rw [Paired.len pl3]
            exact Nat.le_trans (putsL_len _ _ _ _) (by omega)
          have c0 : putC l (idxOf l z) false i = true := by unfold putC; rw [ho]; rfl
          refine ⟨rfl, true, rfl, iteT (iteT ?_)⟩
          exact ⟨_, rfl, .inl ⟨rfl, _, SqL.of hL3⟩, _, rfl, _, rfl, _, rfl, .ref b, l, idxOf l z, i, rfl, ⟨b, rfl, hb.mono e3.n⟩, ih, hi, by omega, fun H4 r e4 hr => ⟨_, _, _, rfl, rfl, e4 _ _ hL3, small' (by omega), ⟨_, _, _, _, rfl⟩, (e3.trans e4).mut nL, _, upd_same, by
            rw [putsL_succ, if_pos c0]
            exact pmono (SameN.wr (e4 _ _ hL3)) (Paired.snoc (pmono e4.n pl3) hr)⟩⟩
      · obtain ⟨⟨j3, j4, j5, j6, rfl⟩, e2, lvs, hL2, pl2⟩ := p
        rw [hpl] at pl2
        refine ⟨_, rfl, _, rfl, L, _, rfl, .inl ⟨_, SqL.of hL2, pl2⟩, fun m hm => ?_, fun H' v' m hv hm => ⟨v', m, rfl, hv, ?_, fun H2 r e2 kv => ⟨e2, kv⟩⟩, fun H' p e' np lp => q H' p _ (e2.trans e') (e2.free np) lp ?_ fun m => ?_⟩
        · intro z0
          have := (putL_len hm)
          rw [z0] at this
          have : 0 = l.length := this
          omega
        · rw [putL_len hm]; omega
        · rw [sortL_len]
          exact Nat.le_trans (putsL_len _ _ _ _) (by omega)
        · rw [sortL_mem, putsL_mem (ds := ds)]
          exact Iff.rfl
    | near z =>
      refine ⟨_, rfl, _, _, _, _, rfl, rfl, hc, rfl, rfl, false, rfl, iteF ⟨_, rfl, _, _, _, _, rfl, rfl, hc, rfl, rfl, false, rfl, iteF ?_⟩⟩
      obtain ⟨g1, g2⟩ := idx_get (lay_has il ok)
      have ih : idxOf l z < l.length := (List.getElem?_eq_some_iff.mp g1).1
      refine ⟨_, rfl, ⟨_, _, rfl, hb⟩, _, rfl, _, _, _, _, rfl, rfl, hc, rfl, _, _, _, _, _, rfl, rfl, hb.sq, rfl, flat_oV l, map_get g1, by show (z == z) = true; exact beq_self_eq_true z, idx_no g2, small (by simp), fun L H1 nL e1 hL => ⟨_, _, rfl, ?_⟩⟩
      refine ⟨_, rfl, _, _, rfl, .inr ⟨_, (hb.mono e1.n).sq, rfl⟩, _, rfl, by rw [List.length_map]; omega, by rw [List.length_map]; omega, ?_⟩
      have hpl : (((l.map oV).length : Nat) : Int).toNat = l.length := by rw [Int.toNat_natCast, List.length_map]
      refine for_it walk_rng (fun i σ H2 => (∃ j3 j4 j5 j6, σ = [some v, some (.ref b), some (.ref c), j3, j4, j5, j6, some (nV (idxOf l z)), some (.ref L)]) ∧ Same H H2 ∧ LaysV H2 L (putsL l (idxOf l z) true i)) ?_ (fun _ _ _ _ _ => trivial) (fun i y σ H3' H3 hi p hy => ?_) (fun σ H2 p => ?_)
      · exact ⟨⟨_, _, _, _, rfl⟩, e1, _, hL, .nil⟩
      · obtain ⟨⟨j3, j4, j5, j6, rfl⟩, e3, lvs, hL3, pl3⟩ := p
        obtain ⟨rfl, rfl⟩ := hy
        rw [hpl] at hi
        obtain ⟨o, ho⟩ : ∃ o, l[i]? = some o := ⟨_, List.getElem?_eq_getElem hi⟩
        refine ⟨_, rfl, _, rfl, _, _, _, _, rfl, rfl, (hb.mono e3.n).sq, atI_nat (map_get ho), ?_⟩
        cases o with
        | some x =>
          have c0 : putC l (idxOf l z) true i = false := by unfold putC; rw [ho]; rfl
          exact ⟨false, bl_f (fun h => nomatch h), iteF (iteF ⟨⟨_, _, _, _, rfl⟩, e3, lvs, hL3, by rw [putsL_succ, if_neg (by rw [c0]; exact Bool.false_ne_true), List.append_nil]; exact pl3⟩)⟩
        | none =>
          refine ⟨true, bl_t rfl, iteT ⟨_, rfl, _, _, _, _, rfl, rfl, e3.tup hc, rfl, ?_⟩⟩
          have ll : lvs.length ≤ 6 := by
            rw [Paired.len pl3]
            exact Nat.le_trans (putsL_len _ _ _ _) (by omega)
          refine ⟨rfl, false, rfl, iteF ⟨_, rfl, _, rfl, _, _, rfl, rfl, _, rfl, small (by simp), fun T H4 nT e4 hT => ⟨_, _, rfl, .inr hT.sq, rfl, rfl, ?_⟩⟩⟩
          have hL4 := e4 _ _ hL3
          have pl4 := pmono e4.n pl3
          have e34 := e3.trans e4
          by_cases h2 : i = idxOf l z + 1 ∨ idxOf l z = i + 1
          · have c0 : putC l (idxOf l z) true i = true := by unfold putC; rw [ho, decide_eq_true h2]; rfl
            refine ⟨true, congrArg V.bl ?_, iteT ?_⟩
            · show inV (.int (((i : Nat) : Int) - ((idxOf l z : Nat) : Int))) [.int 1, .int (-1)] = true
              rw [in_pm, decide_eq_true h2]
            · exact ⟨_, rfl, .inl ⟨rfl, _, SqL.of hL4⟩, _, rfl, _, rfl, _, rfl, .ref b, l, idxOf l z, i, rfl, ⟨b, rfl, hb.mono e34.n⟩, ih, hi, by omega, fun H5 r e5 hr => ⟨_, _, _, rfl, rfl, e5 _ _ hL4, small' (by omega), ⟨_, _, _, _, rfl⟩, (e34.trans e5).mut nL, _, upd_same, by
                rw [putsL_succ, if_pos c0]
                exact pmono (SameN.wr (e5 _ _ hL4)) (Paired.snoc (pmono e5.n pl4) hr)⟩⟩
          · have c0 : putC l (idxOf l z) true i = false := by unfold putC; rw [decide_eq_false h2, Bool.not_true, Bool.false_or, Bool.and_false]
            refine ⟨false, congrArg V.bl ?_, iteF ⟨⟨_, _, _, _, rfl⟩, e34, lvs, hL4, by rw [putsL_succ, if_neg (by rw [c0]; exact Bool.false_ne_true), List.append_nil]; exact pl4⟩⟩
            show inV (.int (((i : Nat) : Int) - ((idxOf l z : Nat) : Int))) [.int 1, .int (-1)] = false
            rw [in_pm, decide_eq_false h2]
      · obtain ⟨⟨j3, j4, j5, j6, rfl⟩, e2, lvs, hL2, pl2⟩ := p
        rw [hpl] at pl2
        refine ⟨_, rfl, _, rfl, L, _, rfl, .inl ⟨_, SqL.of hL2, pl2⟩, fun m hm => ?_, fun H' v' m hv hm => ⟨v', m, rfl, hv, ?_, fun H2 r e2 kv => ⟨e2, kv⟩⟩, fun H' p e' np lp => q H' p _ (e2.trans e') (e2.free np) lp ?_ fun m => ?_⟩
        · intro z0
          have := (putL_len hm)
          rw [z0] at this
          have : 0 = l.length := this
          omega
        · rw [putL_len hm]; omega
        · rw [sortL_len]
          exact Nat.le_trans (putsL_len _ _ _ _) (by omega)
        · rw [sortL_mem, putsL_mem (ds := ds)]
          exact Iff.rfl
end
end CC

/-! text E8 -/
namespace CC
open PySem PySem.Spec PyProof.Rows L2
theorem But.scheme {K : PySem.W.Frag} {r : Addr} {H H' : Hp} {xs : List V} {v : V} {ds : List Door} {cs : List Str} (k : But r H H') (h : H r = some (.lst xs)) (s : SchemeV K H v ds cs) : SchemeV K H' v ds cs := by
  obtain ⟨p, d, c, rfl, h1, ⟨a, as, e, ht, hp⟩, h3⟩ := s
  exact ⟨p, d, c, rfl, k.tupL h h1, ⟨a, as, e, k.tupL h ht, Paired.imp (fun _ _ ⟨b, e, q⟩ => ⟨b, e, k.tupL h q⟩) hp⟩, k.tupL h h3⟩
section
variable {P : Program} {w : World} {K : PySem.W.Frag} {mg : Str → Option Value} {base : Heap} {C : Addr}
def spLDeed (K : PySem.W.Frag) : SpN := fun vs H Q => ∃ (d : Dr) (v : V) (ds : List Door) (cs : List Str), vs = [.ref d.1, v] ∧ DrawAt K H d ∧ SchemeV K H v ds cs ∧ OkDoors ds ∧ OkCrates cs (places ds) ∧ ∀ (H' : Hp) (x : V) (e : Deed), But d.1 H H' → DrawAt K H' d → DeedV K H' x e → OkDeed ds cs e → Q x H'
abbrev s__law_deed : Stmt := topS 98
abbrev N__law_deed : List Str := ["_law_row", "_law_s", "_law_word"]
theorem sc__law_deed : FnScope N__law_deed ["_law_row", "_law_s"] (defScope s__law_deed) := ⟨rfl, rfl, rfl, by decide +kernel, rfl, by decide +kernel, by decide +kernel⟩
-- cells: []; calls: ['_law_mixed', '_law_pick', '_law_taken']
theorem cal__law_deed (B : Base K mg) : Cal P w K mg base 3 "_law_deed" (spLDeed K) := by
  refine B.d__law_deed.ok sc__law_deed (fun vs H Q h => ?_) (fun f cdv A outer s H vs Q E hr h => ?_)
  · obtain ⟨d, v, ds, cs, rfl, _⟩ := h
    rfl
  · obtain ⟨d, v, ds, cs, rfl, hd, sv, okd, okc, q⟩ := h
    obtain ⟨xs, hrw⟩ := hd.lst
    have c1 := okc.1
    have c5 := okc.2.1
    refine ⟨_, (pss_cons (ps_set (i := 2) sc__law_deed.nd rfl (.inl rfl) (pe_c (cal__law_pick B) hr (by decide) rfl (pa_cons (pv 0) (pa_cons (pe_lstN (pa_cons pe_str (pa_cons pe_str (pa_cons pe_str (pa_cons pe_str pa_nil))))) pa_nil))))
    (pss_cons (ps_if (pt_cmpR op_eq (pv 2) pe_str (nomark _)) (
        (pss_one (ps_ret (pe_tupF (pa_cons (pv 2) (pa_cons (pe_c (cal__law_taken B) hr (by decide) rfl (pa_cons (pv 0) (pa_cons (pe_callB call_len rfl B.f_len boot_len (pa_cons (pe_ix ix_tup (pv 1) pe_int (fun _ _ => rfl)) pa_nil)) pa_nil))) pa_nil))))
        )) (pss_nil))
    (pss_cons (ps_if (PW.pt (pw_and (pt_cmpR op_eq (pv 2) pe_str (nomark _)) (pw_and1 (pt_cmpR op_gt (pe_callB call_len rfl B.f_len boot_len (pa_cons (pe_ix ix_tup (pv 1) pe_int (fun _ _ => rfl)) pa_nil)) pe_int (nomark _))))) (
        (pss_one (ps_ret (pe_op op_catF (pe_tupF (pa_cons (pv 2) pa_nil)) (pe_callTy call_tupleF rfl B.f_tuple (by decide +kernel) (pa_cons (pe_slice sl_list (pe_c (cal__law_mixed B) hr (by decide) rfl (pa_cons (pv 0) (pa_cons (pe_ix ix_tup (pv 1) pe_int (fun _ _ => rfl)) pa_nil))) po_none (po_some pe_int)) pa_nil))))
        )) (pss_nil))
    (pss_one (ps_ret (pe_tupF (pa_cons (pe_c (cal__law_pick B) hr (by decide) rfl (pa_cons (pv 0) (pa_cons (pe_lstN (pa_cons pe_str (pa_cons pe_str pa_nil))) pa_nil))) (pa_cons (pe_c (cal__law_pick B) hr (by decide) rfl (pa_cons (pv 0) (pa_cons (pe_ix ix_tup (pv 1) pe_int (fun _ _ => rfl)) pa_nil))) pa_nil))))
    )))), ?_⟩
    refine ⟨_, rfl, small (by simp), fun W H1 nW e1 hW => ⟨d, W, _, rfl, hd.same e1, .inl ⟨SqL.of hW, (hd.new nW).1⟩, by simp, by simp, fun H2 i x k2 d2 hx => ?_⟩⟩
    have k02 := (But.of e1).trans k2
    have sv2 := k02.scheme hrw sv
    obtain ⟨p, dd, cc, rfl, h1, ⟨d', as, ed, htd, hpd⟩, h3⟩ := id sv2
    cases ed
    have dl := Paired.len hpd
    obtain ⟨xs2, hrw2⟩ := d2.lst
    have last : ∀ (wd : Str), wd = "move" ∨ wd = "near" ∨ wd = "swap" → True := fun _ _ => trivial
    rcases i with _ | _ | _ | _ | n
    · cases (show some (V.str "move") = some x from hx)
      refine ⟨_, rfl, rfl, false, rfl, iteF ⟨_, rfl, rfl, false, rfl, iteF (iteF ?_)⟩⟩
      refine ⟨_, rfl, small (by simp), fun W2 H3 nW2 e3 hW2 => ⟨d, W2, _, rfl, d2.same e3, .inl ⟨SqL.of hW2, (d2.new nW2).1⟩, by simp, by simp, fun H4 j x2 k4 d4 hx2 => ?_⟩⟩
      have k24 : But d.1 H2 H4 := (But.of e3).trans k4
      refine ⟨_, rfl, _, rfl, _, _, _, _, rfl, rfl, k24.tupL hrw2 h1, rfl, d, cc, _, rfl, d4, .inr (k24.tupL hrw2 h3), by rw [List.length_map]; exact c1, by rw [List.length_map]; omega, fun H5 j2 x3 k5 d5 hx3 => ⟨small (by simp), fun T H6 nT e6 hT => ?_⟩⟩
      obtain ⟨z, hz, rfl⟩ := sV_get hx3
      have kk := k02.trans (k24.trans (k5.trans (But.of e6)))
      rcases j with _ | _ | n
      · cases (show some (V.str "move") = some x2 from hx2)
        exact q H6 _ (.move z) kk (d5.same e6) ⟨T, rfl, hT.sq⟩ (List.mem_of_getElem? hz)
      · cases (show some (V.str "near") = some x2 from hx2)
        exact q H6 _ (.near z) kk (d5.same e6) ⟨T, rfl, hT.sq⟩ (List.mem_of_getElem? hz)
      · simp at hx2
    · cases (show some (V.str "near") = some x from hx)
      refine ⟨_, rfl, rfl, false, rfl, iteF ⟨_, rfl, rfl, false, rfl, iteF (iteF ?_)⟩⟩
      refine ⟨_, rfl, small (by simp), fun W2 H3 nW2 e3 hW2 => ⟨d, W2, _, rfl, d2.same e3, .inl ⟨SqL.of hW2, (d2.new nW2).1⟩, by simp, by simp, fun H4 j x2 k4 d4 hx2 => ?_⟩⟩
      have k24 : But d.1 H2 H4 := (But.of e3).trans k4
      refine ⟨_, rfl, _, rfl, _, _, _, _, rfl, rfl, k24.tupL hrw2 h1, rfl, d, cc, _, rfl, d4, .inr (k24.tupL hrw2 h3), by rw [List.length_map]; exact c1, by rw [List.length_map]; omega, fun H5 j2 x3 k5 d5 hx3 => ⟨small (by simp), fun T H6 nT e6 hT => ?_⟩⟩
      obtain ⟨z, hz, rfl⟩ := sV_get hx3
      have kk := k02.trans (k24.trans (k5.trans (But.of e6)))
      rcases j with _ | _ | n
      · cases (show some (V.str "move") = some x2 from hx2)
        exact q H6 _ (.move z) kk (d5.same e6) ⟨T, rfl, hT.sq⟩ (List.mem_of_getElem? hz)
      · cases (show some (V.str "near") = some x2 from hx2)
        exact q H6 _ (.near z) kk (d5.same e6) ⟨T, rfl, hT.sq⟩ (List.mem_of_getElem? hz)
      · simp at hx2
    · cases (show some (V.str "swap") = some x from hx)
      refine ⟨_, rfl, rfl, false, rfl, iteF ⟨_, rfl, rfl, true, rfl, iteT ?_⟩⟩
      refine ⟨_, rfl, _, _, _, _, rfl, rfl, h1, rfl, _, _, rfl, .inr ⟨_, h3, rfl⟩, _, _, rfl, rfl, _, rfl, ite2 (fun h => ?_) (fun h => ?_)⟩
      · have h : decide (((1 : Nat) : Int) < (((cs.map V.str).length : Nat) : Int)) = true := h
        have c2 : 2 ≤ cs.length := by
          have := of_decide_eq_true h
          rw [List.length_map] at this
          omega
        refine ⟨_, rfl, small (by simp), fun T H3 nT e3 hT => ?_⟩
        refine ⟨_, rfl, _, rfl, _, _, _, _, rfl, rfl, e3.tup h1, rfl, d, cc, cs, rfl, d2.same e3, e3.tup h3, fun c hc => word_ok (okc.2.2.2.1 c hc), by omega, fun H4 D zs k4 d4 nD hD pm => ?_⟩
        refine ⟨_, rfl, _, _, rfl, SqL.of hD, fun S2 nS2 => ?_⟩
        generalize hh : upd H4 S2 _ = H5
        obtain ⟨e5, hS2⟩ := upH hh nS2
        clear hh
        obtain ⟨a, b, rest, rfl⟩ : ∃ a b rest, zs = a :: b :: rest := by
          have := pm.length_eq
          match zs with
          | [] => simp at this; omega
          | [_] => simp at this; omega
          | a :: b :: r => exact ⟨a, b, r, rfl⟩
        have nd := pm.symm.nodup (crates_nodup okc)
        have ab : a ≠ b := fun z => (List.nodup_cons.mp nd).1 (by rw [z]; exact List.mem_cons_self)
        have hS2 : H5 S2 = some (.lst [.str a, .str b]) := by
          rw [hS2]
          show some (HO.lst (cutV ((a :: b :: rest).map V.str) none (some ((2 : Nat) : Int)))) = _
          unfold cutV
          rw [HT.sIx_none, HT.sIx_nat, List.length_map, Nat.min_eq_left (show 2 ≤ (a :: b :: rest).length by simp)]
          rfl
        refine ⟨_, _, rfl, SqL.of hS2, fun T2 H6 nT2 e6 hT2 => ?_⟩
        have e56 := e5.trans e6
        obtain ⟨xs3, hrw3⟩ := (d2.same e3).lst
        have hT6 := e56.tup (k4.tupL (K := K) hrw3 hT.sq)
        refine ⟨_, _, _, _, rfl, rfl, hT6, hT2.sq, small (by simp), fun z => (nomatch z), fun _ z => (nomatch z), fun _ _ => fun T3 H7 nT3 e7 hT3 => ?_⟩
        exact q H7 _ (.swap a b) (k02.trans ((But.of e3).trans (k4.trans (But.of (e56.trans e7))))) (d4.same (e56.trans e7)) ⟨T3, rfl, hT3.sq⟩ ⟨pm.subset List.mem_cons_self, pm.subset (List.mem_cons_of_mem _ List.mem_cons_self), ab⟩
      · skip
        refine ⟨_, rfl, small (by simp), fun W2 H3 nW2 e3 hW2 => ⟨d, W2, _, rfl, d2.same e3, .inl ⟨SqL.of hW2, (d2.new nW2).1⟩, by simp, by simp, fun H4 j x2 k4 d4 hx2 => ?_⟩⟩
        have k24 : But d.1 H2 H4 := (But.of e3).trans k4
        refine ⟨_, rfl, _, rfl, _, _, _, _, rfl, rfl, k24.tupL hrw2 h1, rfl, d, cc, _, rfl, d4, .inr (k24.tupL hrw2 h3), by rw [List.length_map]; exact c1, by rw [List.length_map]; omega, fun H5 j2 x3 k5 d5 hx3 => ⟨small (by simp), fun T H6 nT e6 hT => ?_⟩⟩
        obtain ⟨z, hz, rfl⟩ := sV_get hx3
        have kk := k02.trans (k24.trans (k5.trans (But.of e6)))
        rcases j with _ | _ | n
        · cases (show some (V.str "move") = some x2 from hx2)
          exact q H6 _ (.move z) kk (d5.same e6) ⟨T, rfl, hT.sq⟩ (List.mem_of_getElem? hz)
        · cases (show some (V.str "near") = some x2 from hx2)
          exact q H6 _ (.near z) kk (d5.same e6) ⟨T, rfl, hT.sq⟩ (List.mem_of_getElem? hz)
        · simp at hx2
    · cases (show some (V.str "shuffle") = some x from hx)
      refine ⟨_, rfl, rfl, true, rfl, iteT ?_⟩
      refine ⟨_, rfl, _, rfl, _, rfl, _, _, _, _, rfl, rfl, h1, rfl, _, _, rfl, .inr ⟨_, htd, rfl⟩, d, as.length, rfl, d2, by have := okd.1; omega, by have := okd.2.1; omega, fun H3 t k3 d3 ht => ⟨small (by simp), fun T H4 nT e4 hT => ?_⟩⟩
      exact q H4 _ (.shuffle t) (k02.trans (k3.trans (But.of e4))) (d3.same e4) ⟨T, rfl, hT.sq⟩ (show t < ds.length by omega)
    · simp at hx
end
end CC

/-! text E9 -/
namespace CC
open PySem PySem.Spec PyProof.Rows L2
theorem SameM.scheme {K : PySem.W.Frag} {H H' : Hp} {v : V} {ds : List Door} {cs : List Str} (e : SameM H H') (s : SchemeV K H v ds cs) : SchemeV K H' v ds cs := by
  obtain ⟨p, d, c, rfl, h1, h2, h3⟩ := s
  exact ⟨p, d, c, rfl, e.tup h1, e.doors h2, e.tup h3⟩
section
variable {P : Program} {w : World} {K : PySem.W.Frag} {mg : Str → Option Value} {base : Heap} {C : Addr}
def spLCounts (P : Program) (w : World) (K : PySem.W.Frag) : SpN := fun vs H Q => ∃ (a : V) (ds : List Door) (cs : List Str) (d : Addr) (ns : NKeys) (v : V) (rs : List LRow), vs = [a, .ref d, v] ∧ SchemeV K H a ds cs ∧ OkDoors ds ∧ OkCrates cs (places ds) ∧ CntAt P w ds cs H d ns ∧ LogV K H v rs ∧ rs.length ≤ 100 ∧ (∀ r ∈ rs, OkRow ds cs r) ∧
  ∀ H' d' ns', Same H H' → CntAt P w ds cs H' d' ns' → (∀ m, m ∈ ns'.map (·.1) ↔ Reach ds rs (fun l => l ∈ ns.map (·.1)) m) → Q (.ref d') H'
abbrev s__law_counts : Stmt := topS 101
abbrev N__law_counts : List Str := ["_law_s", "_law_counts_here", "_law_log", "_law_row", "_law_later", "_law_layout", "_law_some", "_law_other"]
theorem sc__law_counts : FnScope N__law_counts ["_law_s", "_law_counts_here", "_law_log"] (defScope s__law_counts) := ⟨rfl, rfl, rfl, by decide +kernel, rfl, by decide +kernel, by decide +kernel⟩
-- cells: []; calls: ['_law_after', '_law_is_so']
theorem cal__law_counts (B : Base K mg) : Cal P w K mg base 5 "_law_counts" (spLCounts P w K) := by
  refine B.d__law_counts.ok sc__law_counts (fun vs H Q h => ?_) (fun f cdv A outer s H vs Q E hr h => ?_)
  · obtain ⟨a, ds, cs, d, ns, v, rs, rfl, _⟩ := h
    rfl
  · obtain ⟨a, ds, cs, d0, ns0, v, rs, rfl, sv, okd, okc, c0, ⟨L, us, rfl, hL, pr⟩, r100, okr, q⟩ := h
    have n6 : places ds ≤ 6 := places_le okd
    have few : ∀ {ns : NKeys}, (ns.map (·.1)).Nodup → (∀ m ∈ ns.map (·.1), IsLay (places ds) cs m) → ns.length ≤ 46656 := fun {ns} h1 h2 => by
      have := keys_few okc n6 h1 h2
      rwa [List.length_map] at this
    refine ⟨_, (pss_cons (ps_for PassesOwn.never rfl (pi_list (pv 2)) (pg_name (i := 3) sc__law_counts.nd rfl (.inl rfl)) (
        (pss_cons (ps_set (i := 4) sc__law_counts.nd rfl (.inl rfl) pe_dnewN)
        (pss_cons (ps_lock (ps_for PassesOwn.never rfl (pi_keysN (pv 1)) (pg_name (i := 5) sc__law_counts.nd rfl (.inl rfl)) (
            (pss_cons (ps_if (pt_cmpR op_eq (pe_ix ix_tup (pv 3) pe_int (fun _ _ => rfl)) pe_str (nomark _)) (
                (pss_one (ps_set (i := 6) sc__law_counts.nd rfl (.inl rfl) (pe_ifExp (pt_val (pe_c (cal__law_is_so B) hr (by decide) rfl (pa_cons (pv 0) (pa_cons (pv 5) (pa_cons (pv 3) pa_nil))))) (pe_lstN (pa_cons (pv 5) pa_nil)) (pe_lstN pa_nil)))
                )) (
                (pss_one (ps_set (i := 6) sc__law_counts.nd rfl (.inl rfl) (pe_c (cal__law_after B) hr (by decide) rfl (pa_cons (pv 0) (pa_cons (pv 5) (pa_cons (pv 3) pa_nil)))))
                )))
            (pss_one (ps_for PassesOwn.never rfl (pi_list (pv 6)) (pg_name (i := 7) sc__law_counts.nd rfl (.inl rfl)) (
                (pss_one (ps_asg (pe_op op_add (pe_ngetOr hr (pv 4) (pv 7) pe_int) (pe_ngetD hr (pv 1) (pv 5))) (pg_sub (pv 4) (pv 7) (set_N hr)))
                )))
            )))))
        (pss_one (ps_set (i := 1) sc__law_counts.nd rfl (.inl rfl) (pv 4))
        )))))
    (pss_one (ps_ret (pv 1))
    )), ?_⟩
    refine ⟨_, rfl, _, rfl, ⟨_, SqL.of hL⟩, ?_⟩
    refine for_it walk_list (fun i σ H3 => ∃ d ns, (∃ j3 j4 j5 j6 j7, σ = [some a, some (.ref d), some (.ref L), j3, j4, j5, j6, j7]) ∧ Same H H3 ∧ CntAt P w ds cs H3 d ns ∧ ∀ m, m ∈ ns.map (·.1) ↔ Reach ds (rs.take i) (fun l => l ∈ ns0.map (·.1)) m) ?_
      (fun i σ H3 _ ⟨_, _, _, e3, _⟩ => SqL.of (e3 _ _ hL)) (fun i y σ H3' H3 hi p hy => ?_) (fun σ H3 p => ?_)
    · exact ⟨d0, ns0, ⟨_, _, _, _, _, rfl⟩, Same.refl _, c0, fun m => Iff.rfl⟩
    · obtain ⟨d, ns, ⟨j3, j4, j5, j6, j7, rfl⟩, e3, c3, mem3⟩ := p
      obtain ⟨rfl, hy⟩ := hy
      obtain ⟨r, hr1, hrv⟩ := Paired.get1 pr hy
      have ok1 := okr r (List.mem_of_getElem? hr1)
      refine ⟨isI, fun e H4 ne e4 he => ?_⟩
      have hd4 := e4 _ _ c3.at'
      have de : d ≠ e := fun z => by have := c3.at'; rw [z, ne] at this; cases this
      refine ⟨d, _, hd4, True.intro, fun od => ?_⟩
      refine ⟨_, rfl, d, od, isI, ns, rfl, upd_same, ?_⟩
      have hk4 : KeysV H4 ns := c3.keys.mono e4.n
      refine for_it walk_keysN (fun k σ H5 => (∃ j5 j6 j7, σ = [some a, some (.ref d), some (.ref L), some y, some (.ref e), j5, j6, j7]) ∧ (∀ b o, b ≠ d → b ≠ e → H4 b = some o → H5 b = some o) ∧ H5 d = some (.frz od (NDo P w isI d ns)) ∧
        ∃ es, CntAt P w ds cs H5 e es ∧ ∀ m, m ∈ es.map (·.1) ↔ ∃ l ∈ (ns.map (·.1)).take k, BehR ds l r m) ?_ (fun k σ H5 _ p => p.2.2.1) (fun k y5 σ H5' H5 hk p hy5 => ?_) (fun σ H5 p => ?_)
      · refine ⟨⟨_, _, _, rfl⟩, fun b o h1 h2 h => by rw [upd_ne h1]; exact h, upd_same, [], ⟨by rw [upd_ne de.symm]; exact he, fun _ h => (nomatch h), List.Pairwise.nil, fun _ h => (nomatch h)⟩, fun m => ⟨fun h => (nomatch h), fun ⟨_, h, _⟩ => (nomatch h)⟩⟩
      · obtain ⟨⟨j5, j6, j7, rfl⟩, k5, hd5, es, c5, mem5⟩ := p
        obtain ⟨rfl, x, hx, rfl⟩ := hy5
        have keepM : ∀ {H' : Hp}, (∀ b o, b ≠ d → b ≠ e → H4 b = some o → H' b = some o) → SameM H4 H' := fun {H'} kk b o hb n1 n2 => kk b o (fun z => by rw [z, hd4] at hb; unfold NDo at hb; cases hb; exact n2 _ rfl) (fun z => by rw [z, he] at hb; unfold NDo at hb; cases hb; exact n2 _ rfl) hb
        have sv5 := (keepM k5).scheme (sv.mono (e3.trans e4).n)
        have xl : IsLay (places ds) cs x.1 := c3.lay _ (List.mem_map.mpr ⟨x, List.mem_of_getElem? hx, rfl⟩)
        have lx5 : LayV H5 (.ref x.2) x.1 := ⟨x.2, rfl, (keepM k5).tupF (hk4 x (List.mem_of_getElem? hx))⟩
        have rv5 := ((e3.trans e4).n.m.trans (keepM k5)).row hrv
        cases r with
        | opened d' t =>
          obtain ⟨b', T', rfl, ht', hT'⟩ := id rv5
          refine ⟨_, rfl, _, _, _, _, rfl, rfl, ht', rfl, rfl, true, rfl, iteT ?_⟩
          refine ⟨_, rfl, _, rfl, _, rfl, a, .ref x.2, .ref b', ds, cs, x.1, d', t, rfl, sv5, okd, lx5, xl.1, rv5, ok1.2.1, fun H6 e6 => ⟨_, rfl, ite2 (fun hso => ?_) (fun hso => ?_)⟩⟩
          · refine ⟨_, rfl, small (by simp), fun p H7 np7 e7 hp => ?_⟩
            have e57 := e6.trans e7
            have np := e6.free np7
            obtain ⟨ls, hls, lv, mem⟩ : ∃ ls : List Lay, ls.length ≤ 46656 ∧ LaysV H7 p ls ∧ ∀ m, m ∈ ls ↔ BehR ds x.1 (.opened d' t) m := ⟨[x.1], by simp, ⟨_, hp, .cons (lx5.mono e57.n) .nil⟩, fun m => by rw [List.mem_singleton]; exact ⟨fun z => ⟨hso, z⟩, fun z => z.2⟩⟩
            obtain ⟨rvs, hp7, pr7⟩ := lv
            have dp : d ≠ p := fun z => by have := hd5; rw [z, np] at this; cases this
            have ep : e ≠ p := fun z => by have := c5.at'; rw [z, np] at this; cases this
            refine ⟨_, rfl, _, rfl, ⟨_, SqL.of hp7⟩, ?_⟩
            refine for_it walk_list (fun j σ H8 => (∃ j7, σ = [some a, some (.ref d), some (.ref L), some (.ref b'), some (.ref e), some (.ref x.2), some (.ref p), j7]) ∧ (∀ b o, b ≠ d → b ≠ e → H4 b = some o → H8 b = some o) ∧ H8 d = some (.frz od (NDo P w isI d ns)) ∧ H8 p = some (.lst rvs) ∧ Paired (LayV H8) rvs ls ∧
              ∃ es', CntAt P w ds cs H8 e es' ∧ ∀ m, m ∈ es'.map (·.1) ↔ (∃ l ∈ (ns.map (·.1)).take k, BehR ds l (.opened d' t) m) ∨ m ∈ ls.take j) ?_ (fun j σ H8 _ p => SqL.of p.2.2.2.1) (fun j y8 σ H9 H8 hj p hy8 => ?_) (fun σ H8 p => ?_)
            · exact ⟨⟨_, rfl⟩, fun b o h1 h2 h => e57 _ _ (k5 b o h1 h2 h), e57 _ _ hd5, hp7, pr7, es, ⟨e57 _ _ c5.at', c5.keys.mono e57.n, c5.nd, c5.lay⟩, fun m => by rw [mem5 m, List.take_zero]; exact ⟨.inl, fun h => h.elim id fun h => (nomatch h)⟩⟩
            · obtain ⟨⟨j7, rfl⟩, k8, hd8, hp8, pr8, es8, c8, mem8⟩ := p
              obtain ⟨rfl, hy8⟩ := hy8
              obtain ⟨t, htl, ⟨ta, rfl, hta⟩⟩ := Paired.get1 pr8 hy8
              have tl := beh_lay xl ok1 ((mem t).mp (List.mem_of_getElem? htl))
              have hk8 : KeysV H8 ns := (keepM k8).keys hk4
              refine ⟨_, rfl, e, isI, es8, rfl, .inl c8.at', _, rfl, ta, t, rfl, .inl c8.at', c8.keys, hta, ⟨0, rfl⟩, fun v9 ⟨n9, ev⟩ => ?_⟩
              subst ev
              refine ⟨_, rfl, _, rfl, d, isI, ns, x.2, x.1, rfl, rfl, .inr ⟨_, hd8⟩, hk8, hk8 x (List.mem_of_getElem? hx), List.mem_map.mpr ⟨x, List.mem_of_getElem? hx, rfl⟩, fun v10 ⟨n10, ev⟩ => ?_⟩
              subst ev
              refine ⟨_, _, rfl, rfl, _, rfl, _, rfl, isI, e, ta, es8, t, rfl, rfl, c8.at', c8.keys, hta, ⟨_, rfl⟩, Nat.lt_of_le_of_lt (few c8.nd c8.lay) (by decide), fun H10 k10 he10 => ?_⟩
              refine ⟨⟨_, rfl⟩, fun b o h1 h2 h => k10 _ _ h2 (k8 b o h1 h2 h), k10 _ _ de hd8, k10 _ _ ep.symm hp8, ?_, putN es8 t ta, ⟨he10, fun z hz => TupF.byk c8.at' k10 (putN_keysV c8.keys hta z hz), putN_nodup c8.nd _ _, fun m hm => ?_⟩, fun m => ?_⟩
              · exact Paired.imp (fun _ _ ⟨b, q, h⟩ => ⟨b, q, TupF.byk c8.at' k10 h⟩) pr8
              · rcases putN_mem.mp hm with h | h
                · exact c8.lay m h
                · rw [h]; exact tl
              · rw [putN_mem, mem8 m, take_succ_get htl, List.mem_append, List.mem_singleton, or_assoc]
            · obtain ⟨⟨j7, rfl⟩, k8, hd8, hp8, pr8, es8, c8, mem8⟩ := p
              refine ⟨⟨_, _, _, rfl⟩, k8, hd8, es8, c8, fun m => ?_⟩
              have hl : rvs.length = ls.length := Paired.len pr7
              rw [mem8 m, hl, List.take_length, take_succ_get (show (ns.map (·.1))[k]? = some x.1 by rw [List.getElem?_map, hx]; rfl), mem m]
              constructor
              · rintro (⟨l, h1, h2⟩ | h)
                · exact ⟨l, List.mem_append_left _ h1, h2⟩
                · exact ⟨x.1, List.mem_append_right _ (List.mem_singleton.mpr rfl), h⟩
              · rintro ⟨l, h1, h2⟩
                rcases List.mem_append.mp h1 with h1 | h1
                · exact .inl ⟨l, h1, h2⟩
                · rw [List.mem_singleton.mp h1] at h2
                  exact .inr h2
          · refine ⟨small (by simp), fun p H7 np7 e7 hp => ?_⟩
            have e57 := e6.trans e7
            have np := e6.free np7
            obtain ⟨ls, hls, lv, mem⟩ : ∃ ls : List Lay, ls.length ≤ 46656 ∧ LaysV H7 p ls ∧ ∀ m, m ∈ ls ↔ BehR ds x.1 (.opened d' t) m := ⟨[], by simp, ⟨_, hp, .nil⟩, fun m => ⟨fun z => (nomatch z), fun z => absurd z.1 hso⟩⟩
            obtain ⟨rvs, hp7, pr7⟩ := lv
            have dp : d ≠ p := fun z => by have := hd5; rw [z, np] at this; cases this
            have ep : e ≠ p := fun z => by have := c5.at'; rw [z, np] at this; cases this
            refine ⟨_, rfl, _, rfl, ⟨_, SqL.of hp7⟩, ?_⟩
            refine for_it walk_list (fun j σ H8 => (∃ j7, σ = [some a, some (.ref d), some (.ref L), some (.ref b'), some (.ref e), some (.ref x.2), some (.ref p), j7]) ∧ (∀ b o, b ≠ d → b ≠ e → H4 b = some o → H8 b = some o) ∧ H8 d = some (.frz od (NDo P w isI d ns)) ∧ H8 p = some (.lst rvs) ∧ Paired (LayV H8) rvs ls ∧
              ∃ es', CntAt P w ds cs H8 e es' ∧ ∀ m, m ∈ es'.map (·.1) ↔ (∃ l ∈ (ns.map (·.1)).take k, BehR ds l (.opened d' t) m) ∨ m ∈ ls.take j) ?_ (fun j σ H8 _ p => SqL.of p.2.2.2.1) (fun j y8 σ H9 H8 hj p hy8 => ?_) (fun σ H8 p => ?_)
            · exact ⟨⟨_, rfl⟩, fun b o h1 h2 h => e57 _ _ (k5 b o h1 h2 h), e57 _ _ hd5, hp7, pr7, es, ⟨e57 _ _ c5.at', c5.keys.mono e57.n, c5.nd, c5.lay⟩, fun m => by rw [mem5 m, List.take_zero]; exact ⟨.inl, fun h => h.elim id fun h => (nomatch h)⟩⟩
            · obtain ⟨⟨j7, rfl⟩, k8, hd8, hp8, pr8, es8, c8, mem8⟩ := p
              obtain ⟨rfl, hy8⟩ := hy8
              obtain ⟨t, htl, ⟨ta, rfl, hta⟩⟩ := Paired.get1 pr8 hy8
              have tl := beh_lay xl ok1 ((mem t).mp (List.mem_of_getElem? htl))
              have hk8 : KeysV H8 ns := (keepM k8).keys hk4
              refine ⟨_, rfl, e, isI, es8, rfl, .inl c8.at', _, rfl, ta, t, rfl, .inl c8.at', c8.keys, hta, ⟨0, rfl⟩, fun v9 ⟨n9, ev⟩ => ?_⟩
              subst ev
              refine ⟨_, rfl, _, rfl, d, isI, ns, x.2, x.1, rfl, rfl, .inr ⟨_, hd8⟩, hk8, hk8 x (List.mem_of_getElem? hx), List.mem_map.mpr ⟨x, List.mem_of_getElem? hx, rfl⟩, fun v10 ⟨n10, ev⟩ => ?_⟩
              subst ev
              refine ⟨_, _, rfl, rfl, _, rfl, _, rfl, isI, e, ta, es8, t, rfl, rfl, c8.at', c8.keys, hta, ⟨_, rfl⟩, Nat.lt_of_le_of_lt (few c8.nd c8.lay) (by decide), fun H10 k10 he10 => ?_⟩
              refine ⟨⟨_, rfl⟩, fun b o h1 h2 h => k10 _ _ h2 (k8 b o h1 h2 h), k10 _ _ de hd8, k10 _ _ ep.symm hp8, ?_, putN es8 t ta, ⟨he10, fun z hz => TupF.byk c8.at' k10 (putN_keysV c8.keys hta z hz), putN_nodup c8.nd _ _, fun m hm => ?_⟩, fun m => ?_⟩
              · exact Paired.imp (fun _ _ ⟨b, q, h⟩ => ⟨b, q, TupF.byk c8.at' k10 h⟩) pr8
              · rcases putN_mem.mp hm with h | h
                · exact c8.lay m h
                · rw [h]; exact tl
              · rw [putN_mem, mem8 m, take_succ_get htl, List.mem_append, List.mem_singleton, or_assoc]
            · obtain ⟨⟨j7, rfl⟩, k8, hd8, hp8, pr8, es8, c8, mem8⟩ := p
              refine ⟨⟨_, _, _, rfl⟩, k8, hd8, es8, c8, fun m => ?_⟩
              have hl : rvs.length = ls.length := Paired.len pr7
              rw [mem8 m, hl, List.take_length, take_succ_get (show (ns.map (·.1))[k]? = some x.1 by rw [List.getElem?_map, hx]; rfl), mem m]
              constructor
              · rintro (⟨l, h1, h2⟩ | h)
                · exact ⟨l, List.mem_append_left _ h1, h2⟩
                · exact ⟨x.1, List.mem_append_right _ (List.mem_singleton.mpr rfl), h⟩
              · rintro ⟨l, h1, h2⟩
                rcases List.mem_append.mp h1 with h1 | h1
                · exact .inl ⟨l, h1, h2⟩
                · rw [List.mem_singleton.mp h1] at h2
                  exact .inr h2
        | deed ee =>
          obtain ⟨b', rfl, ht'⟩ := id rv5
          have hdd : ∃ h tl, ee.items = .str h :: tl ∧ h ≠ "open" := by
            cases ee with
            | move z => exact ⟨_, _, rfl, by decide⟩
            | near z => exact ⟨_, _, rfl, by decide⟩
            | swap x y => exact ⟨_, _, rfl, by decide⟩
            | shuffle d => exact ⟨_, _, rfl, by decide⟩
          obtain ⟨h, tl, eh, hne⟩ := hdd
          refine ⟨_, rfl, _, _, _, _, rfl, rfl, ht', by rw [eh]; exact atI_nat (xs := V.str h :: tl) (j := 0) rfl, rfl, false, bl_f (fun z => hne (V.str.inj z)), iteF ?_⟩
          refine ⟨_, rfl, _, rfl, _, rfl, a, .ref x.2, .ref b', ds, cs, x.1, ee, rfl, sv5, okd, okc, lx5, xl, rv5, ok1, fun H7 p ls e57 np lv hls mem => ?_⟩
          obtain ⟨rvs, hp7, pr7⟩ := lv
          have dp : d ≠ p := fun z => by have := hd5; rw [z, np] at this; cases this
          have ep : e ≠ p := fun z => by have := c5.at'; rw [z, np] at this; cases this
          refine ⟨_, rfl, _, rfl, ⟨_, SqL.of hp7⟩, ?_⟩
          refine for_it walk_list (fun j σ H8 => (∃ j7, σ = [some a, some (.ref d), some (.ref L), some (.ref b'), some (.ref e), some (.ref x.2), some (.ref p), j7]) ∧ (∀ b o, b ≠ d → b ≠ e → H4 b = some o → H8 b = some o) ∧ H8 d = some (.frz od (NDo P w isI d ns)) ∧ H8 p = some (.lst rvs) ∧ Paired (LayV H8) rvs ls ∧
            ∃ es', CntAt P w ds cs H8 e es' ∧ ∀ m, m ∈ es'.map (·.1) ↔ (∃ l ∈ (ns.map (·.1)).take k, BehR ds l (.deed ee) m) ∨ m ∈ ls.take j) ?_ (fun j σ H8 _ p => SqL.of p.2.2.2.1) (fun j y8 σ H9 H8 hj p hy8 => ?_) (fun σ H8 p => ?_)
          · exact ⟨⟨_, rfl⟩, fun b o h1 h2 h => e57 _ _ (k5 b o h1 h2 h), e57 _ _ hd5, hp7, pr7, es, ⟨e57 _ _ c5.at', c5.keys.mono e57.n, c5.nd, c5.lay⟩, fun m => by rw [mem5 m, List.take_zero]; exact ⟨.inl, fun h => h.elim id fun h => (nomatch h)⟩⟩
          · obtain ⟨⟨j7, rfl⟩, k8, hd8, hp8, pr8, es8, c8, mem8⟩ := p
            obtain ⟨rfl, hy8⟩ := hy8
            obtain ⟨t, htl, ⟨ta, rfl, hta⟩⟩ := Paired.get1 pr8 hy8
            have tl := beh_lay xl ok1 ((mem t).mp (List.mem_of_getElem? htl))
            have hk8 : KeysV H8 ns := (keepM k8).keys hk4
            refine ⟨_, rfl, e, isI, es8, rfl, .inl c8.at', _, rfl, ta, t, rfl, .inl c8.at', c8.keys, hta, ⟨0, rfl⟩, fun v9 ⟨n9, ev⟩ => ?_⟩
            subst ev
            refine ⟨_, rfl, _, rfl, d, isI, ns, x.2, x.1, rfl, rfl, .inr ⟨_, hd8⟩, hk8, hk8 x (List.mem_of_getElem? hx), List.mem_map.mpr ⟨x, List.mem_of_getElem? hx, rfl⟩, fun v10 ⟨n10, ev⟩ => ?_⟩
            subst ev
            refine ⟨_, _, rfl, rfl, _, rfl, _, rfl, isI, e, ta, es8, t, rfl, rfl, c8.at', c8.keys, hta, ⟨_, rfl⟩, Nat.lt_of_le_of_lt (few c8.nd c8.lay) (by decide), fun H10 k10 he10 => ?_⟩
            refine ⟨⟨_, rfl⟩, fun b o h1 h2 h => k10 _ _ h2 (k8 b o h1 h2 h), k10 _ _ de hd8, k10 _ _ ep.symm hp8, ?_, putN es8 t ta, ⟨he10, fun z hz => TupF.byk c8.at' k10 (putN_keysV c8.keys hta z hz), putN_nodup c8.nd _ _, fun m hm => ?_⟩, fun m => ?_⟩
            · exact Paired.imp (fun _ _ ⟨b, q, h⟩ => ⟨b, q, TupF.byk c8.at' k10 h⟩) pr8
            · rcases putN_mem.mp hm with h | h
              · exact c8.lay m h
              · rw [h]; exact tl
            · rw [putN_mem, mem8 m, take_succ_get htl, List.mem_append, List.mem_singleton, or_assoc]
          · obtain ⟨⟨j7, rfl⟩, k8, hd8, hp8, pr8, es8, c8, mem8⟩ := p
            refine ⟨⟨_, _, _, rfl⟩, k8, hd8, es8, c8, fun m => ?_⟩
            have hl : rvs.length = ls.length := Paired.len pr7
            rw [mem8 m, hl, List.take_length, take_succ_get (show (ns.map (·.1))[k]? = some x.1 by rw [List.getElem?_map, hx]; rfl), mem m]
            constructor
            · rintro (⟨l, h1, h2⟩ | h)
              · exact ⟨l, List.mem_append_left _ h1, h2⟩
              · exact ⟨x.1, List.mem_append_right _ (List.mem_singleton.mpr rfl), h⟩
            · rintro ⟨l, h1, h2⟩
              rcases List.mem_append.mp h1 with h1 | h1
              · exact .inl ⟨l, h1, h2⟩
              · rw [List.mem_singleton.mp h1] at h2
                exact .inr h2
      · obtain ⟨⟨j5, j6, j7, rfl⟩, k5, hd5, es, c5, mem5⟩ := p
        refine ⟨hd5, _, rfl, e, es, ⟨_, _, _, _, _, rfl⟩, e3.trans fun b o hb => ?_, ⟨by rw [upd_ne de.symm]; exact c5.at', fun z hz => ?_, c5.nd, c5.lay⟩, fun m => ?_⟩
        · by_cases hbd : b = d
          · rw [hbd, upd_same, ← c3.at', ← hbd]; exact hb
          · rw [upd_ne hbd]
            exact k5 b o hbd (fun z => by rw [z, ne] at hb; cases hb) (e4 _ _ hb)
        · obtain ⟨o, ho, hn⟩ := c5.keys z hz
          exact ⟨o, by rw [upd_ne (fun zz => by rw [zz, hd5] at ho; cases ho)]; exact ho, hn⟩
        · rw [mem5 m, take_succ_get hr1, reach_snoc]
          have : ns.length = (ns.map (·.1)).length := (List.length_map _).symm
          rw [this, List.take_length]
          exact ⟨fun ⟨l, h1, h2⟩ => ⟨l, (mem3 l).mp h1, h2⟩, fun ⟨l, h1, h2⟩ => ⟨l, (mem3 l).mpr h1, h2⟩⟩
    · obtain ⟨d, ns, ⟨j3, j4, j5, j6, j7, rfl⟩, e3, c3, mem3⟩ := p
      refine ⟨_, rfl, q H3 d ns e3 c3 fun m => ?_⟩
      rw [mem3 m, Paired.len pr, List.take_length]
end
end CC

/-! text N4 -/
namespace CC
open PySem PySem.Spec PyProof.Rows L2
/-! ### dict(a list of pairs), keys layouts -/
section
variable {X : Cx}
/-- the pairs at Ts: key object, value -/
def PairsN (K : PySem.W.Frag) (H : Hp) (R : V → Prop) (T : Addr) (x : Lay × Addr) : Prop := ∃ z, R z ∧ SqT K H T [.ref x.2, z]
theorem pairs_ofN {pins : List (Addr × Obj)} {σ : L2.St} {H : Hp} {s : Shared} {R : V → Prop} (I : Inv X pins σ H s) : ∀ {Ts : List Addr} {ns : NKeys}, Paired (PairsN X.K H R) Ts ns →
    ∃ us : List Value, us.length = ns.length ∧ (∀ (j : Nat) u, us[j]? = some u → ∃ v, RelV v u ∧ R v) ∧ ∀ (j : Nat) (x : Lay × Addr) u, ns[j]? = some x → us[j]? = some u → ∃ T, Ts[j]? = some T ∧ IsTup s.heap T #[Value.ref x.2, u]
  | _, _, .nil => ⟨[], rfl, fun j u e => by simp at e, fun j x u e => by simp at e⟩
  | _, _, .cons (a := T) (b := x) h t => by
    obtain ⟨us, hl, hr, hp⟩ := pairs_ofN I t
    obtain ⟨z, hz, h⟩ := h
    obtain ⟨its, rv, ht, _⟩ := I.tuple h
    obtain ⟨k, y, ei, ru, ry⟩ := vals2 rv
    subst ei
    cases (show k = Value.ref x.2 from ru)
    refine ⟨y :: us, by rw [List.length_cons, List.length_cons, hl], fun j u e => ?_, fun j x' u e1 e2 => ?_⟩
    · cases j with
      | zero => cases (show some y = some u from e); exact ⟨z, ry, hz⟩
      | succ j => exact hr j u (by simpa using e)
    · cases j with
      | zero =>
        cases (show some x = some x' from e1)
        cases (show some y = some u from e2)
        exact ⟨T, rfl, ht⟩
      | succ j =>
        obtain ⟨T', h1, h2⟩ := hp j x' u (by simpa using e1) (by simpa using e2)
        exact ⟨T', by simpa using h1, h2⟩
theorem refs_are : ∀ {Ts : List Addr} {its : List Value}, Vals (Ts.map V.ref) its → its = Ts.map Value.ref
  | [], _, .nil => rfl
  | _ :: _, _, .cons r t => by rw [show _ = Value.ref _ from r, refs_are t]; rfl
def rDictN (P : Program) (w : World) (K : PySem.W.Frag) : List V → Hp → VK → Prop := fun xs H Q => ∃ (R : V → Prop) (a : Addr) (Ts : List Addr) (ns : NKeys), xs = [.ref a] ∧ SqL K H a (Ts.map V.ref) ∧ Paired (PairsN K H R) Ts ns ∧ KeysV H ns ∧ (ns.map (·.1)).Nodup ∧
  ∀ p H', H p = none → Same H H' → H' p = some (NDo P w R p ns) → Q (.ref p) H'
theorem call_dictN {j : Nat} (hr : Room j X.A) (hj : 2 ≤ j) (hcalm : X.calm = true) : CallR X (.type "dict") (rDictN X.prog X.w X.K) := by
  intro pins s σ H xs us0 Q I r h
  obtain ⟨R, a, Ts, ns, rfl, hq, hp, hk, nd, q⟩ := h
  obtain ⟨u, rfl, rx⟩ := vals1 r
  cases (show u = Value.ref a from rx)
  obtain ⟨its, rv, pl, hz⟩ := I.list hq
  have ei := refs_are rv
  subst ei
  obtain ⟨us, hl, hr2, hp2⟩ := pairs_ofN I hp
  have tl : Ts.length = ns.length := Paired.len hp
  obtain ⟨o, n, ho, hc, hd, hdat⟩ := pl
  have zl : (ns.zip us).length = ns.length := by rw [List.length_zip, hl, Nat.min_self]
  refine call_dict_pairsH (knd := KN X.prog X.w) (ps := (ns.zip us).map fun p => (p.1.1.map oL, p.1.2, p.2)) (PairArg.list a (Ts.map Value.ref).toArray (fun j => Ts.getD j 0) ((ns.zip us).map fun p => (Value.ref p.1.2, p.2))) (I.ok.hd hcalm) ?_ ⟨⟨o, n, ho, hc, hd, hdat⟩, ?_⟩ ?_ ?_ ?_ fun h' tk hd' k => ?_
  · show (X.A.in1.in1).units < cLine
    have hr2 : Room 0 X.A.in1.in1 := (show Room 1 X.A.in1 from (hr.mono hj).in1).in1
    exact Nat.lt_of_le_of_lt (Nat.le_add_right _ 64) hr2.units
  · refine ⟨by simp [tl, zl, hl], fun jj k v e => ?_⟩
    rw [List.getElem?_map] at e
    obtain ⟨⟨x, u⟩, hz1, e⟩ := Option.map_eq_some_iff.mp e
    obtain ⟨z1, z2⟩ := List.getElem?_zip_eq_some.mp hz1
    obtain ⟨T, hT, ht⟩ := hp2 jj x u z1 z2
    cases e
    have eT : Ts.getD jj 0 = T := by rw [List.getD_eq_getElem?_getD, hT]; rfl
    refine ⟨by simp [hT, eT], .inl ?_⟩
    show s.heap.IsTuple (Ts.getD jj 0) #[Value.ref x.2, u]
    rw [eT]
    exact ht
  · refine ⟨by simp, fun i key v e => ?_⟩
    have e : ((ns.zip us).map fun p => (Value.ref p.1.2, p.2))[i]? = some (key, v) := e
    rw [List.getElem?_map] at e
    obtain ⟨⟨x, u⟩, hz1, e⟩ := Option.map_eq_some_iff.mp e
    cases e
    exact ⟨x.1.map oL, x.2, by rw [List.getElem?_map, hz1]; rfl, rfl⟩
  · intro h' keep z hz1
    obtain ⟨⟨x, u⟩, hx, rfl⟩ := List.mem_map.mp hz1
    have hxn : x ∈ ns := (List.of_mem_zip hx).1
    obtain ⟨o, it, n, ho, hc, hd, hi⟩ := key_is I (hk x hxn).sq
    exact ⟨o, it, n, keep _ _ (Nat.ne_of_lt (Heap.lt_size ho)) (List.not_mem_nil) ho, hc, hd, hi⟩
  · rw [List.length_map, zl, ← tl]
    rw [List.length_map] at hz
    exact hz
  · have g5 : ((ns.zip us).map fun p => (p.1.1.map oL, p.1.2, p.2)).map (fun z => (z.1, z.2.1)) = ns.map (fun x => (x.1.map oL, x.2)) := by
      rw [List.map_map]
      conv => rhs; rw [← List.map_fst_zip (l₁ := ns) (l₂ := us) (by omega), List.map_map]
      rfl
    have ndp : (((ns.zip us).map fun p => (p.1.1.map oL, p.1.2, p.2)).map (·.1)).Nodup := by
      have e : ((ns.zip us).map fun p => (p.1.1.map oL, p.1.2, p.2)).map (·.1) = (ns.map (·.1)).map (List.map oL) := by
        have := congrArg (List.map (fun p : List Leaf × Addr => p.1)) g5
        rw [List.map_map, List.map_map, List.map_map] at this
        rw [List.map_map, List.map_map]
        exact this
      rw [e]
      exact List.Pairwise.map _ (fun a b hab z => hab (mapL_inj z)) nd
    rw [storedAllH_nil_of_nodup _ ndp] at hd'
    refine ⟨.ref s.heap.objs.size, _, I.laid (a := s.heap.objs.size) (o := NDo X.prog X.w R s.heap.objs.size ns) (t' := tk) (fun b o e => k b o (List.not_mem_nil) e) (Nat.le_refl _) ?_, rfl, q _ _ (I.hok.fresh (Nat.le_refl _)) (Same.new (I.hok.fresh (Nat.le_refl _))) upd_same⟩
    refine nd_new (low_new I) (by rw [← tl]; rw [List.length_map] at hz; exact hz) nd hd' g5 fun z hz1 => ?_
    obtain ⟨⟨x, u⟩, hx, rfl⟩ := List.mem_map.mp hz1
    obtain ⟨jj, hj1, e⟩ := List.getElem_of_mem (List.of_mem_zip hx).2
    exact hr2 jj u (by rw [List.getElem?_eq_getElem hj1, e])
end
end CC

/-! text E10 -/
namespace CC
open PySem PySem.Spec PyProof.Rows L2
def OneV (H : Hp) (v : V) (l : Lay) : Prop := ∃ T b, v = .ref T ∧ TupF H T [.ref b, .int 1] ∧ TupF H b (l.map oV)
theorem pairs_get {K : PySem.W.Frag} {H : Hp} : ∀ {ys : List V} {ls : List Lay}, Paired (OneV H) ys ls → ∃ (Ts : List Addr) (ns : NKeys), ys = Ts.map V.ref ∧ Paired (PairsN K H isI) Ts ns ∧ KeysV H ns ∧ ns.map (·.1) = ls
  | _, _, .nil => ⟨[], [], rfl, .nil, fun _ h => (nomatch h), rfl⟩
  | _, _, .cons (b := l) ⟨T, b, e, hT, hb⟩ t => by
    obtain ⟨Ts, ns, h1, h2, h3, h4⟩ := pairs_get (K := K) t
    refine ⟨T :: Ts, (l, b) :: ns, by rw [e, h1]; rfl, .cons ⟨.int 1, ⟨1, rfl⟩, hT.sq⟩ h2, fun x hx => ?_, by rw [List.map_cons, h4]⟩
    rcases List.mem_cons.mp hx with rfl | hx
    · exact hb
    · exact h3 x hx
section
variable {P : Program} {w : World} {K : PySem.W.Frag} {mg : Str → Option Value} {base : Heap} {C : Addr}
def spLNow (K : PySem.W.Frag) : SpN := fun vs H Q => ∃ (a : V) (ds : List Door) (cs : List Str) (v : V) (rs : List LRow), vs = [a, v] ∧ SchemeV K H a ds cs ∧ OkDoors ds ∧ OkCrates cs (places ds) ∧ LogV K H v rs ∧ rs.length ≤ 100 ∧ (∀ r ∈ rs, OkRow ds cs r) ∧
  ∀ H' p ks, Same H H' → H p = none → Ends2 ds cs rs ks → LaysV H' p (sortL ks) → Q (.ref p) H'
abbrev s__law_now : Stmt := topS 102
abbrev N__law_now : List Str := ["_law_s", "_law_log", "_law_one"]
theorem sc__law_now : FnScope N__law_now ["_law_s", "_law_log"] (defScope s__law_now) := ⟨rfl, rfl, rfl, by decide +kernel, rfl, by decide +kernel, by decide +kernel⟩
-- cells: []; calls: ['_law_counts', '_law_layouts']
theorem cal__law_now (B : Base K mg) : Cal P w K mg base 6 "_law_now" (spLNow K) := by
  refine B.d__law_now.ok sc__law_now (fun vs H Q h => ?_) (fun f cdv A outer s H vs Q E hr h => ?_)
  · obtain ⟨a, ds, cs, v, rs, rfl, _⟩ := h
    rfl
  · obtain ⟨a, ds, cs, v, rs, rfl, sv, okd, okc, lv, r100, okr, q⟩ := h
    have n6 : places ds ≤ 6 := places_le okd
    refine ⟨_, (pss_one (ps_ret (pe_sortedK (cal__law_rank B) hr (by decide) rfl rfl B.f_sorted rfl (pa_cons (pe_c (cal__law_counts B) hr (by decide) rfl (pa_cons (pv 0) (pa_cons (pe_callTy (call_dictN hr (by decide) rfl) rfl B.f_dict (by decide +kernel) (pa_cons (pe_lcX (own := [("_law_one", 2)]) rfl sc__law_now.nd (pi_list (pe_c (cal__law_layouts B) hr (by decide) rfl (pa_cons (pv 0) pa_nil))) (blkOk_by (own := [("_law_one", 2)]) (N := N__law_now) (sc := defScope s__law_now) (by decide +kernel)) (fun _ _ _ _ _ => (pg_name (i := 2) sc__law_now.nd rfl (.inl rfl))) (fun _ _ _ _ _ => pts_nil) (fun _ _ _ _ _ => (pe_tupF (pa_cons (pv 2) (pa_cons pe_int pa_nil))))) pa_nil)) (pa_cons (pv 1) pa_nil)))) pa_nil)))
    ), ?_⟩
    refine ⟨_, rfl, _, rfl, a, ds, cs, rfl, sv, okd, okc, fun H1 r e1 nr lr => ⟨_, rfl, ⟨_, SqL.of lr.choose_spec.1⟩, ?_⟩⟩
    obtain ⟨rvs, hr1, pr1⟩ := id lr
    have hz : (allLay ds cs).length ≤ 46656 := Nat.le_trans (layAt_len okc.2.1 _) (pow6 n6)
    have hrl : rvs.length = (allLay ds cs).length := Paired.len pr1
    refine comp_it walk_list (allLay ds cs) (fun l => some l) LayV OneV (fun _ _ _ _ e ⟨T, b, q, h1, h2⟩ => ⟨T, b, q, h1.mono e, h2.mono e⟩) hrl.symm (fun H' e => SqL.of (e _ _ hr1)) (by omega) (fun i H2 y H' l hl hy e => ?_) (fun i l y H' Qy Qn hl e hs ky kn => ?_) (fun D H' ys hD e g1 g2 => ?_)
    · obtain ⟨rfl, hy⟩ := hy
      obtain ⟨v', hv', hlv⟩ := Paired.get pr1 hl
      rw [hy] at hv'
      cases hv'
      exact ⟨Same.refl _, hlv.mono e.n⟩
    · obtain ⟨b, rfl, hb⟩ := hs
      exact ⟨rfl, _, rfl, small (by simp), fun T H2 nT e2 hT => ky _ _ _ rfl e2 ⟨T, b, rfl, hT, hb.mono e2.n⟩⟩
    rw [fm_some, List.map_id'] at g2
    obtain ⟨Ts, ns, rfl, pp, hk, hks⟩ := pairs_get (K := K) g2
    have nd : (ns.map (·.1)).Nodup := by rw [hks]; exact layAt_nodup (crates_nodup okc) _
    refine ⟨isI, D, Ts, ns, rfl, SqL.of g1, pp, hk, nd, fun p H2 np e2 hp => ?_⟩
    have e02 := (e1.trans e).trans e2
    have cok : CntAt P w ds cs H2 p ns := ⟨hp, hk.mono e2.n, nd, fun m hm => by rw [hks] at hm; exact (allLay_mem okc).mp hm⟩
    obtain ⟨L, us, rfl, hL, pr⟩ := lv
    refine ⟨_, rfl, a, ds, cs, p, ns, .ref L, rs, rfl, sv.mono e02.n, okd, okc, cok, ⟨L, us, rfl, e02 _ _ hL, Paired.imp (fun _ _ h => e02.n.m.row h) pr⟩, r100, okr, fun H4 d4 ns4 e4 c4 mem4 => ?_⟩
    have en : Ends2 ds cs rs (ns4.map (·.1)) := ⟨c4.nd, c4.lay, fun m => (mem4 m).trans (reach_congr (fun l => by rw [hks]; exact allLay_mem okc) rs m)⟩
    have p1 : 1 ≤ places ds := Nat.le_trans okc.1 okc.2.2.1
    refine ⟨_, rfl, d4, _, rfl, .inr ⟨isI, ns4, .inl c4.at', c4.keys, rfl⟩, fun b hb z => ?_, fun H' v b hv hm => ⟨v, b, rfl, hv, by rw [(c4.lay b hm).1]; omega, fun H2 r e2 kv => ⟨e2, kv⟩⟩, fun H5 p e5 np lp => q H5 p _ ((e02.trans e4).trans e5) ((e02.trans e4).free np) en lp⟩
    have := (c4.lay b hb).1
    rw [z] at this
    have : (0 : Nat) = places ds := this
    omega
end
end CC

/-! text E11 -/
namespace CC
open PySem PySem.Spec PyProof.Rows L2
/-! ### a comprehension that draws -/
section
variable {K : PySem.W.Frag} {J : It} {n : Nat} {G : Hp → Prop} {Y : Nat → Hp → V → Hp → Prop} {α : Type}
theorem comp_draw {d : Dr} {g : TG} {tt : TT} {te : TE} {vs : List Nat} {σ : L2.St} {H1 : Hp} {Qd : Addr → Hp → Prop} (w : Walk J n G Y) (as : List α) (Src : V → α → Prop) (Out : V → α → Prop)
    (hd : DrawAt K H1 d) (hn : as.length = n) (hG : ∀ H', But d.1 H1 H' → G H') (hz : n ≤ 100000)
    (hY : ∀ (i : Nat) H x H' a, as[i]? = some a → Y i H x H' → H' = H ∧ Src x a)
    (step : ∀ (i : Nat) a x H' (Qy : VK) (Qn : Hp → Prop), as[i]? = some a → DrawAt K H' d → Src x a → (∀ y H4, But d.1 H' H4 → DrawAt K H4 d → Out y a → Qy y H4) →
      g x (wipe σ vs) H' fun σ2 H2 => wipe σ2 vs = wipe σ vs ∧ tt σ2 H2 fun b H3 => if b = true then te σ2 H3 Qy else Qn H3)
    (fin : ∀ D H' ys, H1 D = none → But d.1 H1 H' → DrawAt K H' d → H' D = some (.lst ys) → Paired Out ys as → Qd D H') :
    ∀ D, H1 D = none → ∃ W : Nat → Nat → Hp → Prop, (∃ m, W 0 m (upd H1 D (.lst []))) ∧ ∀ i m H, W i m H →
      (J.stop i H ∧ Qd D H) ∨ (J.go i H ∧ ∃ Nx : Hp → Prop, (∀ H', Nx H' → ∃ m', m' < m ∧ W (i + 1) m' H') ∧ ∀ x H', J.yld i H x H' → g x (wipe σ vs) H' fun σ2 H2 => wipe σ2 vs = wipe σ vs ∧ tt σ2 H2 fun b H3 =>
        if b = true then te σ2 H3 fun y H4 => ∃ acc, H4 D = some (.lst acc) ∧ acc.length < sizeLine ∧ Nx (upd H4 D (.lst (acc ++ [y]))) else Nx H3) := by
  intro D hD
  have oD := hd.new hD
  have keep : ∀ {H' : Hp} {o : HO}, But d.1 H1 H' → But d.1 H1 (upd H' D o) := fun k b o nb hb => by
    rw [upd_ne (fun z => by rw [z, hD] at hb; cases hb)]
    exact k b o nb hb
  refine lc_it w (fun i H => But d.1 H1 H ∧ DrawAt K H d ∧ ∃ ys, H D = some (.lst ys) ∧ Paired Out ys (as.take i) ∧ ys.length ≤ i)
    ⟨keep (But.refl _ _), hd.but (But.upd _ _ _) oD, [], upd_same, by rw [List.take_zero]; exact .nil, Nat.le_refl _⟩ (fun i H _ p => hG H p.1) ?_ ?_
  · rintro i x H H' hi ⟨k1, d1, ys, h2, h3, h4⟩ hy
    obtain ⟨a, ha⟩ : ∃ a, as[i]? = some a := ⟨_, List.getElem?_eq_getElem (by omega)⟩
    obtain ⟨rfl, hs⟩ := hY i H x H' a ha hy
    refine step i a x H' (fun y H4 => ∃ acc, H4 D = some (.lst acc) ∧ acc.length < sizeLine ∧ (But d.1 H1 (upd H4 D (.lst (acc ++ [y]))) ∧ DrawAt K (upd H4 D (.lst (acc ++ [y]))) d ∧ ∃ ys, (upd H4 D (.lst (acc ++ [y]))) D = some (.lst ys) ∧ Paired Out ys (as.take (i + 1)) ∧ ys.length ≤ i + 1))
      _ ha d1 hs (fun y H4 k4 d4 ho => ?_)
    have hD4 : H4 D = some (.lst ys) := k4 _ _ oD.1 h2
    refine ⟨ys, hD4, small' (by omega), keep (k1.trans k4), d4.but (But.upd _ _ _) oD, _, upd_same, ?_, by rw [List.length_append, List.length_singleton]; omega⟩
    rw [take_succ_get ha]
    exact Paired.snoc h3 ho
  · rintro H ⟨k1, d1, ys, h2, h3, h4⟩
    rw [← hn, List.take_length] at h3
    exact fin D H ys hD k1 d1 h2 h3
end
theorem names_some : ∀ cs : List Str, names (cs.map some) = cs
  | [] => rfl
  | c :: r => congrArg (c :: ·) (names_some r)
theorem names_none : ∀ n : Nat, names (List.replicate n (none : Option Str)) = []
  | 0 => rfl
  | n + 1 => names_none n
theorem allLay_pos {ds : List Door} {cs : List Str} (ok : OkCrates cs (places ds)) : 1 ≤ (allLay ds cs).length := by
  refine List.length_pos_of_mem ((allLay_mem (m := cs.map some ++ List.replicate (places ds - cs.length) none) ok).mpr ⟨?_, ?_⟩)
  · rw [List.length_append, List.length_map, List.length_replicate]
    have := ok.2.2.1
    omega
  · rw [names_app, names_some, names_none, List.append_nil]
theorem But.n {r : Addr} {H H' : Hp} {xs : List V} (k : But r H H') (h : H r = some (.lst xs)) : SameN H H' := fun b o hb nl => k b o (fun z => by rw [z, h] at hb; exact nl xs (Option.some.inj hb).symm) hb
theorem told_of {cs : List Str} : ∀ {as : Lay} {ys : List V}, Paired (fun v o => v = oV o ∨ v = .str "?") ys as → (∀ o ∈ as, Told cs o) → ∃ t : Lay, ys = t.map oV ∧ t.length = as.length ∧ ∀ o ∈ t, Told cs o
  | _, _, .nil, _ => ⟨[], rfl, rfl, fun _ h => (nomatch h)⟩
  | _, _, .cons (b := o) h t, q => by
    obtain ⟨t', h1, h2, h3⟩ := told_of t fun o ho => q o (List.mem_cons_of_mem _ ho)
    rcases h with rfl | rfl
    · refine ⟨o :: t', by rw [h1]; rfl, by rw [List.length_cons, List.length_cons, h2], fun x hx => ?_⟩
      rcases List.mem_cons.mp hx with rfl | hx
      · exact q _ List.mem_cons_self
      · exact h3 x hx
    · refine ⟨some "?" :: t', by rw [h1]; rfl, by rw [List.length_cons, List.length_cons, h2], fun x hx => ?_⟩
      rcases List.mem_cons.mp hx with rfl | hx
      · exact .inr (.inl rfl)
      · exact h3 x hx
section
variable {P : Program} {w : World} {K : PySem.W.Frag} {mg : Str → Option Value} {base : Heap} {C : Addr}
def spLStory (K : PySem.W.Frag) : SpN := fun vs H Q => ∃ (d : Dr) (v : V) (ds : List Door) (cs : List Str) (m : Nat), vs = [.ref d.1, v, nV m] ∧ DrawAt K H d ∧ SchemeV K H v ds cs ∧ OkDoors ds ∧ OkCrates cs (places ds) ∧ m ≤ 50 ∧
  ∀ (H' : Hp) (t L : Addr) (lv : V) (us : List V) (rs : List LRow) (l : Lay), But d.1 H H' → DrawAt K H' d → TupF H' t [.ref L, lv] → H L = none → H' L = some (.lst us) → Paired (RowV K H') us rs → rs.length ≤ m → (∀ r ∈ rs, OkRow ds cs r) → LayV H' lv l → IsLay (places ds) cs l → Q (.ref t) H'
abbrev s__law_story : Stmt := topS 99
abbrev N__law_story : List Str := ["_law_row", "_law_s", "_law_most", "_law_layout", "_law_log", "_law_k", "_law_deed_here", "_law_some", "_law_door", "_law_seen_here", "_law_one"]
theorem sc__law_story : FnScope N__law_story ["_law_row", "_law_s", "_law_most"] (defScope s__law_story) := ⟨rfl, rfl, rfl, by decide +kernel, rfl, by decide +kernel, by decide +kernel⟩
-- cells: ['_law_row']; calls: ['_law_after', '_law_deed', '_law_layouts', '_law_pick', '_law_seen', '_law_taken']
theorem cal__law_story (B : Base K mg) : Cal P w K mg base 5 "_law_story" (spLStory K) := by
  refine B.d__law_story.ok sc__law_story (fun vs H Q h => ?_) (fun f cdv A outer s H vs Q E hr h => ?_)
  · obtain ⟨d, v, ds, cs, m, rfl, _⟩ := h
    rfl
  · obtain ⟨d, v, ds, cs, m, rfl, hd, sv, okd, okc, m50, q⟩ := h
    have n6 : places ds ≤ 6 := places_le okd
    have c1 := okc.1
    have c5 := okc.2.1
    obtain ⟨xs, hrw⟩ := hd.lst
    have svk : ∀ {H' : Hp}, But d.1 H H' → SchemeV K H' v ds cs := fun k => k.scheme hrw sv
    have allLen : (allLay ds cs).length ≤ 46656 := Nat.le_trans (layAt_len c5 _) (pow6 n6)
    refine ⟨_, (pss_cons (ps_par (i := 3) (j := 4) rfl sc__law_story.nd rfl rfl (by decide) rfl rfl (pa_cons (pe_c (cal__law_pick B) hr (by decide) rfl (pa_cons (pv 0) (pa_cons (pe_c (cal__law_layouts B) hr (by decide) rfl (pa_cons (pv 1) pa_nil)) pa_nil))) (pa_cons (pe_lstN pa_nil) pa_nil)) rfl)
    (pss_cons (ps_for PassesOwn.never rfl (pi_range1 rfl B.f_range (pa_cons (pe_c (cal__law_taken B) hr (by decide) rfl (pa_cons (pv 0) (pa_cons (pe_op op_add (pv 2) pe_int) pa_nil))) pa_nil)) (pg_name (i := 5) sc__law_story.nd rfl (.inl rfl)) (
        (pss_cons (ps_set (i := 6) sc__law_story.nd rfl (.inl rfl) (pe_c (cal__law_deed B) hr (by decide) rfl (pa_cons (pv 0) (pa_cons (pv 1) pa_nil))))
        (pss_cons (ps_set (i := 7) sc__law_story.nd rfl (.inl rfl) (pe_c (cal__law_after B) hr (by decide) rfl (pa_cons (pv 1) (pa_cons (pv 3) (pa_cons (pv 6) pa_nil)))))
        (pss_one (ps_if (PW.pt (pw_and (pt_cmpR op_eq (pe_c (cal__law_taken B) hr (by decide) rfl (pa_cons (pv 0) (pa_cons pe_int pa_nil))) pe_int (nomark _)) (pw_and1 (pt_cmpR (op_neD hr.units) (pv 7) (pe_lstN pa_nil) (nomark _))))) (
            (pss_cons (ps_expr (pe_bm PySem.F.plainAttrs_list PySem.F.slot_list_append PySem.F.type_list_append mt_append (pv 4) (pa_cons (pv 6) pa_nil)))
            (pss_one (ps_set (i := 3) sc__law_story.nd rfl (.inl rfl) (pe_c (cal__law_pick B) hr (by decide) rfl (pa_cons (pv 0) (pa_cons (pv 7) pa_nil))))
            ))) (
            (pss_cons (ps_set (i := 8) sc__law_story.nd rfl (.inl rfl) (pe_c (cal__law_taken B) hr (by decide) rfl (pa_cons (pv 0) (pa_cons (pe_callB call_len rfl B.f_len boot_len (pa_cons (pe_ix ix_tup (pv 1) pe_int (fun _ _ => rfl)) pa_nil)) pa_nil))))
            (pss_cons (ps_setLcX (i := 9) (own := [("_law_one", 10)]) rfl sc__law_story.nd rfl rfl (sw_true rfl rfl rfl rfl) (pi_tup (pe_c (cal__law_seen B) hr (by decide) rfl (pa_cons (pv 1) (pa_cons (pv 3) (pa_cons (pv 8) pa_nil))))) (blkOk_by (own := [("_law_one", 10)]) (N := N__law_story) (sc := defScope s__law_story) (by decide +kernel)) (fun _ _ _ _ _ => (pg_name (i := 10) sc__law_story.nd rfl (.inl rfl))) (fun _ _ _ _ _ => pts_nil) (fun _ _ _ _ _ => (pe_ifExp (PW.pt (pw_or (pt_cmp (pc_isN (pv 10))) (pw_or1 (pt_cmpR op_gt (pe_c (cal__law_taken B) hr (by decide) rfl (pa_cons (pv 0) (pa_cons pe_int pa_nil))) pe_int (nomark _))))) (pv 10) pe_str)))
            (pss_cons (ps_if (pt_cmpR op_eq (pe_c (cal__law_taken B) hr (by decide) rfl (pa_cons (pv 0) (pa_cons pe_int pa_nil))) pe_int (nomark _)) (
                (pss_one (ps_asg (pe_c (cal__law_pick B) hr (by decide) rfl (pa_cons (pv 0) (pa_cons (pe_lstN (pa_cons pe_non (pa_cons (pe_ix ix_tup (pe_ix ix_tup (pv 1) pe_int (fun _ _ => rfl)) pe_int (fun _ _ => rfl)) (pa_cons pe_str pa_nil)))) pa_nil))) (pg_sub (pv 9) pe_int set_list))
                )) (pss_nil))
            (pss_one (ps_expr (pe_bm PySem.F.plainAttrs_list PySem.F.slot_list_append PySem.F.type_list_append mt_append (pv 4) (pa_cons (pe_tupF (pa_cons pe_str (pa_cons (pv 8) (pa_cons (pe_callTy call_tupleF rfl B.f_tuple (by decide +kernel) (pa_cons (pv 9) pa_nil)) pa_nil)))) pa_nil)))
            ))))))
        )))))
    (pss_one (ps_ret (pe_tupF (pa_cons (pv 4) (pa_cons (pv 3) pa_nil))))
    ))), ?_⟩
    refine ⟨_, rfl, _, rfl, v, ds, cs, rfl, sv, okd, okc, fun H1 r e1 nr lr => ?_⟩
    obtain ⟨rvs, hr1, pr1⟩ := lr
    have pos : 1 ≤ (allLay ds cs).length := allLay_pos okc
    refine ⟨d, r, rvs, rfl, hd.same e1, .inl ⟨SqL.of hr1, (hd.new nr).1⟩, by rw [Paired.len pr1]; exact pos, by rw [Paired.len pr1]; omega, fun H2 i0 lv0 k2 d2 hi0 => ?_⟩
    obtain ⟨l0, hl0, hlv0⟩ := Paired.get1 pr1 hi0
    have il0 := (allLay_mem okc).mp (List.mem_of_getElem? hl0)
    obtain ⟨xs1, hrw1⟩ := (hd.same e1).lst
    have hlv2 := hlv0.mono (k2.n hrw1)
    refine ⟨small (by simp), fun L H3 nL3 e3 hL3 => ⟨_, _, rfl, ?_⟩⟩
    have k03 : But d.1 H H3 := (But.of e1).trans (k2.trans (But.of e3))
    have nL : H L = none := by
      cases hh : H L with
      | none => rfl
      | some o =>
        exfalso
        have : L ≠ d.1 := (d2.new nL3).1
        have := (But.trans (But.of e1) k2) L o this hh
        rw [nL3] at this
        cases this
    have oL := hd.new nL
    refine ⟨_, rfl, _, rfl, _, _, rfl, rfl, d, m + 1, rfl, d2.same e3, by omega, by omega, fun H4 t4 k4 d4 ht4 => ⟨_, rfl, by omega, by omega, ?_⟩⟩
    have hpl : ((t4 : Nat) : Int).toNat = t4 := Int.toNat_natCast _
    refine for_it walk_rng (fun i σ H5 => ∃ (lv : V) (l : Lay) (us : List V) (rs : List LRow), (∃ j5 j6 j7 j8 j9 j10, σ = [some (.ref d.1), some v, some (nV m), some lv, some (.ref L), j5, j6, j7, j8, j9, j10]) ∧ But d.1 H H5 ∧ DrawAt K H5 d ∧ LayV H5 lv l ∧ IsLay (places ds) cs l ∧ H5 L = some (.lst us) ∧ Paired (RowV K H5) us rs ∧ rs.length ≤ i ∧ ∀ r ∈ rs, OkRow ds cs r) ?_
      (fun _ _ _ _ _ => trivial) (fun i y σ H5' H5 hi p hy => ?_) (fun σ H5 p => ?_)
    · obtain ⟨xs3, hrw3⟩ := (d2.same e3).lst
      exact ⟨lv0, l0, [], [], ⟨_, _, _, _, _, _, rfl⟩, k03.trans k4, d4, (hlv2.mono e3.n).mono (k4.n hrw3), il0, k4 _ _ oL.1 hL3, .nil, by simp, fun _ h => (nomatch h)⟩
    · obtain ⟨lv, l, us, rs, ⟨j5, j6, j7, j8, j9, j10, rfl⟩, k5, d5, hlv5, il, hL5, pr5, rl, okr⟩ := p
      obtain ⟨rfl, rfl⟩ := hy
      rw [hpl] at hi
      have ul : us.length = rs.length := Paired.len pr5
      have l6 : l.length ≤ 6 := by rw [il.1]; exact n6
      refine ⟨_, rfl, _, rfl, d, v, ds, cs, rfl, d5, svk k5, okd, okc, fun H6 x e k6 d6 hx oke => ?_⟩
      obtain ⟨xs5, hrw5⟩ := d5.lst
      have n56 := k6.n hrw5
      refine ⟨_, rfl, _, rfl, _, rfl, v, lv, x, ds, cs, l, e, rfl, svk (k5.trans k6), okd, okc, hlv5.mono n56, il, hx, oke, fun H7 p ls e7 np lsv lsl mem => ?_⟩
      obtain ⟨pvs, hp7, pp7⟩ := lsv
      have d7 := d6.same e7
      have k57 : But d.1 H5 H7 := k6.trans (But.of e7)
      have oP := d6.new np
      have Lp : L ≠ p := fun z => by have := k6 _ _ oL.1 hL5; rw [z, np] at this; cases this
      refine ⟨_, rfl, d, 2, rfl, d7, by decide, by decide, fun H8 t8 k8 d8 ht8 => ⟨rfl, _, rfl, ?_⟩⟩
      have k58 := k57.trans k8
      refine if_join (N := ?N) (fun H9 => Same H8 H9) ?hB ?hA ?hN
      case hB =>
        intro g h
        refine iteF ?_
        exact g H8 (Same.refl _)
      case' hN => intro H9 e9
      case' hA => intro g h
      · refine ⟨_, rfl, small (by simp), fun D H9 nD e9 hD => ?_⟩
        have hp9 := e9 _ _ (k8 _ _ oP.1 hp7)
        obtain ⟨xs7, hrw7⟩ := d7.lst
        have pp9 := pmono e9.n (pmono (k8.n hrw7) pp7)
        refine rNe_nil _ 1 (by decide) (SqL.of hp9) (SqL.of hD) (laysD pp9) (laysS fun m hm => ?_) ⟨_, rfl, ?_⟩
        · exact lay_ok (perm_lay il (after_perm il oke ((mem m).mp hm))) okc.2.2.2.1
        by_cases pz : pvs = []
        · rw [decide_eq_true pz]
          exact iteF (g _ e9)
        · rw [decide_eq_false pz]
          have pl1 : 1 ≤ pvs.length := List.length_pos_iff.mpr pz
          have pl2 : pvs.length ≤ 46656 := by rw [Paired.len pp7]; exact lsl
          have k59 : But d.1 H5 H9 := k58.trans (But.of e9)
          have hL9 := k59 _ _ oL.1 hL5
          refine iteT ⟨_, rfl, .inl ⟨rfl, _, SqL.of hL9⟩, _, rfl, _, _, _, rfl, rfl, hL9, small' (by omega), ?_⟩
          generalize hh : upd H9 L _ = H10
          have m10 : SameN H9 H10 := by rw [← hh]; exact SameN.wr hL9
          have k10 : But L H9 H10 := by rw [← hh]; exact But.upd _ _ _
          have hL10 : H10 L = some (.lst (us ++ [x])) := by rw [← hh]; exact upd_same
          clear hh
          have d10 := (d8.same e9).but k10 oL
          have hp10 := k10 _ _ Lp.symm hp9
          refine ⟨_, rfl, _, rfl, d, p, pvs, rfl, d10, .inl ⟨SqL.of hp10, oP.1⟩, pl1, by omega, fun H11 i11 v11 k11 d11 hv11 => ?_⟩
          obtain ⟨m11, hm11, hlv11⟩ := Paired.get1 pp9 hv11
          obtain ⟨xs10, hrw10⟩ := d10.lst
          have n911 := m10.trans (k11.n hrw10)
          have n59 := k59.n hrw5
          refine ⟨v11, m11, us ++ [x], rs ++ [.deed e], ⟨_, _, _, _, _, _, rfl⟩, ?_, d11, hlv11.mono n911, perm_lay il (after_perm il oke ((mem m11).mp (List.mem_of_getElem? hm11))), k11 _ _ oL.1 hL10, ?_, by rw [List.length_append, List.length_singleton]; omega, fun r hr => ?_⟩
          · exact fun b o nb hb => k11 _ _ nb (k10 b o (fun z => by rw [z, nL] at hb; cases hb) (k59 _ _ nb (k5 _ _ nb hb)))
          · obtain ⟨xs6, hrw6⟩ := d6.lst
            have n69 : SameN H6 H9 := ((But.of e7).trans (k8.trans (But.of e9))).n hrw6
            exact Paired.snoc (Paired.imp (fun _ _ h => (n59.trans n911).m.row h) pr5) ((n69.trans n911).m.row (r := .deed e) hx)
          · rcases List.mem_append.mp hr with h | h
            · exact okr r h
            · rw [List.mem_singleton.mp h]; exact oke
      · have d9 := d8.same e9
        have k59 : But d.1 H5 H9 := k58.trans (But.of e9)
        have k09 := k5.trans k59
        obtain ⟨p1, dd, cc, ev, h1, ⟨d', as, ed, htd, hpd⟩, h3⟩ := id (svk k09)
        cases ed
        subst ev
        have dl := Paired.len hpd
        refine ⟨_, rfl, _, rfl, _, _, _, _, rfl, rfl, h1, rfl, _, _, rfl, .inr ⟨_, htd, rfl⟩, d, as.length, rfl, d9, by have := okd.1; omega, by have := okd.2.1; omega, fun H10 t10 k10 d10 ht10 => ?_⟩
        have k510 := k59.trans k10
        have hlv10 := hlv5.mono (k510.n hrw5)
        refine ⟨_, rfl, _, rfl, _, rfl, .ref p1, lv, ds, cs, l, t10, rfl, svk (k5.trans k510), okd, hlv10, il.1, fun H11 r11 e11 ⟨b, er, hb⟩ => ?_⟩
        subst er
        have d11 := d10.same e11
        have tdl : t10 < ds.length := by omega
        have sl := seen_len_of il.1 t10
        have s6 := seen_len ds l t10
        obtain ⟨xs11, hrw11⟩ := d11.lst
        refine ⟨_, rfl, ⟨_, hb.sq⟩, ?_⟩
        refine comp_draw walk_tup (seen ds l t10) (fun v o => v = oV o) (fun v o => v = oV o ∨ v = .str "?") d11 (by rw [List.length_map]) (fun H' k => (hb.mono (k.n hrw11)).sq) (by rw [List.length_map]; omega) (fun j H12 y H' o ho hy => ?_) (fun j o y H' Qy Qn ho d12 hs ky => ?_) (fun D H12 ys nD k12 d12 hD pD => ?_)
        · obtain ⟨rfl, hy⟩ := hy
          obtain ⟨o', ho', rfl⟩ := oV_get hy
          rw [ho] at ho'
          cases ho'
          exact ⟨rfl, rfl⟩
        · subst hs
          cases o with
          | none => exact ⟨rfl, _, rfl, true, bl_t rfl, iteT ⟨_, rfl, ky _ _ (But.refl _ _) d12 (.inl rfl)⟩⟩
          | some z => exact ⟨rfl, _, rfl, false, bl_f (fun h => nomatch h), iteF ⟨_, rfl, d, 3, rfl, d12, by decide, by decide, fun H13 t13 k13 d13 ht13 => ⟨_, _, rfl, rfl, _, rfl, ite2 (fun _ => ⟨_, rfl, ky _ _ k13 d13 (.inl rfl)⟩) (fun _ => ky _ _ k13 d13 (.inr rfl))⟩⟩⟩
        obtain ⟨tl, rfl, tlen, told⟩ := told_of (cs := cs) pD fun o ho => by
          cases o with
          | none => exact .inl rfl
          | some z => exact .inr (.inr ⟨z, il.2.subset (List.mem_filterMap.mpr ⟨some z, seen_mem ho, rfl⟩), rfl⟩)
        have oD := d11.new nD
        have k512 : But d.1 H5 H12 := k510.trans ((But.of e11).trans k12)
        have LD : L ≠ D := fun z => by have := (k510.trans (But.of e11)) _ _ oL.1 hL5; rw [z, nD] at this; cases this
        refine ⟨_, rfl, d, 12, rfl, d12, by decide, by decide, fun H13 t13 k13 d13 ht13 => ⟨rfl, _, rfl, ?_⟩⟩
        refine if_join (N := ?N2) (fun H14 => But d.1 H5 H14 ∧ DrawAt K H14 d ∧ ∃ t : Lay, H14 D = some (.lst (t.map oV)) ∧ t.length = (placesOf ds t10).length ∧ ∀ o ∈ t, Told cs o) ?hB2 ?hA2 ?hN2
        case hB2 =>
          intro g h
          exact g H13 ⟨k512.trans k13, d13, tl, k13 _ _ oD.1 hD, tlen.trans sl, told⟩
        case' hN2 => intro H14 jj
        case' hA2 => intro g h
        · have k013 := k5.trans (k512.trans k13)
          obtain ⟨p2, dd2, cc2, ev2, h12, _, h32⟩ := id (svk k013)
          cases ev2
          obtain ⟨c0, crest, ec⟩ : ∃ c0 r, cs = c0 :: r := by
            cases cs with
            | nil => simp at c1
            | cons c r => exact ⟨c, r, rfl⟩
          refine ⟨_, rfl, _, rfl, _, _, _, _, rfl, rfl, h12, rfl, _, _, _, V.str c0, rfl, rfl, h32, by rw [ec]; exact atI_nat (xs := V.str c0 :: crest.map V.str) (j := 0) rfl, small (by simp), fun W H14 nW e14 hW => ⟨d, W, _, rfl, d13.same e14, .inl ⟨SqL.of hW, (d13.new nW).1⟩, by simp, by simp, fun H15 i15 v15 k15 d15 hv15 => ?_⟩⟩
          have hD15 := k15 _ _ oD.1 (e14 _ _ (k13 _ _ oD.1 hD))
          have t1 : 0 < tl.length := by
            obtain ⟨x0, hx0⟩ : ∃ x0, ds[t10]? = some x0 := ⟨_, List.getElem?_eq_getElem tdl⟩
            rw [tlen, sl, placesOf_eq hx0, List.length_range']
            exact (okd.2.2.1 x0 (List.mem_of_getElem? hx0)).2.2.1
          obtain ⟨o15, rfl, ht15⟩ : ∃ o, v15 = oV o ∧ Told cs o := by
            rcases i15 with _ | _ | _ | n
            · cases (show some V.non = some v15 from hv15); exact ⟨none, rfl, .inl rfl⟩
            · cases (show some (V.str c0) = some v15 from hv15); exact ⟨some c0, rfl, .inr (.inr ⟨c0, by rw [ec]; exact List.mem_cons_self, rfl⟩)⟩
            · cases (show some (V.str "?") = some v15 from hv15); exact ⟨some "?", rfl, .inr (.inl rfl)⟩
            · simp at hv15
          refine ⟨_, rfl, _, _, _, 0, rfl, rfl, hD15, ixN_nat (j := 0) (by rw [List.length_map]; exact t1), ?_⟩
          refine g _ ⟨?_, d15.but (But.upd _ _ _) oD, tl.set 0 o15, by rw [upd_same, List.map_set], by rw [List.length_set, tlen, sl], fun o ho => ?_⟩
          · exact fun b o nb hb => by
              have hb10 := (k510.trans (But.of e11)) b o nb hb
              rw [upd_ne (fun z => by rw [z, nD] at hb10; cases hb10)]
              exact k15 _ _ nb (e14 _ _ (k13 _ _ nb (k512 _ _ nb hb)))
          · rcases List.mem_or_eq_of_mem_set ho with h | h
            · exact told o h
            · rw [h]; exact ht15
        · obtain ⟨k14, d14, t, hD14, tn, ht⟩ := jj
          have hL14 := k14 _ _ oL.1 hL5
          refine ⟨_, rfl, .inl ⟨rfl, _, SqL.of hL14⟩, _, rfl, _, rfl, _, _, rfl, SqL.of hD14, fun T H15 nT e15 hT => ⟨small (by simp), fun R H16 nR e16 hR => ?_⟩⟩
          have e146 := e15.trans e16
          have hL16 := e146 _ _ hL14
          refine ⟨_, _, _, rfl, rfl, hL16, small' (by omega), ?_⟩
          generalize hh : upd H16 L _ = H17
          have m17 : SameN H16 H17 := by rw [← hh]; exact SameN.wr hL16
          have k17 : But L H16 H17 := by rw [← hh]; exact But.upd _ _ _
          have hL17 : H17 L = some (.lst (us ++ [.ref R])) := by rw [← hh]; exact upd_same
          clear hh
          have k516 : But d.1 H5 H16 := k14.trans (But.of e146)
          have n517 := (k516.n hrw5).trans m17
          refine ⟨lv, l, us ++ [.ref R], rs ++ [.opened t10 t], ⟨_, _, _, _, _, _, rfl⟩, ?_, (d14.same e146).but k17 oL, hlv5.mono n517, il, hL17, ?_, by rw [List.length_append, List.length_singleton]; omega, fun r hr => ?_⟩
          · exact fun b o nb hb => k17 b o (fun z => by rw [z, nL] at hb; cases hb) (k516 _ _ nb (k5 _ _ nb hb))
          · exact Paired.snoc (Paired.imp (fun _ _ h => n517.m.row h) pr5) ⟨R, T, rfl, (hR.mono m17).sq, (hT.mono e16.n).mono m17⟩
          · rcases List.mem_append.mp hr with h | h
            · exact okr r h
            · rw [List.mem_singleton.mp h]; exact ⟨tdl, tn, ht⟩
    · obtain ⟨lv, l, us, rs, ⟨j5, j6, j7, j8, j9, j10, rfl⟩, k5, d5, hlv5, il, hL5, pr5, rl, okr⟩ := p
      rw [hpl] at rl
      refine ⟨_, rfl, _, rfl, small (by simp), fun T H6 nT e6 hT => ?_⟩
      exact q H6 T L lv us rs l (k5.trans (But.of e6)) (d5.same e6) hT nL (e6 _ _ hL5) (Paired.imp (fun _ _ h => e6.n.m.row h) pr5) (by omega) okr (hlv5.mono e6.n) il
end
end CC

/-! text R3 -/
namespace CC
open PySem PySem.Spec PyProof.Rows L2 LamX
/-! ### defs that raise -/
structure CalX (P : Program) (w : World) (K : PySem.W.Frag) (mg : Str → Option Value) (base : Heap) (k : Nat) (x : Str) (sp : Sp) : Prop where
  ex : ∃ (f : Addr) (fd : FuncData) (ps : List Str), FnOk P w K mg base (L2.CX P w) k f fd ps sp ∧ mg x = some (.ref f) ∧ PySem.W.keepIn K (.ref f) = true ∧ Binds K fd ps []
section
variable {P : Program} {w : World} {K : PySem.W.Frag} {mg : Str → Option Value} {base : Heap}
theorem DefB.okX {x : Str} {st : Stmt} {ps N : List Str} {k : Nat} {sp : Sp} (D : DefB K mg x st ps) (S : FnScope N ps (defScope st)) (len : ∀ vs H Q E, sp vs H Q E → vs.length = ps.length)
    (hbody : ∀ (f : Addr) (cdv : Value) (A : Around) (outer : List Env) (s : Shared) (H : Hp) (vs : List V) (Q : VK) (E : XK), Room k (A.deeper (envOfC x (defScope st) s.heap.objs.size f cdv)) → sp vs H Q E →
      ∃ t, PSs (cxOf (L2.CX P w) P w K mg base N x (defScope st) f cdv A outer s H E) (defBody st) t ∧ t { nx := fun _ H' => Q .non H', rt := Q } (start N vs) H) : CalX P w K mg base (k + 1) x sp := by
  obtain ⟨f, fd, F, hm, b⟩ := D.ex
  exact ⟨f, fd, ps, F.okX S len (fun cdv A outer s H vs Q E hr h => hbody f cdv A outer s H vs Q E hr h), hm, F.kp, b⟩
end
section
variable {X : Cx} {k j : Nat} {x : Str} {sp : Sp} {E : XK} {p pos : Pos} {e : Expr} {es : List Expr} {t : TA}
theorem pe_cX (c : CalX X.prog X.w X.K X.mg X.base k x sp) (hr : Room j X.A) (hk : k ≤ j) (hx : Passes (L2.CX X.prog X.w) X E) (hg : Gl X x) (ha : PA X (e :: es) t)
    (hdb : (x == ("__debug__" : Str)) = false := by decide) (he : starEach (e :: es) X.env = (false, eval e X.env) :: starEach es X.env := by rfl) (hpl : (backTo pos (starEach es X.env)).any (·.1) = false := by rfl) :
    PE X (.Call (.Name x p) (e :: es) [] pos) (tCall sp [] E t) := by
  obtain ⟨f, fd, ps, F, hm, kp, b⟩ := c.ex
  exact pe_call (pos := pos) (p := p) F (hr.mono hk) hg hm kp b .nil hx ha hdb he hpl
end
def excT : List Str := ["InvalidStore", "InvalidHands", "InvalidLog", "InvalidPairs", "UnknownPlace", "UnknownDoor", "UnknownCrate", "InvalidLayout", "InvalidDeed", "NoLayout", "InvalidRow", "TooMany", "InvalidNames", "InvalidHabits", "InvalidNumber"]
/-- what the top leaves of the errors: CN is NoLayout, CS is StoreError -/
structure ExcB (K : PySem.W.Frag) (mg : Str → Option Value) (CN CS : Addr) : Prop where
  gN : mg "NoLayout" = some (.ref CN)
  kN : PySem.W.keepIn K (.ref CN) = true
  xN : PySem.W.excIn K CN [.type "ValueError", .type "Exception", .type "BaseException", .type "object"] "ValueError.__new__" = true
  bN : PySem.W.subIn K (.ref CN) (.type "BaseException") = some true
  tN : PySem.W.typeIn K (.ref CN) = some (.type "type")
  gS : mg "StoreError" = some (.ref CS)
  eS : PySem.W.exmOne K (.ref CN) (.ref CS) = some true
  ec : ExcC K CN
  kit : ∀ (i : Nat) x, excT[i]? = some x → ∃ D, mg x = some (.ref D) ∧ PySem.W.kitOne K (.ref CN) (.ref D) = some (decide (i = 9))
  kV : PySem.W.kitOne K (.ref CN) (.type "ValueError") = some true
section
variable {P : Program} {w : World} {K : PySem.W.Frag} {mg : Str → Option Value} {base : Heap} {C CN CS : Addr}
def spNeedX (CN : Addr) : Sp := fun vs H Q E => ∃ r : Addr, vs = [.ref r] ∧ H r = some (.lst []) ∧ ∀ H', Same H H' → E (.ref CN) none H'
theorem calX_need_some (B : Base K mg) (XB : ExcB K mg CN CS) : CalX P w K mg base 1 "need_some" (spNeedX CN) := by
  refine B.d_need_some.okX sc_need_some (fun vs H Q E h => ?_) (fun f cdv A outer s H vs Q E hr h => ?_)
  · obtain ⟨r, rfl, _⟩ := h
    rfl
  · obtain ⟨r, rfl, hr1, q⟩ := h
    refine ⟨_, pss_one (ps_if (pt_cmpR (op_eqD hr.units) (pv 0) (pe_lstN pa_nil) (nomark _)) (pss_one (ps_raise rfl (takes_of rfl rfl rfl rfl) (pmk_own PySem.F.excBase_ValueError XB.xN XB.gN XB.kN (raises_own XB.bN XB.tN) rfl))) pss_nil), ?_⟩
    refine ⟨_, rfl, small (by simp), fun D H1 nD e1 hD => ?_⟩
    refine rEq_nil [] 1 (by decide) (SqL.of (e1 _ _ hr1)) (SqL.of hD) .nil (fun _ h => (nomatch h)) ⟨_, rfl, ?_⟩
    rw [decide_eq_true rfl]
    exact iteT (q _ e1)
def spNoneX (K : PySem.W.Frag) (C CN : Addr) : Sp := fun vs H Q E => ∃ a ds cs v rs, vs = [.ref a, v] ∧ LogIn K C H a v ds cs rs ∧ (¬ ∃ m, Reach ds rs (IsLay (places ds) cs) m) ∧ ∀ H', Same H H' → E (.ref CN) none H'
theorem calX_some_now (B : Base K mg) (S : StoreB K mg C) (XB : ExcB K mg CN CS) : CalX P w K mg base 15 "some_now" (spNoneX K C CN) := by
  refine B.d_some_now.okX sc_some_now (fun vs H Q E h => ?_) (fun f cdv A outer s H vs Q E hr h => ?_)
  · obtain ⟨a, ds, cs, v, rs, rfl, _⟩ := h
    rfl
  · obtain ⟨a, ds, cs, v, rs, rfl, li, no, q⟩ := h
    refine ⟨_, (pss_cons (ps_set (i := 2) sc_some_now.nd rfl (.inl rfl) (pe_c (cal_now B S) hr (by decide) rfl (pa_cons (pv 0) (pa_cons (pv 1) pa_nil))))
    (pss_cons (ps_expr (pe_cX (E := E) (calX_need_some B XB) hr (by decide) (passes_call (takes_of rfl rfl rfl rfl) (fun _ _ _ _ h => h)) rfl (pa_cons (pv 2) pa_nil)))
    (pss_one (ps_ret (pv 2))
    ))), ?_⟩
    refine ⟨_, rfl, _, rfl, a, ds, cs, v, rs, rfl, li, fun H1 p ks e1 np en lp => ?_⟩
    have kz : ks = [] := by
      cases ks with
      | nil => rfl
      | cons m t => exact absurd ⟨m, (en.mem m).mp List.mem_cons_self⟩ no
    subst kz
    obtain ⟨us, hp, pr⟩ := lp
    rw [show sortL ([] : List Lay) = [] from List.length_eq_zero_iff.mp (sortL_len [])] at pr
    cases pr
    exact ⟨_, rfl, p, rfl, hp, fun H2 e2 => q _ (e1.trans e2)⟩
theorem calX_table (B : Base K mg) (S : StoreB K mg C) (XB : ExcB K mg CN CS) : CalX P w K mg base 16 "table" (spNoneX K C CN) := by
  refine B.d_table.okX sc_table (fun vs H Q E h => ?_) (fun f cdv A outer s H vs Q E hr h => ?_)
  · obtain ⟨a, ds, cs, v, rs, rfl, _⟩ := h
    rfl
  · obtain ⟨a, ds, cs, v, rs, rfl, li, no, q⟩ := h
    refine ⟨_, pss_cons (ps_set (i := 2) sc_table.nd rfl (.inl rfl) (pe_cX (E := E) (calX_some_now B S XB) hr (by decide) (passes_call (takes_of rfl rfl rfl rfl) (fun _ _ _ _ h => h)) rfl (pa_cons (pv 0) (pa_cons (pv 1) pa_nil)))) (pss_cons ps_never (pss_cons ps_never (pss_one ps_never))), ?_⟩
    exact ⟨_, rfl, _, rfl, a, ds, cs, v, rs, rfl, li, no, q⟩
end
abbrev s__law_raised : Stmt := topS 103
abbrev N__law_raised : List Str := ["_law_work", "_law_marks", "_law_at", "_law_names", "e"]
theorem sc__law_raised : FnScope N__law_raised ["_law_work"] (defScope s__law_raised) := ⟨rfl, rfl, rfl, by decide +kernel, rfl, by decide +kernel, by decide +kernel⟩
-- cells: []; calls: []
/-- what _law_raised makes of a call that raises NoLayout -/
def TRaised (K : PySem.W.Frag) (CN : Addr) : (XK → Hp → VK → Prop) → Hp → VK → Prop := fun tl H Q =>
  tl (fun cls d H' => cls = .ref CN ∧ d = none ∧ ∀ H2 T, Same H' H2 → TupF H2 T [.str "none"] → Q (.ref T) H2) H (fun _ H' => Q .non H')
abbrev cxG (X : Cx) (g : Addr) (cdg : Value) (s : Shared) (H : Hp) : Cx := (cxOf C8.CX0 X.prog X.w X.K X.mg X.base N__law_raised "_law_raised" (defScope s__law_raised) g cdg X.A X.stack s H C8.E0).nox
theorem pss_of {X : Cx} {b : List Stmt} {u : TS} (h : ∀ D σ H, σ.length = X.N.length → u D σ H → ∃ t, PSs X b t ∧ t D σ H) : PSs X b u := ⟨fun pins s σ H D I q => by
  obtain ⟨t, ht, hq⟩ := h D σ H I.len q
  exact ht.run pins s σ H D I hq⟩
theorem raised_gives {X : Cx} {CN CS g : Addr} {cdg : Value} {q : Str} (B : Base X.K X.mg) (XB : ExcB X.K X.mg CN CS) :
    GivesTo X N__law_raised "_law_raised" (defScope s__law_raised) g cdg (defBody s__law_raised) "_law_work" q (TRaised X.K CN) := by
  intro f c' s H Q tl act hc h
  obtain ⟨D0, m0, k0⟩ := XB.kit 0 _ rfl
  obtain ⟨D1, m1, k1⟩ := XB.kit 1 _ rfl
  obtain ⟨D2, m2, k2⟩ := XB.kit 2 _ rfl
  obtain ⟨D3, m3, k3⟩ := XB.kit 3 _ rfl
  obtain ⟨D4, m4, k4⟩ := XB.kit 4 _ rfl
  obtain ⟨D5, m5, k5⟩ := XB.kit 5 _ rfl
  obtain ⟨D6, m6, k6⟩ := XB.kit 6 _ rfl
  obtain ⟨D7, m7, k7⟩ := XB.kit 7 _ rfl
  obtain ⟨D8, m8, k8⟩ := XB.kit 8 _ rfl
  obtain ⟨D9, m9, k9⟩ := XB.kit 9 _ rfl
  obtain ⟨D10, m10, k10⟩ := XB.kit 10 _ rfl
  obtain ⟨D11, m11, k11⟩ := XB.kit 11 _ rfl
  obtain ⟨D12, m12, k12⟩ := XB.kit 12 _ rfl
  obtain ⟨D13, m13, k13⟩ := XB.kit 13 _ rfl
  obtain ⟨D14, m14, k14⟩ := XB.kit 14 _ rfl
  refine ⟨_, pss_cons (ps_try_as (X := cxG X g cdg s H) (i := 4) (c := .ref CS)
      (tb := fun W D σ H => ∃ Ech : XK, (∀ cls d σ' H', Ech cls d H' → W cls d σ' H') ∧ σ[0]? = some (some (.ref f)) ∧ H c' = some (CodeO c' q) ∧ tl Ech H (fun _ H' => D.nx σ H'))
      (ts := fun a cls d D σ H => cls = .ref CN ∧ d = none ∧ (∃ σ0 : L2.St, σ = σ0.set 4 (some (.ref a))) ∧ ∀ H2 T, Same H H2 → TupF H2 T [.str "none"] → D.rt (.ref T) H2)
      rfl rfl sc__law_raised.nd rfl rfl ⟨rfl, by decide, .inl XB.gS⟩ L2.takes0 (fun W pn xe tk _ => ?_) (fun a oe cls d pn hz hf => ?_)) (pss_one (ps_ret pe_non)), ?_⟩
  · refine ⟨fun pins s' σ H' D I h' => ?_⟩
    obtain ⟨Ech, hW, h1, h2, h3⟩ := h'
    have hp := fun p1 p2 => act W pn xe Ech p1 p2 tk hW
    exact (pss_one (ps_expr (hp _ _))).run pins s' σ H' D I ⟨h1, h2, h3⟩
  · refine pss_of fun D σ H' hl h' => ?_
    obtain ⟨rfl, rfl, ⟨σ0, rfl⟩, hq⟩ := h'
    obtain ⟨x0, x1, x2, x3, x4, rfl⟩ : ∃ x0 x1 x2 x3 x4, σ0 = [x0, x1, x2, x3, x4] := by
      rw [List.length_set] at hl
      match σ0, hl with
      | [x0, x1, x2, x3, x4], _ => exact ⟨_, _, _, _, _, rfl⟩
    refine ⟨_, ((pss_cons (ps_set (i := 1) sc__law_raised.nd rfl (.inl rfl) (pe_lstN (pa_cons (pe_callB (call_isE (X := cxG X g cdg s H) (a := a) (oe := oe) (pn := pn) XB.ec hz hf) rfl B.f_isinstance (by decide +kernel) (pa_cons (pv 4) (pa_cons (pe_gc (v := .ref D0) rfl ⟨_, m0, rfl⟩) pa_nil))) (pa_cons (pe_callB (call_isE (X := cxG X g cdg s H) (a := a) (oe := oe) (pn := pn) XB.ec hz hf) rfl B.f_isinstance (by decide +kernel) (pa_cons (pv 4) (pa_cons (pe_gc (v := .ref D1) rfl ⟨_, m1, rfl⟩) pa_nil))) (pa_cons (pe_callB (call_isE (X := cxG X g cdg s H) (a := a) (oe := oe) (pn := pn) XB.ec hz hf) rfl B.f_isinstance (by decide +kernel) (pa_cons (pv 4) (pa_cons (pe_gc (v := .ref D2) rfl ⟨_, m2, rfl⟩) pa_nil))) pa_nil)))))
          (pss_cons (ps_set (i := 1) sc__law_raised.nd rfl (.inl rfl) (pe_op op_catN (pv 1) (pe_lstN (pa_cons (pe_callB (call_isE (X := cxG X g cdg s H) (a := a) (oe := oe) (pn := pn) XB.ec hz hf) rfl B.f_isinstance (by decide +kernel) (pa_cons (pv 4) (pa_cons (pe_gc (v := .ref D3) rfl ⟨_, m3, rfl⟩) pa_nil))) (pa_cons (pe_callB (call_isE (X := cxG X g cdg s H) (a := a) (oe := oe) (pn := pn) XB.ec hz hf) rfl B.f_isinstance (by decide +kernel) (pa_cons (pv 4) (pa_cons (pe_gc (v := .ref D4) rfl ⟨_, m4, rfl⟩) pa_nil))) (pa_cons (pe_callB (call_isE (X := cxG X g cdg s H) (a := a) (oe := oe) (pn := pn) XB.ec hz hf) rfl B.f_isinstance (by decide +kernel) (pa_cons (pv 4) (pa_cons (pe_gc (v := .ref D5) rfl ⟨_, m5, rfl⟩) pa_nil))) pa_nil))))))
          (pss_cons (ps_set (i := 1) sc__law_raised.nd rfl (.inl rfl) (pe_op op_catN (pv 1) (pe_lstN (pa_cons (pe_callB (call_isE (X := cxG X g cdg s H) (a := a) (oe := oe) (pn := pn) XB.ec hz hf) rfl B.f_isinstance (by decide +kernel) (pa_cons (pv 4) (pa_cons (pe_gc (v := .ref D6) rfl ⟨_, m6, rfl⟩) pa_nil))) (pa_cons (pe_callB (call_isE (X := cxG X g cdg s H) (a := a) (oe := oe) (pn := pn) XB.ec hz hf) rfl B.f_isinstance (by decide +kernel) (pa_cons (pv 4) (pa_cons (pe_gc (v := .ref D7) rfl ⟨_, m7, rfl⟩) pa_nil))) (pa_cons (pe_callB (call_isE (X := cxG X g cdg s H) (a := a) (oe := oe) (pn := pn) XB.ec hz hf) rfl B.f_isinstance (by decide +kernel) (pa_cons (pv 4) (pa_cons (pe_gc (v := .ref D8) rfl ⟨_, m8, rfl⟩) pa_nil))) pa_nil))))))
          (pss_cons (ps_set (i := 1) sc__law_raised.nd rfl (.inl rfl) (pe_op op_catN (pv 1) (pe_lstN (pa_cons (pe_callB (call_isE (X := cxG X g cdg s H) (a := a) (oe := oe) (pn := pn) XB.ec hz hf) rfl B.f_isinstance (by decide +kernel) (pa_cons (pv 4) (pa_cons (pe_gc (v := .ref D9) rfl ⟨_, m9, rfl⟩) pa_nil))) (pa_cons (pe_callB (call_isE (X := cxG X g cdg s H) (a := a) (oe := oe) (pn := pn) XB.ec hz hf) rfl B.f_isinstance (by decide +kernel) (pa_cons (pv 4) (pa_cons (pe_gc (v := .ref D10) rfl ⟨_, m10, rfl⟩) pa_nil))) (pa_cons (pe_callB (call_isE (X := cxG X g cdg s H) (a := a) (oe := oe) (pn := pn) XB.ec hz hf) rfl B.f_isinstance (by decide +kernel) (pa_cons (pv 4) (pa_cons (pe_gc (v := .ref D11) rfl ⟨_, m11, rfl⟩) pa_nil))) pa_nil))))))
          (pss_cons (ps_set (i := 1) sc__law_raised.nd rfl (.inl rfl) (pe_op op_catN (pv 1) (pe_lstN (pa_cons (pe_callB (call_isE (X := cxG X g cdg s H) (a := a) (oe := oe) (pn := pn) XB.ec hz hf) rfl B.f_isinstance (by decide +kernel) (pa_cons (pv 4) (pa_cons (pe_gc (v := .ref D12) rfl ⟨_, m12, rfl⟩) pa_nil))) (pa_cons (pe_callB (call_isE (X := cxG X g cdg s H) (a := a) (oe := oe) (pn := pn) XB.ec hz hf) rfl B.f_isinstance (by decide +kernel) (pa_cons (pv 4) (pa_cons (pe_gc (v := .ref D13) rfl ⟨_, m13, rfl⟩) pa_nil))) (pa_cons (pe_callB (call_isE (X := cxG X g cdg s H) (a := a) (oe := oe) (pn := pn) XB.ec hz hf) rfl B.f_isinstance (by decide +kernel) (pa_cons (pv 4) (pa_cons (pe_gc (v := .ref D14) rfl ⟨_, m14, rfl⟩) pa_nil))) pa_nil))))))
          (pss_cons (ps_if (PW.pt (pw_or (pt_cmpR op_ne (pe_bm PySem.F.plainAttrs_list PySem.F.slot_list_count PySem.F.type_list_count mt_lcnt (pv 1) (pa_cons pe_bl pa_nil)) pe_int (nomark _)) (pw_or1 (pt_not (pt_val (pe_callB (call_isE (X := cxG X g cdg s H) (a := a) (oe := oe) (pn := pn) XB.ec hz hf) rfl B.f_isinstance (by decide +kernel) (pa_cons (pv 4) (pa_cons (pe_bltn (v := .ty "ValueError") rfl B.f_ValueError (by decide +kernel) rfl) pa_nil)))))))) (pss_one ps_never) pss_nil)
          (pss_cons (ps_set (i := 2) sc__law_raised.nd rfl (.inl rfl) (pe_bm PySem.F.plainAttrs_list PySem.F.slot_list_index PySem.F.type_list_index mt_index (pv 1) (pa_cons pe_bl pa_nil)))
          (pss_cons (ps_if (pt_cmpR op_lt (pv 2) pe_int (nomark _)) (pss_one ps_never) pss_nil)
          (pss_cons (ps_if (pt_cmpR op_lt (pv 2) pe_int (nomark _)) (pss_one ps_never) pss_nil)
          (pss_cons (ps_set (i := 3) sc__law_raised.nd rfl (.inl rfl) (pe_lstN (pa_cons pe_str (pa_cons pe_str (pa_cons pe_str (pa_cons pe_str (pa_cons pe_str (pa_cons pe_str (pa_cons pe_str (pa_cons pe_str (pa_cons pe_str (pa_cons pe_str (pa_cons pe_str pa_nil)))))))))))))
          (pss_one (ps_ret (pe_tupF (pa_cons (pe_ix ix_list (pv 3) (pe_op op_sub (pv 2) pe_int) (fun _ _ => rfl)) pa_nil))))))))))))))), ?_⟩
    refine ⟨_, rfl, _, _, _, rfl, fun _ h => h, k0, _, rfl, _, _, _, rfl, fun _ h => h, k1, _, rfl, _, _, _, rfl, fun _ h => h, k2, small (by simp), fun L0 H0 n0 e0 h0 => ?_⟩
    refine ⟨_, rfl, _, rfl, _, _, _, rfl, fun _ h => h, k3, _, rfl, _, _, _, rfl, fun _ h => h, k4, _, rfl, _, _, _, rfl, fun _ h => h, k5, small (by simp), fun M1 G1 q1 f1 g1 => ⟨_, _, _, _, rfl, rfl, f1 _ _ h0, g1, small (by simp), fun L1 H1 n1 e1 h1 => ?_⟩⟩
    refine ⟨_, rfl, _, rfl, _, _, _, rfl, fun _ h => h, k6, _, rfl, _, _, _, rfl, fun _ h => h, k7, _, rfl, _, _, _, rfl, fun _ h => h, k8, small (by simp), fun M2 G2 q2 f2 g2 => ⟨_, _, _, _, rfl, rfl, f2 _ _ h1, g2, small (by simp), fun L2 H2 n2 e2 h2 => ?_⟩⟩
    refine ⟨_, rfl, _, rfl, _, _, _, rfl, fun _ h => h, k9, _, rfl, _, _, _, rfl, fun _ h => h, k10, _, rfl, _, _, _, rfl, fun _ h => h, k11, small (by simp), fun M3 G3 q3 f3 g3 => ⟨_, _, _, _, rfl, rfl, f3 _ _ h2, g3, small (by simp), fun L3 H3 n3 e3 h3 => ?_⟩⟩
    refine ⟨_, rfl, _, rfl, _, _, _, rfl, fun _ h => h, k12, _, rfl, _, _, _, rfl, fun _ h => h, k13, _, rfl, _, _, _, rfl, fun _ h => h, k14, small (by simp), fun M4 G4 q4 f4 g4 => ⟨_, _, _, _, rfl, rfl, f4 _ _ h3, g4, small (by simp), fun L4 H4 n4 e4 h4 => ?_⟩⟩
    have hm : H4 L4 = some (.lst [.bl false, .bl false, .bl false, .bl false, .bl false, .bl false, .bl false, .bl false, .bl false, .bl true, .bl false, .bl false, .bl false, .bl false, .bl false]) := h4
    refine ⟨_, rfl, .inl ⟨rfl, _, SqL.of hm⟩, _, _, _, rfl, rfl, SqL.of hm, rfl, rfl, rfl, false, rfl, iteF ⟨_, rfl, _, _, _, rfl, fun _ h => h, XB.kV, _, rfl, iteF ?_⟩⟩
    refine ⟨_, rfl, .inl ⟨rfl, _, SqL.of hm⟩, _, _, _, 9, .bl true, rfl, rfl, SqL.of hm, rfl, rfl, rfl, rfl, fun m z' hm1 hz1 => ?_, ?_⟩
    · rcases m with _ | _ | _ | _ | _ | _ | _ | _ | _ | m <;> first | (cases hz1; rfl) | (exfalso; omega)
    refine ⟨_, rfl, _, _, rfl, rfl, false, rfl, iteF ⟨_, rfl, _, _, rfl, rfl, false, rfl, iteF ?_⟩⟩
    refine ⟨small (by simp), fun L5 H5 n5 e5 h5 => ?_⟩
    refine ⟨_, rfl, _, rfl, _, _, rfl, rfl, _, _, _, .str "none", rfl, rfl, SqL.of h5, rfl, small (by simp), fun T H6 nT e6 hT => ?_⟩
    exact hq _ _ (e0.trans (f1.trans (e1.trans (f2.trans (e2.trans (f3.trans (e3.trans (f4.trans (e4.trans (e5.trans e6)))))))))) hT
  · refine ⟨_, fun cls d σ' H' ⟨e1, e2, e3⟩ => ⟨true, by rw [e1]; exact XB.eS, fun _ a na => ⟨e1, e2, ⟨σ', rfl⟩, e3⟩, fun z => absurd z (by decide)⟩, rfl, hc, h⟩
end CC

/-! text S3 -/
namespace CC
open PySem PySem.Spec PyProof.Rows L2
/-! ### set(a list of ints) -/
section
variable {P : Program} {w : World} {A : Around} {E : Value → Shared → Prop} {s : Shared}
/-- an empty set, new -/
abbrev setO0 (w : World) : Obj := { cls := .type "set", dict := none, data := .set #[] 0 (.fresh 0 0 (!w.params.followText "set-order")) }
abbrev withSet (w : World) (s : Shared) : Shared := { s with heap := s.heap.push (setO0 w) }
/-- what is known behind the filling -/
def Filled (w : World) (s : Shared) (ns : List Int) (s2 : Shared) : Prop := ∃ (g : Heap) (tk c : Nat), s2 = { s with heap := g, toks := tk } ∧ SetR w g s.heap.objs.size (fun j => decide (j ∈ ns)) c ∧ ∀ b o, s.heap.get? b = some o → g.get? b = some o
set_option maxHeartbeats 3200000 in
theorem set_of_ints {l : Addr} {its : Array Value} (ns : List Int) {Q : Value → Shared → Prop} (hh : A.handled = none) (hl : s.heap.IsList l its) (hi : IntsAre its.toList ns) (hb : ns.length + 1 < scanBound)
    (h : ∀ s2, Filled w s ns s2 → Q (.ref s.heap.objs.size) s2) : wpAny (model P w) A (call (.type "set") [.ref l]) Q E s := by
  have iz : its.size = ns.length := (Array.length_toList (xs := its)).symm.trans (IntsAre.length hi)
  obtain ⟨c, tl, q1⟩ := F.called_set.mro
  have q2 := F.called_set.made; have q3 := F.called_set.sub; have q4 := F.called_set.notType; have q5 := F.called_set.canCreate
  have q6 := F.typeCall_set_1 (.ref l)
  refine wpAny_call (codeAny_of_tree (show wpAny _ _ (callAny (.type "set") _) _ _ _ from wpAny_pure ⟨Code.quiet_builtin _ (by decide +kernel), codeAny_builtin F.entry_type_call ?_⟩))
  rw [Around.under_plain (weight_type_call_type "set" [.ref l] []) rfl]; repeat (any_goals (first | assumption | wp_step))
  refine codeAny_mono (code_set_led1 (.ref l) (E := E) (Q₁ := fun ob s1 => ob = .ref s.heap.objs.size ∧ s1 = withSet w s) ⟨rfl, rfl⟩) fun r s1 hr => ?_
  rcases r with e | fl
  · exact hr
  cases fl <;> first | exact hr.elim | skip
  obtain ⟨rfl, rfl⟩ := hr
  have hS : (withSet w s).heap.get? s.heap.objs.size = some (setO0 w) := Heap.get?_push_size _ rfl
  have hT : Shared.TypeIs (withSet w s) (.ref s.heap.objs.size) "set" := ⟨_, hS, rfl⟩
  have q7 := F.called_set.init.lookup; have q8 := F.called_set.init.bind (.ref s.heap.objs.size)
  repeat (any_goals (first | assumption | wp_step))
  refine codeAny_mono (codeAny_call_builtin (R := wants (fun u s2 => u = .none ∧ Filled w s ns s2) E) F.called_set.init.plain F.entry_set_init (check_set_init_1 hT ?_)) fun r2 s2 hr2 => ?_
  · obtain ⟨⟨oc, od, odt, osl⟩, hol, hcl, nl, hdl⟩ := hl
    simp only at hcl hdl
    subst hcl hdl
    have hol2 : (withSet w s).heap.get? l = some { cls := .type "list", dict := od, data := .seq its nl, slots := osl } := Heap.get?_push_of_some _ hol
    have z1 := F.sub_list_set; have z2 := F.sub_list_frozenset; have z3 : (Value.type "list" == Value.type "dict") = false := by decide
    have hl1 : (withSet w s).heap.IsList l its := ⟨_, hol2, rfl, nl, rfl⟩
    unfold Builtin.«set.__init__» noKeywords Builtin.Frozenset.updateFrom
    generalize hPI : pyIter = PI
    wp_walk
    subst hPI
    refine wpAny_pyIter_list hl1 (wpAny_bind (wpAny_runValue ?_))
    have lS : l < s.heap.objs.size := Heap.lt_size hol
    have h3 : A.in1.in1.in1.handled = none := by simp [hh]
    have nI : l ≠ (withSet w s).heap.objs.size := by rw [Heap.size_push]; exact Nat.ne_of_lt (Nat.lt_succ_of_lt lS)
    have nS : s.heap.objs.size ∉ [(withSet w s).heap.objs.size, l] := by
      rw [Heap.size_push]
      simp only [List.mem_cons, List.mem_singleton, List.not_mem_nil, or_false, not_or]; exact ⟨Nat.ne_of_lt (Nat.lt_succ_self _), Nat.ne_of_gt lS⟩
    refine set_update_ints ((Walks.list h3 _ l nI its).toS) s.heap.objs.size nS ns iz hb (fun i v hv => ?_) (its.size - 0) 0 _ (by omega) (Nat.zero_le _) ⟨⟨_, Heap.get?_push_size _ rfl, rfl, rfl⟩, hl1.push _⟩
      ⟨0, Nat.le_refl 0, setR_new_at (Heap.get?_push_of_some _ hS)⟩ fun s9 c9 hm hc9 hS9 => ?_
    · have hin : i < ns.length := iz ▸ (Array.getElem?_eq_some_iff.mp hv).1
      obtain ⟨t, e⟩ := PyProof.Rows.IntsAre.int_at hi i v (by rw [Array.getElem?_toList]; exact hv)
      refine ⟨ns[i], t, List.getElem?_eq_getElem hin, ?_⟩
      rw [e, List.getD_eq_getElem?_getD, List.getElem?_eq_getElem hin] <;> rfl
    · obtain ⟨g9, gs9, d9, tk9, os9⟩ := s9
      obtain ⟨rfl, rfl, rfl⟩ : gs9 = s.gens ∧ d9 = s.drawn ∧ os9 = s.os := ⟨hm.gens, hm.drawn, hm.os⟩
      show wpAny _ _ _ _ _ _
      refine wpAny_pure (show wpAny _ _ (ret Value.none) _ _ _ from wpAny_pure ⟨rfl, g9, tk9, c9, rfl, hS9, fun b o e => ?_⟩)
      have b0 : b < s.heap.objs.size := Heap.lt_size e
      have b2 : b ≠ (withSet w s).heap.objs.size := by rw [Heap.size_push]; exact Nat.ne_of_lt (Nat.lt_succ_of_lt b0)
      refine hm.heap b o ?_ (Heap.get?_push_of_some _ (Heap.get?_push_of_some _ e))
      simp only [List.mem_cons, List.mem_singleton, List.not_mem_nil, or_false, not_or]; exact ⟨Nat.ne_of_lt b0, b2⟩
  · rcases r2 with e | fl2
    · exact hr2
    cases fl2 <;> first | exact hr2.elim | skip
    obtain ⟨rfl, hF⟩ := hr2
    repeat (any_goals (first | assumption | wp_step))
    exact h _ hF
end
theorem intsAre_of : ∀ {ns : List Int} {us : List Value}, Vals (ns.map V.int) us → IntsAre us ns
  | [], _, .nil => .nil
  | n :: ns, _, .cons r t => by
    obtain ⟨tk, rfl⟩ := r
    exact .cons n tk (intsAre_of t)
theorem few_ints {ks : List Int} (nd : ks.Nodup) (h : ∀ k ∈ ks, 0 ≤ k ∧ k < 60) : ks.length < 64 := by
  have := nodup_sub (b := (List.range 60).map fun i => ((i : Nat) : Int)) nd fun k hk => by
    obtain ⟨h1, h2⟩ := h k hk
    exact List.mem_map.mpr ⟨k.toNat, List.mem_range.mpr (by omega), by omega⟩
  rw [List.length_map, List.length_range] at this
  omega
section
variable {X : Cx}
def rSetI (K : PySem.W.Frag) (w : World) : List V → Hp → VK → Prop := fun xs H Q => ∃ (l : Addr) (ns : List Int), xs = [.ref l] ∧ SqL K H l (ns.map V.int) ∧ ns.length ≤ 4000 ∧ (∀ k ∈ ns, 0 ≤ k ∧ k < 60) ∧
  ∀ (p : Addr) (H' : Hp) (n : Nat), H p = none → Same H H' → H' p = some (SetO w p (fun j => decide (j ∈ ns)) n) → n < 64 → Q (.ref p) H'
theorem cr_setI (hc : X.calm = true) : CallR X (.type "set") (rSetI X.K X.w) := by
  intro pins s σ H xs us Q I r h
  obtain ⟨l, ns, rfl, hl, hn, hk, q⟩ := h
  rw [Vals.ref1 r]
  obtain ⟨its, rv, pl, hz⟩ := I.list hl
  have hnone : H s.heap.objs.size = none := I.hok.fresh (Nat.le_refl _)
  refine set_of_ints ns (I.ok.hd hc) pl.isList (by simpa using intsAre_of rv) (by unfold scanBound; omega) fun s2 ⟨g, tk, c, e, R, k⟩ => ?_
  subst e
  have c64 : c < 64 := by
    obtain ⟨o, es, ep, t, _, _, _, _, nd, mem, _, _, en, _⟩ := id R
    have := few_ints nd fun k hk2 => hk k (of_decide_eq_true ((mem k).mpr hk2))
    rw [List.length_map, Array.length_toList, en] at this
    exact this
  exact ⟨.ref s.heap.objs.size, upd H s.heap.objs.size (SetO X.w s.heap.objs.size (fun j => decide (j ∈ ns)) c), I.laid (t' := tk) k (Nat.le_refl _) (setO_new R), rfl, q _ _ c hnone (Same.new hnone) upd_same c64⟩
end
end CC

/-! text M3 -/
namespace CC
open PySem PySem.Spec PyProof.Rows L2
/-! ### how many layouts there are -/
def fac : Nat → Nat
  | 0 => 1
  | n + 1 => (n + 1) * fac n
def permN : Nat → Lay → List Lay
  | 0, _ => [[]]
  | n + 1, l => (List.range l.length).flatMap fun k => (permN n (l.eraseIdx k)).map (l.getD k none :: ·)
theorem permN_len : ∀ (n : Nat) (l : Lay), l.length = n → (permN n l).length ≤ fac n
  | 0, _, _ => Nat.le_refl _
  | n + 1, l, h => by
    unfold permN fac
    have := flat_len (m := fac n) (l := List.range l.length) (f := fun k => (permN n (l.eraseIdx k)).map (l.getD k none :: ·)) fun k hk => by
      rw [List.length_map]
      refine permN_len n _ ?_
      rw [erase_len (List.mem_range.mp hk), h]
      rfl
    rw [List.length_range, h] at this
    rw [h]
    exact this
theorem permN_mem : ∀ (n : Nat) (l m : Lay), l.length = n → m.Perm l → m ∈ permN n l
  | 0, l, m, h, p => by
    rw [List.length_eq_zero_iff.mp h] at p
    rw [p.eq_nil]
    exact List.mem_singleton.mpr rfl
  | n + 1, l, m, h, p => by
    have ne : l ≠ [] := fun z => by rw [z] at h; cases h
    obtain ⟨k, hk, x, hx, r, hr, rfl⟩ := (ord_all ne).mpr p
    unfold permN
    refine List.mem_flatMap.mpr ⟨k, List.mem_range.mpr hk, List.mem_map.mpr ⟨r, permN_mem n _ _ (by rw [erase_len hk, h]; rfl) hr, ?_⟩⟩
    rw [List.getD_eq_getElem?_getD, hx]
    rfl
theorem lays_few {n : Nat} {cs : List Str} {ks : List Lay} (nd : ks.Nodup) (h : ∀ m ∈ ks, IsLay n cs m) (n6 : n ≤ 6) : ks.length ≤ 720 := by
  cases ks with
  | nil => exact Nat.zero_le _
  | cons l t =>
    have hl := h l List.mem_cons_self
    have := nodup_sub (b := permN n l) nd fun m hm => permN_mem n l m hl.1 (lay_perm ((h m hm).2.trans hl.2.symm) ((h m hm).1.trans hl.1.symm))
    refine Nat.le_trans this (Nat.le_trans (permN_len n l hl.1) ?_)
    have : n = 0 ∨ n = 1 ∨ n = 2 ∨ n = 3 ∨ n = 4 ∨ n = 5 ∨ n = 6 := by omega
    rcases this with rfl | rfl | rfl | rfl | rfl | rfl | rfl <;> decide
/-! ### the law's signs -/
def lawSgn (ns : List Int) (k : Nat) : Str := if ((k : Nat) : Int) ∉ ns then "." else if ns.length = 1 then "#" else "+"
theorem idx_is {l : Lay} {z : Str} {k : Nat} (nd : (names l).Nodup) (h : l[k]? = some (some z)) : idxOf l z = k := by
  obtain ⟨g1, g2⟩ := idx_get (List.mem_of_getElem? h)
  rcases Nat.lt_trichotomy (idxOf l z) k with lt | e | gt
  · exfalso
    have hs : names l = names (l.take (idxOf l z + 1)) ++ names (l.drop (idxOf l z + 1)) := by rw [← names_app, List.take_append_drop]
    rw [hs] at nd
    refine (List.nodup_append.mp nd).2.2 z (names_mem.mpr ?_) z (names_mem.mpr ?_) rfl
    · refine List.mem_of_getElem? (i := idxOf l z) ?_
      rw [List.getElem?_take_of_lt (Nat.lt_succ_self _)]
      exact g1
    · refine List.mem_of_getElem? (i := k - (idxOf l z + 1)) ?_
      rw [List.getElem?_drop, show idxOf l z + 1 + (k - (idxOf l z + 1)) = k by omega]
      exact h
  · exact e
  · exact absurd rfl (g2 k _ gt h)
theorem at_iff {n : Nat} {cs : List Str} {l : Lay} {z : Str} {k : Nat} (hl : IsLay n cs l) (hz : z ∈ cs) (cn : cs.Nodup) : l.getD k none = some z ↔ idxOf l z = k := by
  constructor
  · intro h
    refine idx_is (hl.2.symm.nodup cn) ?_
    rw [List.getD_eq_getElem?_getD] at h
    cases hk : l[k]? with
    | none => rw [hk] at h; cases h
    | some o => rw [hk] at h; exact congrArg some h
  · intro h
    obtain ⟨g1, _⟩ := idx_get (lay_has hl hz)
    rw [h] at g1
    rw [List.getD_eq_getElem?_getD, g1]
    rfl
theorem one_of {ns : List Int} {k : Int} (up : ns.Pairwise (· < ·)) (h : k ∈ ns) (all : ∀ i ∈ ns, i = k) : ns.length = 1 := by
  match ns, up, h, all with
  | [], _, h, _ => cases h
  | [_], _, _, _ => rfl
  | a :: b :: t, up, _, all =>
    have h1 := all a List.mem_cons_self
    have h2 := all b (List.mem_cons_of_mem _ List.mem_cons_self)
    have := (List.pairwise_cons.mp up).1 b List.mem_cons_self
    omega
theorem sgn_law {ls : List Lay} {z : Str} {k n : Nat} {ns : List Int} {cs : List Str} (ne : ls ≠ []) (hl : ∀ l ∈ ls, IsLay n cs l) (hz : z ∈ cs) (cn : cs.Nodup) (up : ns.Pairwise (· < ·)) (mem : ∀ i : Int, i ∈ ns ↔ ∃ l ∈ ls, i = ((idxOf l z : Nat) : Int)) :
    lawSgn ns k = sgn ls z k := by
  obtain ⟨l0, hl0⟩ := List.exists_mem_of_ne_nil ls ne
  unfold lawSgn sgn
  by_cases hall : ls.all (fun l => decide (l.getD k none = some z)) = true
  · rw [if_pos hall]
    have hall := fun l h => (at_iff (hl l h) hz cn).mp (of_decide_eq_true (List.all_eq_true.mp hall l h))
    have hk : ((k : Nat) : Int) ∈ ns := (mem _).mpr ⟨l0, hl0, by rw [hall l0 hl0]⟩
    rw [if_neg (fun z => z hk), if_pos]
    refine one_of up hk fun i hi => ?_
    obtain ⟨l, h, rfl⟩ := (mem i).mp hi
    rw [hall l h]
  · rw [if_neg hall]
    by_cases hany : ls.any (fun l => decide (l.getD k none = some z)) = true
    · rw [if_pos hany]
      obtain ⟨l1, h1, e1⟩ := List.any_eq_true.mp hany
      have e1 := (at_iff (hl l1 h1) hz cn).mp (of_decide_eq_true e1)
      have hk : ((k : Nat) : Int) ∈ ns := (mem _).mpr ⟨l1, h1, by rw [e1]⟩
      rw [if_neg (fun z => z hk), if_neg]
      intro one
      refine hall (List.all_eq_true.mpr fun l h => decide_eq_true ((at_iff (hl l h) hz cn).mpr ?_))
      have hi : ((idxOf l z : Nat) : Int) ∈ ns := (mem _).mpr ⟨l, h, rfl⟩
      match ns, one, hk, hi with
      | [a], _, hk, hi =>
        have h1 := List.mem_singleton.mp hk
        have h2 := List.mem_singleton.mp hi
        omega
    · rw [if_neg hany, if_pos]
      intro hk
      obtain ⟨l, h, e⟩ := (mem _).mp hk
      exact hany (List.any_eq_true.mpr ⟨l, h, decide_eq_true ((at_iff (hl l h) hz cn).mpr (by omega))⟩)
end CC

/-! text E12 -/
namespace CC
open PySem PySem.Spec PyProof.Rows L2 LamX
/-! ### what stays where only tables are written -/
theorem ext_tupF {H H' : Hp} {a : Addr} {xs : List V} (x : ExtN H H') (h : TupF H a xs) : TupF H' a xs := let ⟨o, h, d⟩ := h; ⟨o, x _ _ h (fun _ z => nomatch z), d⟩
theorem ext_store {K : PySem.W.Frag} {C : Addr} {H H' : Hp} {a : Addr} {ds : List Door} {cs : List Str} (x : ExtN H H') (h : StoreAt K C H a ds cs) : StoreAt K C H' a ds cs := by
  obtain ⟨ok, dx, ea, p, P, d, c, h1, h2, h3, h4, ⟨d', as, e, h5, h5'⟩, h6⟩ := h
  refine ⟨ok, dx, ea, p, P, d, c, ?_, ext_tup x h2, h3, ext_tup x h4, ⟨d', as, e, ext_tup x h5, Paired.imp (fun _ _ ⟨b, q, h⟩ => ⟨b, q, ext_tup x h⟩) h5'⟩, ext_tup x h6⟩
  rcases h1 with ⟨h1, h2⟩ | ⟨h1, h2⟩
  · exact .inl ⟨x _ _ h1 (fun _ z => nomatch z), h2⟩
  · exact .inr ⟨x _ _ h1 (fun _ z => nomatch z), x _ _ h2 (fun _ z => nomatch z)⟩
theorem ext_scheme {K : PySem.W.Frag} {H H' : Hp} {v : V} {ds : List Door} {cs : List Str} (x : ExtN H H') (h : SchemeV K H v ds cs) : SchemeV K H' v ds cs := by
  obtain ⟨p, d, c, rfl, h1, ⟨d', as, e, h2, h2'⟩, h3⟩ := h
  exact ⟨p, d, c, rfl, ext_tup x h1, ⟨d', as, e, ext_tup x h2, Paired.imp (fun _ _ ⟨b, q, h⟩ => ⟨b, q, ext_tup x h⟩) h2'⟩, ext_tup x h3⟩
theorem ext_draw {K : PySem.W.Frag} {H H' : Hp} {d : Dr} (x : ExtN H H') (h : DrawAt K H d) : DrawAt K H' d := by
  obtain ⟨i, j, k, h1, h2, h3⟩ := h
  refine ⟨i, j, k, x _ _ h1 (fun _ z => nomatch z), ?_, h3⟩
  rcases h2 with (h | ⟨o, h⟩) | h
  · exact .inl (.inl (x _ _ h (fun _ z => nomatch z)))
  · exact .inl (.inr ⟨o, x _ _ h (fun _ z => nomatch z)⟩)
  · exact .inr h
theorem ext_row {K : PySem.W.Frag} {H H' : Hp} {v : V} {r : LRow} (x : ExtN H H') (h : RowV K H v r) : RowV K H' v r := by
  cases r with
  | deed d => obtain ⟨a, q, h⟩ := h; exact ⟨a, q, ext_tup x h⟩
  | opened d t => obtain ⟨a, T, q, h, k⟩ := h; exact ⟨a, T, q, ext_tup x h, ext_tupF x k⟩
theorem ext_log {K : PySem.W.Frag} {C : Addr} {H H' : Hp} {a : Addr} {v : V} {ds : List Door} {cs : List Str} {rs : List LRow} (x : ExtN H H') (h : LogIn K C H a v ds cs rs) : LogIn K C H' a v ds cs rs := by
  obtain ⟨h1, ⟨L, vs, e, hL, p⟩, h3⟩ := h
  exact ⟨ext_store x h1, ⟨L, vs, e, x _ _ hL (fun _ z => nomatch z), Paired.imp (fun _ _ h => ext_row x h) p⟩, h3⟩
/-! ### a statement, a block by its own reading -/
theorem ps_of {X : Cx} {b : Stmt} {u : TS} (h : ∀ D σ H, σ.length = X.N.length → u D σ H → ∃ t, PS X b t ∧ t D σ H) : PS X b u := ⟨fun pins s σ H D I q => by
  obtain ⟨t, ht, hq⟩ := h D σ H I.len q
  exact ht.run pins s σ H D I hq⟩
/-! ### x != y of stores -/
section
variable {X : Cx} {k j : Nat} {C : Addr} {sp : SpN}
theorem op_neN (c : MetN X.prog X.w X.K X.mg X.base k C "__eq__" sp) (S : StoreB X.K X.mg C) (hm : PySem.W.mroIn X.K C (.type "object") = some true) (hr : Room j X.A) (hk : k + 1 ≤ j) : OpR X (compareOp .NotEq) (rNeOwn X.K C sp) := by
  obtain ⟨g, me, F⟩ := c.ex
  exact op_neOwn S.nf hm S.ne me.at_ me.fn F (hr.mono hk)
end
abbrev s_law : Stmt := topS 104
abbrev N_law : List Str := ["_law_script", "_law_row", "_law_s", "_law_one", "_law_log", "_law_layout", "_law_rows", "_law_edges_here", "_law_lines", "_law_name", "_law_spots", "_law_signs", "_law_some", "_law_k", "_law_due", "_law_door", "_law_words"]
theorem sc_law : FnScope N_law ["_law_script"] (defScope s_law) := ⟨rfl, rfl, rfl, by decide +kernel, rfl, by decide +kernel, by decide +kernel⟩
-- cells: ['_law_log', '_law_name', '_law_one']; calls: ['_law_edges', '_law_layouts', '_law_now', '_law_raised', '_law_scheme', '_law_seen', '_law_store', '_law_story', '_law_taken', 'decode_store', 'encode_store', 'format_store', 'parse_store', 'shelf', 'table']
abbrev cxL (P : Program) (w : World) (K : PySem.W.Frag) (mg : Str → Option Value) (base : Heap) (f : Addr) (cdv : Value) (A : Around) (outer : List Env) (s : Shared) (H : Hp) (E : XK) : Cx := (cxOf CX0 P w K mg base N_law "law" (defScope s_law) f cdv A outer s H E).nox
def stL (i : Nat) : Stmt := (defBody s_law).getD i (.Pass ⟨0, 0, 0, 0⟩)
section
variable {P : Program} {w : World} {K : PySem.W.Frag} {mg : Str → Option Value} {base : Heap} {C CR CW : Addr} {f : Addr} {cdv : Value} {A : Around} {outer : List Env} {s : Shared} {H0 : Hp} {E : XK}
def cL0 (K : PySem.W.Frag) : TS := fun D σ H => ∃ (a : Addr) (ns : List Int), σ[0]? = some (some (.ref a)) ∧ SqL K H a (ns.map V.int) ∧ ∀ H' R, Same H H' → DrawAt K H' (R, a, ns) → D.nx (σ.set 1 (some (.ref R))) H'
theorem law_0 (B : Base K mg) : PS (cxL P w K mg base f cdv A outer s H0 E) (stL 0) (cL0 K) := by
  refine ps_of fun D σ H hl h => ?_
  obtain ⟨a, ns, h0, ha, q⟩ := h
  refine ⟨_, (ps_set (i := 1) sc_law.nd rfl (.inl rfl) (pe_lstN (pa_cons (pv 0) (pa_cons pe_int (pa_cons pe_int (pa_cons pe_int pa_nil)))))), ?_⟩
  refine ⟨_, h0, small (by simp), fun R H1 nR e1 hR => ?_⟩
  refine q H1 R e1 ⟨0, 0, 0, hR, ?_, ?_, by decide, ⟨by decide, by decide⟩, by decide⟩
  · rcases ha with (h | ⟨o, h⟩) | h
    · exact .inl (.inl (e1 _ _ h))
    · exact .inl (.inr ⟨o, e1 _ _ h⟩)
    · exact .inr h
  · rcases ha with (h | ⟨o, h⟩) | h
    · exact .inl fun z => by have z : a = R := z; rw [← z, h] at nR; cases nR
    · exact .inl fun z => by have z : a = R := z; rw [← z, h] at nR; cases nR
    · exact .inr fun H' => .inr h
def cL1 (K : PySem.W.Frag) : TS := fun D σ H => ∃ (d : Dr), σ[1]? = some (some (.ref d.1)) ∧ DrawAt K H d ∧ ∀ (H' : Hp) (v : V) (ds : List Door) (cs : List Str), But d.1 H H' → DrawAt K H' d → SchemeV K H' v ds cs → OkDoors ds → OkCrates cs (places ds) → D.nx (σ.set 2 (some v)) H'
theorem law_1 (B : Base K mg) (hr : Room 18 (cxL P w K mg base f cdv A outer s H0 E).A) : PS (cxL P w K mg base f cdv A outer s H0 E) (stL 1) (cL1 K) := by
  refine ps_of fun D σ H hl h => ?_
  obtain ⟨d, h1, hd, q⟩ := h
  refine ⟨_, (ps_set (i := 2) sc_law.nd rfl (.inl rfl) (pe_ifExp (pt_cmpR op_eq (pe_c (cal__law_taken B) hr (by decide) rfl (pa_cons (pv 1) (pa_cons pe_int pa_nil))) pe_int (nomark _)) (pe_c (cal__law_scheme B) hr (by decide) rfl (pa_cons (pv 1) (pa_cons pe_int (pa_cons pe_int pa_nil)))) (pe_c (cal__law_scheme B) hr (by decide) rfl (pa_cons (pv 1) (pa_cons pe_int (pa_cons pe_int pa_nil)))))), ?_⟩
  refine ⟨_, h1, d, 2, rfl, hd, by decide, by decide, fun H2 t k2 d2 ht => ⟨rfl, _, rfl, ite2 (fun _ => ?_) (fun _ => ?_)⟩⟩
  · exact ⟨_, h1, d, 6, 5, rfl, d2, by decide, by decide, by decide, by decide, fun H' v ds cs k' d' sv o1 o2 => q H' v ds cs (k2.trans k') d' sv o1 o2⟩
  · exact ⟨_, h1, d, 4, 3, rfl, d2, by decide, by decide, by decide, by decide, fun H' v ds cs k' d' sv o1 o2 => q H' v ds cs (k2.trans k') d' sv o1 o2⟩
def cL2 (K : PySem.W.Frag) (C : Addr) : TS := fun D σ H => ∃ (v : V) (ds : List Door) (cs : List Str), σ[2]? = some (some v) ∧ SchemeV K H v ds cs ∧ OkDoors ds ∧ OkCrates cs (places ds) ∧ ∀ H' o, Same H H' → StoreAt K C H' o ds cs → D.nx (σ.set 3 (some (.ref o))) H'
theorem law_2 (B : Base K mg) (S : StoreB K mg C) (hr : Room 18 (cxL P w K mg base f cdv A outer s H0 E).A) : PS (cxL P w K mg base f cdv A outer s H0 E) (stL 2) (cL2 K C) := by
  refine ps_of fun D σ H hl h => ?_
  obtain ⟨v, ds, cs, h2, sv, o1, o2, q⟩ := h
  refine ⟨_, (ps_set (i := 3) sc_law.nd rfl (.inr rfl) (pe_c (cal__law_store B S) hr (by decide) rfl (pa_cons (pv 2) pa_nil))), ?_⟩
  exact ⟨_, h2, v, ds, cs, rfl, sv, o1, o2, q⟩
def cL3 (T : List (Addr × Str)) (K : PySem.W.Frag) (C : Addr) : TS := fun D σ H => ∃ (o : Addr) (ds : List Door) (cs : List Str), σ[3]? = some (some (.ref o)) ∧ StoreAt K C H o ds cs ∧ Tabs T H ∧ ∀ H', ExtN H H' → Tabs T H' → D.nx σ H'
theorem law_3 {T : List (Addr × Str)} (B : Base K mg) (S : StoreB K mg C) (R : ReaderB K mg CR) (hm : PySem.W.mroIn K C (.type "object") = some true) (cp : Cal P w K mg base 6 "parse_store" (spParse T K C)) (hr : Room 18 (cxL P w K mg base f cdv A outer s H0 E).A) : PS (cxL P w K mg base f cdv A outer s H0 E) (stL 3) (cL3 T K C) := by
  refine ps_of fun D σ H hl h => ?_
  obtain ⟨o, ds, cs, h3, sa, hT, q⟩ := h
  obtain ⟨okd, okc⟩ := sa.1
  refine ⟨_, (ps_if (PW.pt (pw_or (pt_cmpR (op_neN (met_Store___eq__ B S) S hm hr (by decide)) (pe_c cp hr (by decide) rfl (pa_cons (pe_c (cal_format_store B S) hr (by decide) rfl (pa_cons (pv 3) pa_nil)) pa_nil)) (pv 3) (nomark _)) (pw_or1 (pt_cmpR (op_neN (met_Store___eq__ B S) S hm hr (by decide)) (pe_c (cal_decode_store B S R) hr (by decide) rfl (pa_cons (pe_c (cal_encode_store B S) hr (by decide) rfl (pa_cons (pv 3) pa_nil)) pa_nil)) (pv 3) (nomark _))))) (
        (pss_one (ps_ret pe_bl)
        )) (pss_nil)), ?_⟩
  refine ⟨_, h3, o, ds, cs, rfl, sa, fun H1 e1 => ⟨ds, cs, rfl, okd, okc, hT.ext e1, fun H2 b x2 t2 sb => ⟨_, h3, ?_⟩⟩⟩
  have s2 := ext_store x2 (sa.mono e1.n)
  obtain ⟨dx, ws, hsl⟩ := sb.slt
  obtain ⟨dy, wy, hsy⟩ := s2.slt
  refine ⟨b, dx, ws, o, dy, wy, rfl, rfl, hsl, hsy, b, o, ds, cs, rfl, sb, s2, fun H3 e3 => ⟨true, rfl, _, rfl, iteF ?_⟩⟩
  have s3 := s2.mono e3.n
  refine ⟨_, h3, o, ds, cs, rfl, s3, fun H4 L e4 nL hL => ⟨L, ds, cs, rfl, hL, okd, okc, fun H5 b5 e5 sb5 => ⟨_, h3, ?_⟩⟩⟩
  have s5 := s3.mono (e4.trans e5).n
  obtain ⟨dx, ws, hsl⟩ := sb5.slt
  obtain ⟨dy, wy, hsy⟩ := s5.slt
  refine ⟨b5, dx, ws, o, dy, wy, rfl, rfl, hsl, hsy, b5, o, ds, cs, rfl, sb5, s5, fun H6 e6 => ⟨true, rfl, _, rfl, iteF ?_⟩⟩
  have e36 := (e3.trans (e4.trans (e5.trans e6)))
  exact q H6 ((ExtN.of e1).trans (x2.trans (ExtN.of e36))) (t2.ext e36)
end
end CC

/-! text E13 -/
namespace CC
open PySem PySem.Spec PyProof.Rows L2 LamX
section
variable {P : Program} {w : World} {K : PySem.W.Frag} {mg : Str → Option Value} {base : Heap} {C CR CW CN CS : Addr} {f : Addr} {cdv : Value} {A : Around} {outer : List Env} {s : Shared} {H0 : Hp} {E : XK}
def cL4 (K : PySem.W.Frag) : TS := fun D σ H => ∃ (d : Dr) (v : V) (ds : List Door) (cs : List Str), σ[1]? = some (some (.ref d.1)) ∧ σ[2]? = some (some v) ∧ DrawAt K H d ∧ SchemeV K H v ds cs ∧ OkDoors ds ∧ OkCrates cs (places ds) ∧
  ∀ (H' : Hp) (L : Addr) (lv : V) (us : List V) (rs : List LRow) (l : Lay), But d.1 H H' → DrawAt K H' d → H' L = some (.lst us) → Paired (RowV K H') us rs → rs.length ≤ 3 → (∀ r ∈ rs, OkRow ds cs r) → LayV H' lv l → IsLay (places ds) cs l → D.nx ((σ.set 4 (some (.ref L))).set 5 (some lv)) H'
theorem law_4 (B : Base K mg) (hr : Room 18 (cxL P w K mg base f cdv A outer s H0 E).A) : PS (cxL P w K mg base f cdv A outer s H0 E) (stL 4) (cL4 K) := by
  refine ps_of fun D σ H hl h => ?_
  obtain ⟨d, v, ds, cs, h1, h2, hd, sv, o1, o2, q⟩ := h
  refine ⟨_, (ps_asg (pe_ifExp (pt_cmpR op_lt (pe_callB call_len rfl B.f_len boot_len (pa_cons (pe_c (cal__law_layouts B) hr (by decide) rfl (pa_cons (pv 2) pa_nil)) pa_nil)) pe_int (nomark _)) (pe_c (cal__law_story B) hr (by decide) rfl (pa_cons (pv 1) (pa_cons (pv 2) (pa_cons pe_int pa_nil)))) (pe_tupF (pa_cons (pe_lstN pa_nil) (pa_cons (pe_ix ix_list (pe_c (cal__law_layouts B) hr (by decide) rfl (pa_cons (pv 2) pa_nil)) (pe_un un_neg pe_int) (fun _ _ => rfl)) pa_nil)))) (pg_tup rfl (pgs_cons (pg_name (i := 4) sc_law.nd rfl (.inr rfl)) (pgs_cons (pg_name (i := 5) sc_law.nd rfl (.inl rfl)) pgs_nil)))), ?_⟩
  refine ⟨_, h2, v, ds, cs, rfl, sv, o1, o2, fun H1 r e1 nr lr => ⟨_, _, rfl, .inl ⟨_, SqL.of lr.choose_spec.1, rfl⟩, _, _, rfl, rfl, _, rfl, ite2 (fun _ => ?_) (fun _ => ?_)⟩⟩
  · exact ⟨_, h1, _, h2, d, v, ds, cs, 3, rfl, hd.same e1, sv.mono e1.n, o1, o2, by decide, fun H2 t L lv us rs l k2 d2 ht nL hL pr rl okr lvv il => ⟨_, _, rfl, ht.sq, rfl, _, _, rfl, _, _, rfl, rfl, q H2 L lv us rs l ((But.of e1).trans k2) d2 hL pr rl okr lvv il⟩⟩
  · refine ⟨small (by simp), fun L H2 nL e2 hL => ⟨_, h2, v, ds, cs, rfl, sv.mono (e1.trans e2).n, o1, o2, fun H3 r3 e3 nr3 lr3 => ?_⟩⟩
    obtain ⟨us3, hr3, pr3⟩ := lr3
    have pos : 1 ≤ us3.length := by rw [Paired.len pr3]; exact allLay_pos o2
    obtain ⟨x, hx⟩ : ∃ x, us3[us3.length - 1]? = some x := ⟨_, List.getElem?_eq_getElem (by omega)⟩
    obtain ⟨l, hl3, hlv⟩ := Paired.get1 pr3 hx
    refine ⟨_, rfl, _, _, _, _, rfl, rfl, SqL.of hr3, atI_neg1 hx, small (by simp), fun T H4 nT e4 hT => ⟨_, _, rfl, hT.sq, rfl, _, _, rfl, _, _, rfl, rfl, ?_⟩⟩
    have e14 := e1.trans (e2.trans (e3.trans e4))
    exact q H4 L x [] [] l (But.of e14) (hd.same e14) ((e3.trans e4) _ _ hL) .nil (by simp) (fun _ h => (nomatch h)) (hlv.mono e4.n) ((allLay_mem o2).mp (List.mem_of_getElem? hl3))
def cL5 (K : PySem.W.Frag) : TS := fun D σ H => ∃ (v : V) (ds : List Door) (cs : List Str) (L : Addr) (rs : List LRow), σ[2]? = some (some v) ∧ σ[4]? = some (some (.ref L)) ∧ SchemeV K H v ds cs ∧ OkDoors ds ∧ OkCrates cs (places ds) ∧ LogV K H (.ref L) rs ∧ rs.length ≤ 100 ∧ (∀ r ∈ rs, OkRow ds cs r) ∧
  ∀ H' p r ks, Same H H' → Ends2 ds cs rs ks → LaysV H' p (sortL ks) → H' r = some (.lst ((edges ds).map nV)) → D.nx ((σ.set 6 (some (.ref p))).set 7 (some (.ref r))) H'
theorem law_5 (B : Base K mg) (hr : Room 18 (cxL P w K mg base f cdv A outer s H0 E).A) : PS (cxL P w K mg base f cdv A outer s H0 E) (stL 5) (cL5 K) := by
  refine ps_of fun D σ H hl h => ?_
  obtain ⟨v, ds, cs, L, rs, h2, h4, sv, o1, o2, lv, r1, okr, q⟩ := h
  refine ⟨_, (ps_par (i := 6) (j := 7) rfl sc_law.nd rfl rfl (by decide) rfl rfl (pa_cons (pe_c (cal__law_now B) hr (by decide) rfl (pa_cons (pv 2) (pa_cons (pv 4) pa_nil))) (pa_cons (pe_c (cal__law_edges B) hr (by decide) rfl (pa_cons (pv 2) pa_nil)) pa_nil)) rfl), ?_⟩
  exact ⟨_, h2, _, h4, v, ds, cs, .ref L, rs, rfl, sv, o1, o2, lv, r1, okr, fun H1 p ks e1 np en lp => ⟨_, h2, v, ds, cs, rfl, sv.mono e1.n, o1, fun H2 r e2 nr hr2 => ⟨_, _, rfl, q H2 p r ks (e1.trans e2) en (lp.mono e2) hr2⟩⟩⟩
def cL6 (T : List (Addr × Str)) (K : PySem.W.Frag) (C : Addr) : TS := fun D σ H => ∃ (o L p : Addr) (ds : List Door) (cs : List Str) (rs : List LRow) (ks : List Lay), σ[3]? = some (some (.ref o)) ∧ σ[4]? = some (some (.ref L)) ∧ σ[6]? = some (some (.ref p)) ∧ LogIn K C H o (.ref L) ds cs rs ∧ Tabs T H ∧ Ends2 ds cs rs ks ∧ LaysV H p (sortL ks) ∧
  (∀ H', D.rt (.bl true) H') ∧ (ks ≠ [] → ∀ H', Same H H' → D.nx σ H')
theorem law_6 {T : List (Addr × Str)} {c : Addr} (B : Base K mg) (S : StoreB K mg C) (XB : ExcB K mg CN CS) (LT : LamAt base mg T c "law.<locals>.<lambda>") (hr : Room 18 (cxL P w K mg base f (.ref c) A outer s H0 E).A) : PS (cxL P w K mg base f (.ref c) A outer s H0 E) (stL 6) (cL6 T K C) := by
  refine ps_of fun D σ H hl h => ?_
  obtain ⟨o, L, p, ds, cs, rs, ks, h3, h4, h6, li, hT, en, ⟨us, hp, pr⟩, qt, qn⟩ := h
  obtain ⟨Pt, TB, mT, uT⟩ := LT.ex
  obtain ⟨g, fd, FG, hmg, hbg⟩ := B.d__law_raised.ex
  have kg := FG.kp
  obtain ⟨oc, od, kV, doc, pm, an, cdg, ct, osl, rfl, lk, hcd⟩ := FG.ex
  have nm : ∀ l ∈ sortL ks, NmOk l := en.nm li.1.1.2.2.2.2.1
  refine ⟨_, (ps_if (pt_cmpR (op_eqD hr.units) (pv 6) (pe_lstN pa_nil) (nomark _)) (
        (pss_one (ps_ret (pe_cmpR (op_eqD hr.units) (pe_lamcall (X := cxL P w K mg base f (.ref c) A outer s H0 E) (T := T) (TT := TRaised K CN) (k := 16) (t := fun E' => tCall (spNoneX K C CN) [] E' (tCons (tVar 3) (tCons (tVar 4) tNil))) rfl hmg kg lk hcd hbg sc__law_raised rfl (.inl rfl) (raised_gives (CS := CS) B XB) TB rfl mT uT hr (lamS_by rfl) rfl (fun _ _ _ _ _ => by rfl) (fun A' outer' s' H' E' f' c' hr2 => pe_cX (E := E') (calX_table B S XB) hr2 (by decide) (passes_call (takes_of rfl rfl rfl rfl) (fun _ _ _ _ h => h)) rfl (pa_cons (pv 3) (pa_cons (pv 4) pa_nil)))) (pe_tupF (pa_cons pe_str pa_nil)) (nomark _)))
        )) (pss_nil)), ?_⟩
  refine ⟨_, h6, small (by simp), fun D1 H1 nD e1 hD => rEq_nil _ 1 (by decide) (SqL.of (e1 _ _ hp)) (SqL.of hD) (laysD (pmono e1.n pr)) (laysS nm) ⟨_, rfl, ?_⟩⟩
  by_cases hz : ks = []
  · have uz : us = [] := List.length_eq_zero_iff.mp (by rw [Paired.len pr, sortL_len, hz]; rfl)
    rw [decide_eq_true uz]
    refine iteT ⟨hT.ext e1, fun H2 x2 t2 => ⟨_, h3, _, h4, o, ds, cs, .ref L, rs, rfl, ext_log ((ExtN.of e1).trans x2) li, fun ⟨m, hm⟩ => ?_, fun H3 e3 => ⟨rfl, rfl, fun H4 T4 e4 hT4 => ⟨small (by simp), fun T5 H5 nT5 e5 hT5 => ?_⟩⟩⟩⟩
    · have := (en.mem m).mpr hm
      rw [hz] at this
      cases this
    · exact ⟨.tuple [.str "none"], .tuple [.str "none"], .tup (hT4.mono e5.n).sq (.cons (.str _) .nil), .tup hT5.sq (.cons (.str _) .nil), by decide +kernel, by decide +kernel, qb D.rt (c := true) (by decide +kernel) (qt H5)⟩
  · have uz : us ≠ [] := fun z => hz (List.length_eq_zero_iff.mp (by rw [← sortL_len, ← Paired.len pr, z]; rfl))
    rw [decide_eq_false uz]
    exact iteF (qn hz H1 e1)
end
end CC

/-! text E14 -/
namespace CC
open PySem PySem.Spec PyProof.Rows L2 LamX
theorem str_app_empty (a : Str) : a ++ Str.ofString "" = a := by
  show (⟨a.cps ++ #[]⟩ : Str) = a
  rw [Array.append_empty]
theorem set_same {α : Type} : ∀ {l : List α} {i : Nat} {x : α}, l[i]? = some x → l.set i x = l
  | [], _, _, _ => rfl
  | y :: t, 0, x, h => by cases (show some y = some x from h); rfl
  | y :: t, i + 1, x, h => by rw [List.set_cons_succ, set_same (show t[i]? = some x from h)]
theorem list17 {α : Type} : ∀ {l : List α}, l.length = 17 → ∃ y0 y1 y2 y3 y4 y5 y6 y7 y8 y9 y10 y11 y12 y13 y14 y15 y16, l = [y0, y1, y2, y3, y4, y5, y6, y7, y8, y9, y10, y11, y12, y13, y14, y15, y16]
  | [y0, y1, y2, y3, y4, y5, y6, y7, y8, y9, y10, y11, y12, y13, y14, y15, y16], _ => ⟨_, _, _, _, _, _, _, _, _, _, _, _, _, _, _, _, _, rfl⟩
theorem int_flat (ns : List Int) : (ns.map V.int).all flatV = true := List.all_eq_true.mpr fun v hv => by
  obtain ⟨i, _, rfl⟩ := List.mem_map.mp hv
  rfl
theorem inV_int (z : Int) (l : List Int) : inV (.int z) (l.map V.int) = decide (z ∈ l) := by
  unfold inV
  rw [List.any_map]
  by_cases h : z ∈ l
  · rw [decide_eq_true h]
    exact List.any_eq_true.mpr ⟨z, h, by show (z == z) = true; exact beq_self_eq_true z⟩
  · rw [decide_eq_false h]
    refine List.any_eq_false.mpr fun x hx => ?_
    show ¬ (x == z) = true
    exact fun q => h (beq_iff_eq.mp q ▸ hx)
theorem inV_nat (k : Nat) (l : List Int) : inV (nV k) (l.map V.int) = decide (((k : Nat) : Int) ∈ l) := inV_int _ l
theorem lawSgn_len (ns : List Int) (k : Nat) : (lawSgn ns k).length = 1 := by
  unfold lawSgn
  split
  · rfl
  · split <;> rfl
section
variable {P : Program} {w : World} {K : PySem.W.Frag} {mg : Str → Option Value} {base : Heap} {C CR CW CN CS : Addr} {f : Addr} {cdv : Value} {A : Around} {outer : List Env} {s : Shared} {H0 : Hp} {E : XK}
def cL7 : TS := fun D σ H => ∀ H' Ln, H Ln = none → Same H H' → H' Ln = some (.lst []) → D.nx (σ.set 8 (some (.ref Ln))) H'
theorem law_7 : PS (cxL P w K mg base f cdv A outer s H0 E) (stL 7) cL7 := by
  refine ps_of fun D σ H hl h => ?_
  exact ⟨_, (ps_set (i := 8) sc_law.nd rfl (.inl rfl) (pe_lstN pa_nil)), small (by simp), fun Ln H' n e h' => h H' Ln n e h'⟩
/-- where a door ends, a bar -/
def cEdge (ds : List Door) : TS := fun D σ H => ∃ (k : Nat) (r : Addr) (sg : Str), σ[13]? = some (some (nV k)) ∧ σ[7]? = some (some (.ref r)) ∧ σ[11]? = some (some (.str sg)) ∧ H r = some (.lst ((edges ds).map nV)) ∧ k < (edges ds).length ∧ sg.length ≤ 1000 ∧
  D.nx (σ.set 11 (some (.str (sg ++ (if isEdge ds k then ("|" : Str) else ""))))) H
def cL8 (K : PySem.W.Frag) : TS := fun D σ H => ∃ (v : V) (ds : List Door) (cs : List Str) (p r Ln : Addr) (ls : List Lay), σ[2]? = some (some v) ∧ σ[6]? = some (some (.ref p)) ∧ σ[7]? = some (some (.ref r)) ∧ σ[8]? = some (some (.ref Ln)) ∧ SchemeV K H v ds cs ∧ OkDoors ds ∧ OkCrates cs (places ds) ∧
  LaysV H p ls ∧ ls ≠ [] ∧ ls.length ≤ 4000 ∧ (∀ l ∈ ls, IsLay (places ds) cs l) ∧ H r = some (.lst ((edges ds).map nV)) ∧ H Ln = some (.lst []) ∧ p ≠ Ln ∧ r ≠ Ln ∧
  ∀ (σ' : L2.St) (H' : Hp), (∀ i < 9, σ'[i]? = σ[i]?) → But Ln H H' → H' Ln = some (.lst ((cs.map (lineOf ds ls)).map V.str)) → D.nx σ' H'
theorem law_8 (B : Base K mg) (hr : Room 18 (cxL P w K mg base f cdv A outer s H0 E).A) : PS (cxL P w K mg base f cdv A outer s H0 E) (stL 8) (cL8 K) := by
  refine ps_of fun D σ H hl h => ?_
  obtain ⟨v, ds, cs, p, r, Ln, ls, h2, h6, h7, h8, sv, okd, okc, ⟨us, hp, pr⟩, ne, l4, il, hre, hLn, pL, rL, q⟩ := h
  obtain ⟨y0, y1, y2, y3, y4, y5, y6, y7, y8, y9, y10, y11, y12, y13, y14, y15, y16, rfl⟩ := list17 hl
  obtain ⟨pp, dd, cc, rfl, hs1, hs2, hs3⟩ := id sv
  cases Option.some.inj h2
  cases Option.some.inj h6
  cases Option.some.inj h7
  cases Option.some.inj h8
  have n6 : places ds ≤ 6 := places_le okd
  have el : (edges ds).length = places ds := edges_len ds
  refine ⟨_, (ps_for PassesOwn.never rfl (pi_tup (pe_ix ix_tup (pv 2) pe_int (fun _ _ => rfl))) (pg_name (i := 9) sc_law.nd rfl (.inr rfl)) (
        (pss_cons (ps_par (i := 10) (j := 11) rfl sc_law.nd rfl rfl (by decide) rfl rfl (pa_cons (pe_callB (cr_sortedSet rfl) rfl B.f_sorted (by decide +kernel) (pa_cons (pe_callTy (cr_setI rfl) rfl B.f_set (by decide +kernel) (pa_cons (pe_lcX (own := [("_law_some", 12)]) rfl sc_law.nd (pi_list (pv 6)) (blkOk_by (own := [("_law_some", 12)]) (N := N_law) (sc := defScope s_law) (by decide +kernel)) (fun _ _ _ _ _ => (pg_name (i := 12) sc_law.nd rfl (.inl rfl))) (fun _ _ _ _ _ => pts_nil) (fun _ _ _ _ _ => (pe_tm PySem.F.slot_tuple_index PySem.F.type_tuple_index mt_tidx (pv 12) (pa_cons (pv 9) pa_nil)))) pa_nil)) pa_nil)) (pa_cons pe_str pa_nil)) rfl)
        (pss_cons (ps_for PassesOwn.never rfl (pi_range1 rfl B.f_range (pa_cons (pe_callB call_len rfl B.f_len boot_len (pa_cons (pv 7) pa_nil)) pa_nil)) (pg_name (i := 13) sc_law.nd rfl (.inl rfl)) (
            (pss_cons (ps_of (u := cEdge ds) ?edge)
            (pss_one (ps_set (i := 11) sc_law.nd rfl (.inl rfl) (pe_op op_add_str (pv 11) (pe_ifExp (pt_cmpR op_notIn_seq (pv 13) (pv 10) rfl) pe_str (pe_ifExp (pt_cmpR op_eq (pe_callB call_len rfl B.f_len boot_len (pa_cons (pv 10) pa_nil)) pe_int (nomark _)) pe_str pe_str))))
            ))))
        (pss_one (ps_expr (pe_bm PySem.F.plainAttrs_list PySem.F.slot_list_append PySem.F.type_list_append mt_append (pv 8) (pa_cons (pe_op op_add_str (pe_op op_add_str (pv 9) pe_str) (pv 11)) pa_nil)))
        ))))), ?_⟩
  case edge =>
    intro D σ H hl h
    obtain ⟨k, r, sg, h13, h7, h11, hr, kl, sl, q⟩ := h
    refine ⟨_, (ps_if (PW.pt (pw_and (pt_cmpR op_gt (pv 13) pe_int (nomark _)) (pw_and1 (pt_cmpR op_ne (pe_ix ix_list (pv 7) (pv 13) (fun _ _ => rfl)) (pe_ix ix_list (pv 7) (pe_op op_sub (pv 13) pe_int) (fun _ _ => rfl)) (nomark _))))) (
        (pss_one (ps_set (i := 11) sc_law.nd rfl (.inl rfl) (pe_op op_add_str (pv 11) pe_str))
        )) (pss_nil)), ?_⟩
    have none_ : isEdge ds k = false → D.nx σ H := fun ed => by
      rw [ed] at q
      have q : D.nx (σ.set 11 (some (.str (sg ++ Str.ofString "")))) H := q
      rwa [str_app_empty, set_same h11] at q
    refine ⟨_, h13, _, _, rfl, rfl, _, rfl, ?_⟩
    by_cases k0 : k = 0
    · rw [decide_eq_false (show ¬ (0 : Int) < ((k : Nat) : Int) by omega)]
      exact iteF (none_ (by unfold isEdge; rw [decide_eq_false (show ¬ 0 < k by omega)]; rfl))
    · rw [decide_eq_true (show (0 : Int) < ((k : Nat) : Int) by omega)]
      have hg : (edges ds)[k]? = some (edges ds)[k] := List.getElem?_eq_getElem kl
      have hg1 : (edges ds)[k - 1]? = some (edges ds)[k - 1] := List.getElem?_eq_getElem (by omega)
      have hk1 : ((k : Nat) : Int) - 1 = ((k - 1 : Nat) : Int) := by omega
      refine iteT ⟨_, h7, _, h13, _, _, _, _, rfl, rfl, SqL.of hr, atI_nat (map_get hg), _, h7, _, h13, _, _, rfl, rfl, _, _, _, _, rfl, rfl, SqL.of hr, by rw [hk1]; exact atI_nat (map_get hg1), rfl, ?_⟩
      by_cases hd : (edges ds)[k] = (edges ds)[k - 1]
      · refine ⟨false, bl_nf (by rw [hd]), iteF (none_ ?_)⟩
        unfold isEdge
        rw [hg, hg1, hd, decide_eq_true (rfl : some (edges ds)[k - 1] = _)]
        simp
      · refine ⟨true, bl_nt (nV_ne hd), iteT ⟨_, h11, _, _, rfl, rfl, small ?_, ?_⟩⟩
        · have : ("|" : Str).length ≤ 1 := by decide
          omega
        · have ed : isEdge ds k = true := by unfold isEdge; rw [hg, hg1, decide_eq_true (show 0 < k by omega), decide_eq_false (fun z => hd (Option.some.inj z))]; rfl
          rw [ed] at q
          exact q
  refine ⟨_, rfl, _, _, _, _, rfl, rfl, hs1, rfl, _, rfl, ⟨_, hs3⟩, ?_⟩
  refine for_it walk_tup (fun i σ H3 => (∃ j9 j10 j11 j12 j13, σ = [y0, y1, some (.ref pp), y3, y4, y5, some (.ref p), some (.ref r), some (.ref Ln), j9, j10, j11, j12, j13, y14, y15, y16]) ∧ But Ln H H3 ∧ H3 Ln = some (.lst (((cs.take i).map (lineOf ds ls)).map V.str))) ⟨⟨_, _, _, _, _, rfl⟩, But.refl _ _, hLn⟩
    (fun i σ H3 _ p => p.2.1.tupL hLn hs3) (fun i y σ H3' H3 hi p3 hy => ?_) (fun σ H3 p3 => ?_)
  · obtain ⟨⟨j9, j10, j11, j12, j13, rfl⟩, k3, hL3⟩ := p3
    obtain ⟨rfl, hy⟩ := hy
    obtain ⟨z, hz, rfl⟩ := sV_get hy
    have zc := List.mem_of_getElem? hz
    have hp3 := k3 _ _ pL hp
    have hr3 := k3 _ _ rL hre
    have pr3 := pmono (k3.n hLn) pr
    have ul : us.length = ls.length := Paired.len pr
    refine ⟨_, rfl, _, rfl, ⟨_, SqL.of hp3⟩, ?_⟩
    refine comp_it walk_list ls (fun l => some ((idxOf l z : Nat) : Int)) LayV (fun _ v b => v = .int b) (fun _ _ _ _ _ h => h) ul.symm (fun _ e => SqL.of (e _ _ hp3))
      (by omega) (fun i H4 y H' l hl hy e => ?_) (fun i l y H' Qy Qn hl e hs ky kn => ?_) (fun D4 H4 ys hD4 e4 g1 g2 => ?_)
    · obtain ⟨rfl, hy⟩ := hy
      obtain ⟨v', hv', hlv⟩ := Paired.get pr3 hl
      rw [hy] at hv'
      cases hv'
      exact ⟨Same.refl _, hlv.mono e.n⟩
    · obtain ⟨b, rfl, hb⟩ := hs
      obtain ⟨g1, g2⟩ := idx_get (lay_has (il l (List.mem_of_getElem? hl)) zc)
      exact ⟨rfl, _, rfl, ⟨_, _, rfl, hb⟩, _, rfl, _, _, _, _, _, rfl, rfl, hb.sq, rfl, flat_oV l, map_get g1, by show (z == z) = true; exact beq_self_eq_true z, idx_no g2, ky _ _ _ rfl (Same.refl _) rfl⟩
    rw [fm_some] at g2
    have yi := ints_of g2
    have idx6 : ∀ l ∈ ls, idxOf l z < 6 := fun l hl => by
      obtain ⟨g1, _⟩ := idx_get (lay_has (il l hl) zc)
      have := (List.getElem?_eq_some_iff.mp g1).1
      have := (il l hl).1
      omega
    refine ⟨D4, ls.map (fun l => ((idxOf l z : Nat) : Int)), rfl, SqL.of (by rw [g1, yi]), by rw [List.length_map]; exact l4, fun k hk => ?_, fun Sp H5 n nS e5 hS n64 => ?_⟩
    · obtain ⟨l, hl, rfl⟩ := List.mem_map.mp hk
      have := idx6 l hl
      exact ⟨by omega, by omega⟩
    refine ⟨Sp, _, n, rfl, hS, n64, fun ns Ps up memS lenS nPs => ⟨_, _, rfl, ?_⟩⟩
    generalize hh : upd H5 Ps _ = H6
    obtain ⟨e6, hPs⟩ := upH hh nPs
    clear hh
    have e36 := e4.trans (e5.trans e6)
    have mem : ∀ i : Int, i ∈ ns ↔ ∃ l ∈ ls, i = ((idxOf l z : Nat) : Int) := fun i => by
      rw [memS i]
      constructor
      · intro h
        obtain ⟨l, hl, e⟩ := List.mem_map.mp (of_decide_eq_true h)
        exact ⟨l, hl, e.symm⟩
      · rintro ⟨l, hl, e⟩
        exact decide_eq_true (List.mem_map.mpr ⟨l, hl, e.symm⟩)
    have sg : lawSgn ns = sgn ls z := funext fun k => sgn_law ne il zc (crates_nodup okc) up mem
    have hr6 := e36 _ _ hr3
    have hL6 := e36 _ _ hL3
    refine ⟨_, rfl, _, _, rfl, .inl ⟨_, SqL.of hr6, rfl⟩, _, rfl, by rw [List.length_map]; omega, by rw [List.length_map]; omega, ?_⟩
    have hpl : ((((edges ds).map nV).length : Nat) : Int).toNat = places ds := by rw [Int.toNat_natCast, List.length_map, el]
    refine for_it walk_rng (fun k σ H7 => (∃ j12 j13, σ = [y0, y1, some (.ref pp), y3, y4, y5, some (.ref p), some (.ref r), some (.ref Ln), some (.str z), some (.ref Ps), some (.str (signsTo ds (lawSgn ns) k)), j12, j13, y14, y15, y16]) ∧ H7 = H6) ⟨⟨_, _, rfl⟩, rfl⟩ (fun _ _ _ _ _ => trivial) (fun k y σ H8 H7 hk p7 hy => ?_) (fun σ H7 p7 => ?_)
    · obtain ⟨⟨j12, j13, rfl⟩, rfl⟩ := p7
      obtain ⟨rfl, rfl⟩ := hy
      rw [hpl] at hk
      have sl := signs_len (ds := ds) (f := lawSgn ns) (lawSgn_len ns) k
      refine ⟨k, r, signsTo ds (lawSgn ns) k, rfl, rfl, rfl, hr6, by omega, by omega, ?_⟩
      have eg : (if isEdge ds k then ("|" : Str) else "").length ≤ 1 := by split <;> decide
      have hs : ∀ t, lawSgn ns k = t → signsTo ds (lawSgn ns) (k + 1) = (signsTo ds (lawSgn ns) k ++ (if isEdge ds k then ("|" : Str) else "")) ++ t := fun t ht => by
        show signsTo ds (lawSgn ns) k ++ (_ ++ lawSgn ns k) = _
        rw [ht, str_app_assoc]
      have fits : ∀ t : Str, t.length ≤ 1 → (signsTo ds (lawSgn ns) k ++ (if isEdge ds k then ("|" : Str) else "")).length + t.length ≤ sizeLine := fun t ht => small (by rw [str_len_app]; omega)
      refine ⟨_, rfl, _, rfl, _, rfl, _, _, rfl, .inl (SqL.of hPs), rfl, int_flat ns, ?_⟩
      by_cases hk2 : ((k : Nat) : Int) ∈ ns
      · refine ⟨false, by rw [inV_nat, decide_eq_true hk2]; rfl, iteF ⟨_, rfl, _, _, rfl, .inl ⟨_, SqL.of hPs, rfl⟩, rfl, ?_⟩⟩
        by_cases h1 : ns.length = 1
        · refine ⟨true, bl_t (by rw [List.length_map, h1]; rfl), iteT ⟨_, _, rfl, rfl, fits _ (by decide), ⟨j12, some (nV k), ?_⟩, rfl⟩⟩
          rw [hs "#" (by unfold lawSgn; rw [if_neg (fun z => z hk2), if_pos h1])]
          rfl
        · refine ⟨false, bl_f (fun z => h1 ?_), iteF ⟨_, _, rfl, rfl, fits _ (by decide), ⟨j12, some (nV k), ?_⟩, rfl⟩⟩
          · have z := V.int.inj z
            rw [List.length_map] at z
            omega
          · rw [hs "+" (by unfold lawSgn; rw [if_neg (fun z => z hk2), if_neg h1])]
            rfl
      · refine ⟨true, by rw [inV_nat, decide_eq_false hk2]; rfl, iteT ⟨_, _, rfl, rfl, fits _ (by decide), ⟨j12, some (nV k), ?_⟩, rfl⟩⟩
        rw [hs "." (by unfold lawSgn; rw [if_pos hk2])]
        rfl
    · obtain ⟨⟨j12, j13, rfl⟩, rfl⟩ := p7
      rw [hpl]
      have sl := signs_len (ds := ds) (f := lawSgn ns) (lawSgn_len ns) (places ds)
      have z8 : z.length ≤ 8 := (okc.2.2.2.1 z zc).2.1
      have sp : (" " : Str).length ≤ 1 := by decide
      have i5 : i ≤ 5 := by
        have := (List.getElem?_eq_some_iff.mp hz).1
        have := okc.2.1
        omega
      refine ⟨_, rfl, .inl ⟨rfl, _, SqL.of hL6⟩, _, rfl, _, _, rfl, rfl, small (by omega), _, rfl, _, _, rfl, rfl, small (by rw [str_len_app]; omega), _, _, _, rfl, rfl, hL6, small' ?_, ⟨_, _, _, _, _, rfl⟩, fun b o nb hb => ?_, ?_⟩
      · rw [List.length_map, List.length_map, List.length_take]; omega
      · rw [upd_ne nb]; exact e36 _ _ (k3 b o nb hb)
      · rw [upd_same, take_succ_get hz, List.map_append, List.map_append, sg]
        rfl
  · obtain ⟨⟨j9, j10, j11, j12, j13, rfl⟩, k3, hL3⟩ := p3
    rw [List.length_map, List.take_length] at hL3
    refine q _ H3 (fun i hi => ?_) k3 hL3
    rcases i with _ | _ | _ | _ | _ | _ | _ | _ | _ | i <;> first | rfl | (exfalso; omega)
end
end CC

/-! text E15 -/
namespace CC
open PySem PySem.Spec PyProof.Rows L2 LamX
theorem lines_fit {ds : List Door} {cs : List Str} {ls : List Lay} (n6 : places ds ≤ 6) (okc : OkCrates cs (places ds)) : ((cs.map (lineOf ds ls)).map (·.length)).sum + (cs.map (lineOf ds ls)).length * ("\n" : Str).length ≤ 16777216 := by
  refine join_fits (b := 100) (fun y hy => ?_) ?_
  · obtain ⟨z, hz, rfl⟩ := List.mem_map.mp hy
    show (z ++ " " ++ signsTo ds (sgn ls z) (places ds)).length ≤ 100
    rw [str_len_app, str_len_app]
    have := signs_len (ds := ds) (f := sgn ls z) (sgn_len _ _) (places ds)
    have z8 : z.length ≤ 8 := (okc.2.2.2.1 z hz).2.1
    have sp : (" " : Str).length ≤ 1 := by decide
    omega
  · rw [List.length_map]
    have sp : ("\n" : Str).length ≤ 1 := by decide
    exact Nat.le_trans (Nat.mul_le_mul okc.2.1 (show 100 + ("\n" : Str).length ≤ 101 by omega)) (by decide)
theorem row_words {ds : List Door} {cs : List Str} {l : Lay} {d : Nat} (d9 : d < 10) (il : IsLay (places ds) cs l) (w : ∀ c ∈ cs, IsWord c) : ∀ y ∈ (numS d ++ ":") :: (seen ds l d).map dash, y.length ≤ 10 := fun y hy => by
  rcases List.mem_cons.mp hy with rfl | hy
  · rw [str_len_app]
    have nl : (numS d).length ≤ 1 := numS_len d9
    have cl : (":" : Str).length ≤ 1 := by decide
    omega
  · obtain ⟨o, ho, rfl⟩ := List.mem_map.mp hy
    cases o with
    | none => decide
    | some z => exact Nat.le_trans (lay_word il (seen_mem ho) w).2.1 (by decide)
theorem row_fits {ds : List Door} {cs : List Str} {l : Lay} {d : Nat} (d9 : d < 10) (n6 : places ds ≤ 6) (il : IsLay (places ds) cs l) (w : ∀ c ∈ cs, IsWord c) : (((numS d ++ ":") :: (seen ds l d).map dash).map (·.length)).sum + ((numS d ++ ":") :: (seen ds l d).map dash).length * (" " : Str).length ≤ 16777216 ∧ (shelfRow ds l d).length ≤ 100 := by
  have s6 : (seen ds l d).length ≤ 6 := Nat.le_trans (seen_len ds l d) (by rw [il.1]; exact n6)
  have sp : (" " : Str).length ≤ 1 := by decide
  have hb : ((numS d ++ ":") :: (seen ds l d).map dash).length * (10 + (" " : Str).length) ≤ 7 * 11 := Nat.mul_le_mul (by rw [List.length_cons, List.length_map]; omega) (by omega)
  exact ⟨join_fits (row_words d9 il w) (Nat.le_trans hb (by decide)), Nat.le_trans (join_len " " 10 _ (row_words d9 il w)) (Nat.le_trans hb (by decide))⟩
theorem shelf_fits {ds : List Door} {cs : List Str} {l : Lay} (okd : OkDoors ds) (il : IsLay (places ds) cs l) (w : ∀ c ∈ cs, IsWord c) : (((List.range ds.length).map (shelfRow ds l)).map (·.length)).sum + ((List.range ds.length).map (shelfRow ds l)).length * ("\n" : Str).length ≤ 16777216 := by
  have d4 := okd.2.1
  refine join_fits (b := 100) (fun y hy => ?_) ?_
  · obtain ⟨d, hd, rfl⟩ := List.mem_map.mp hy
    have := List.mem_range.mp hd
    exact (row_fits (by omega) (places_le okd) il w).2
  · rw [List.length_map, List.length_range]
    have sp : ("\n" : Str).length ≤ 1 := by decide
    exact Nat.le_trans (Nat.mul_le_mul d4 (show 100 + ("\n" : Str).length ≤ 101 by omega)) (by decide)
section
variable {P : Program} {w : World} {K : PySem.W.Frag} {mg : Str → Option Value} {base : Heap} {C CR CW CN CS : Addr} {f : Addr} {cdv : Value} {A : Around} {outer : List Env} {s : Shared} {H0 : Hp} {E : XK}
def cL9 (K : PySem.W.Frag) (C : Addr) : TS := fun D σ H => ∃ (o L Ln : Addr) (ds : List Door) (cs : List Str) (rs : List LRow) (ls : List Lay), σ[3]? = some (some (.ref o)) ∧ σ[4]? = some (some (.ref L)) ∧ σ[8]? = some (some (.ref Ln)) ∧ LogIn K C H o (.ref L) ds cs rs ∧ (∃ m, Reach ds rs (IsLay (places ds) cs) m) ∧
  H Ln = some (.lst ((cs.map (lineOf ds ls)).map V.str)) ∧ (∀ ks, Ends2 ds cs rs ks → ∀ m, m ∈ ks ↔ m ∈ ls) ∧ ∀ H', Same H H' → D.nx σ H'
theorem law_9 (B : Base K mg) (S : StoreB K mg C) (hr : Room 18 (cxL P w K mg base f cdv A outer s H0 E).A) : PS (cxL P w K mg base f cdv A outer s H0 E) (stL 9) (cL9 K C) := by
  refine ps_of fun D σ H hl h => ?_
  obtain ⟨o, L, Ln, ds, cs, rs, ls, h3, h4, h8, li, hne, hLn, mem, q⟩ := h
  refine ⟨_, (ps_if (pt_cmpR op_ne (pe_c (cal_table B S) hr (by decide) rfl (pa_cons (pv 3) (pa_cons (pv 4) pa_nil))) (pe_join pe_str (pv 8)) (nomark _)) (
        (pss_one (ps_ret pe_bl)
        )) (pss_nil)), ?_⟩
  refine ⟨_, h3, _, h4, o, ds, cs, .ref L, rs, rfl, li, hne, fun H1 ks e1 en => ⟨⟨_, rfl⟩, _, h8, _, Ln, cs.map (lineOf ds ls), rfl, rfl, .inl (SqL.of (e1 _ _ hLn)), lines_fit (places_le li.1.1.1) li.1.1.2, rfl, false, bl_nf (congrArg V.str ?_), iteF (q H1 e1)⟩⟩
  exact table_congr (mem ks en) ds cs
def cL10 : TS := fun D σ H => ∀ H' Du, H Du = none → Same H H' → H' Du = some (.lst []) → (σ.set 14 (some (.ref Du)))[14]? = some (some (.ref Du)) → D.nx (σ.set 14 (some (.ref Du))) H'
theorem law_10 : PS (cxL P w K mg base f cdv A outer s H0 E) (stL 10) cL10 := by
  refine ps_of fun D σ H hl h => ?_
  obtain ⟨y0, y1, y2, y3, y4, y5, y6, y7, y8, y9, y10, y11, y12, y13, y14, y15, y16, rfl⟩ := list17 hl
  exact ⟨_, (ps_set (i := 14) sc_law.nd rfl (.inl rfl) (pe_lstN pa_nil)), small (by simp), fun Ln H' n e h' => h H' Ln n e h' rfl⟩
def cL11 (K : PySem.W.Frag) : TS := fun D σ H => ∃ (v lv : V) (ds : List Door) (cs : List Str) (l : Lay) (Du : Addr), σ[2]? = some (some v) ∧ σ[5]? = some (some lv) ∧ σ[14]? = some (some (.ref Du)) ∧ SchemeV K H v ds cs ∧ OkDoors ds ∧ OkCrates cs (places ds) ∧ LayV H lv l ∧ IsLay (places ds) cs l ∧ H Du = some (.lst []) ∧
  ∀ (σ' : L2.St) (H' : Hp), (∀ i < 15, σ'[i]? = σ[i]?) → But Du H H' → H' Du = some (.lst (((List.range ds.length).map (shelfRow ds l)).map V.str)) → D.nx σ' H'
theorem law_11 (B : Base K mg) (hr : Room 18 (cxL P w K mg base f cdv A outer s H0 E).A) : PS (cxL P w K mg base f cdv A outer s H0 E) (stL 11) (cL11 K) := by
  refine ps_of fun D σ H hl h => ?_
  obtain ⟨v, lv, ds, cs, l, Du, h2, h5, h14, sv, okd, okc, lvv, il, hDu, q⟩ := h
  obtain ⟨y0, y1, y2, y3, y4, y5, y6, y7, y8, y9, y10, y11, y12, y13, y14, y15, y16, rfl⟩ := list17 hl
  obtain ⟨pp, dd, cc, rfl, hs1, ⟨dd', as, ed, htd, hpd⟩, hs3⟩ := id sv
  cases ed
  cases Option.some.inj h2
  cases Option.some.inj h5
  cases Option.some.inj h14
  have n6 : places ds ≤ 6 := places_le okd
  have d4 := okd.2.1
  have dl := Paired.len hpd
  refine ⟨_, (ps_for PassesOwn.never rfl (pi_range1 rfl B.f_range (pa_cons (pe_callB call_len rfl B.f_len boot_len (pa_cons (pe_ix ix_tup (pv 2) pe_int (fun _ _ => rfl)) pa_nil)) pa_nil)) (pg_name (i := 15) sc_law.nd rfl (.inl rfl)) (
        (pss_cons (ps_setLcX (i := 16) (own := [("_law_name", 9)]) rfl sc_law.nd rfl rfl (sw_true rfl rfl rfl rfl) (pi_tup (pe_c (cal__law_seen B) hr (by decide) rfl (pa_cons (pv 2) (pa_cons (pv 5) (pa_cons (pv 15) pa_nil))))) (blkOk_by (own := [("_law_name", 9)]) (N := N_law) (sc := defScope s_law) (by decide +kernel)) (fun _ _ _ _ _ => (pg_name (i := 9) sc_law.nd rfl (.inl rfl))) (fun _ _ _ _ _ => pts_nil) (fun _ _ _ _ _ => (pe_ifExp (pt_cmp (pc_isN (pv 9))) pe_str (pv 9))))
        (pss_one (ps_expr (pe_bm PySem.F.plainAttrs_list PySem.F.slot_list_append PySem.F.type_list_append mt_append (pv 14) (pa_cons (pe_join pe_str (pe_op op_catN (pe_lstN (pa_cons (pe_op op_add_str (pe_callTy call_str_int rfl B.f_str (by decide +kernel) (pa_cons (pv 15) pa_nil)) pe_str) pa_nil)) (pv 16))) pa_nil)))
        )))), ?_⟩
  refine ⟨_, rfl, _, _, _, _, rfl, rfl, hs1, rfl, _, _, rfl, .inr ⟨_, htd, rfl⟩, _, rfl, by omega, by omega, ?_⟩
  have hpl : ((as.length : Nat) : Int).toNat = ds.length := by rw [Int.toNat_natCast, dl]
  refine for_it walk_rng (fun i σ H3 => (∃ j15 j16, σ = [y0, y1, some (.ref pp), y3, y4, some lv, y6, y7, y8, y9, y10, y11, y12, y13, some (.ref Du), j15, j16]) ∧ But Du H H3 ∧ H3 Du = some (.lst (((List.range i).map (shelfRow ds l)).map V.str))) ⟨⟨_, _, rfl⟩, But.refl _ _, hDu⟩
    (fun _ _ _ _ _ => trivial) (fun i y σ H3' H3 hi p3 hy => ?_) (fun σ H3 p3 => ?_)
  · obtain ⟨⟨j15, j16, rfl⟩, k3, hD3⟩ := p3
    obtain ⟨rfl, rfl⟩ := hy
    rw [hpl] at hi
    have s6 : (seen ds l i).length ≤ 6 := Nat.le_trans (seen_len ds l i) (by rw [il.1]; exact n6)
    refine ⟨_, rfl, _, rfl, _, rfl, .ref pp, lv, ds, cs, l, i, rfl, k3.scheme hDu sv, okd, lvv.mono (k3.n hDu), il.1, fun H4 r4 e4 ⟨b, er, hb⟩ => ?_⟩
    subst er
    refine ⟨_, rfl, ⟨_, hb.sq⟩, ?_⟩
    refine comp_it walk_tup (seen ds l i) (fun o => some (dash o)) (fun _ v o => v = oV o) (fun _ v b => v = .str b) (fun _ _ _ _ _ h => h) (by rw [List.length_map]) (fun _ e => (hb.mono e.n).sq)
      (by rw [List.length_map]; omega) (fun i H1 x H' o ho hy e => ?_) (fun i o x H' Qy Qn ho e hs ky kn => ?_) (fun D5 H5 ys hD5 e5 g1 g2 => ?_)
    · obtain ⟨rfl, hx⟩ := hy
      obtain ⟨o', ho', rfl⟩ := oV_get hx
      rw [ho] at ho'
      cases ho'
      exact ⟨Same.refl _, rfl⟩
    · subst hs
      cases o with
      | none => exact ⟨rfl, _, rfl, true, bl_t rfl, iteT (ky _ _ _ rfl (Same.refl _) rfl)⟩
      | some z => exact ⟨rfl, _, rfl, false, bl_f (fun h => nomatch h), iteF ⟨_, rfl, ky _ _ _ rfl (Same.refl _) rfl⟩⟩
    · rw [fm_some] at g2
      have hW : H5 D5 = some (.lst (((seen ds l i).map dash).map V.str)) := by rw [g1, strs_of g2]
      have hDu5 := (e4.trans e5) _ _ hD3
      have nl : (numS i).length ≤ 1 := numS_len (by omega)
      have cl : (":" : Str).length ≤ 1 := by decide
      have fit := row_fits (ds := ds) (l := l) (d := i) (by omega) n6 il okc.2.2.2.1
      refine ⟨_, rfl, .inl ⟨rfl, _, SqL.of hDu5⟩, ⟨_, rfl⟩, _, rfl, _, rfl, ?_, _, _, rfl, rfl, small ?_, small (by simp), fun M H6 nM e6 hM => ⟨_, rfl, _, _, _, _, rfl, rfl, hM, e6 _ _ hW, small (by simp; omega), fun N H7 nN e7 hN => ?_⟩⟩
      · have : (i : Int).natAbs = i := Int.natAbs_natCast i
        rw [this]
        have : i.log2 ≤ i := Nat.log2_le_self i
        omega
      · have : (numS i).length = (Str.ofString (toString (i : Int))).length := rfl
        omega
      · have hDu7 := (e6.trans e7) _ _ hDu5
        refine ⟨_, N, (numS i ++ ":") :: (seen ds l i).map dash, rfl, rfl, .inl (SqL.of hN), fit.1, _, _, _, rfl, rfl, hDu7, small' (by rw [List.length_map, List.length_map, List.length_range]; omega), ⟨_, _, rfl⟩, fun b o nb hb => ?_, ?_⟩
        · rw [upd_ne nb]
          exact (e4.trans (e5.trans (e6.trans e7))) _ _ (k3 _ _ nb hb)
        · rw [upd_same, List.range_succ, List.map_append, List.map_append]
          rfl
  · obtain ⟨⟨j15, j16, rfl⟩, k3, hD3⟩ := p3
    rw [hpl] at hD3
    refine q _ H3 (fun i hi => ?_) k3 hD3
    rcases i with _ | _ | _ | _ | _ | _ | _ | _ | _ | _ | _ | _ | _ | _ | _ | i <;> first | rfl | (exfalso; omega)
def cL12 (K : PySem.W.Frag) (C : Addr) : TS := fun D σ H => ∃ (o Du : Addr) (lv : V) (ds : List Door) (cs : List Str) (l : Lay), σ[3]? = some (some (.ref o)) ∧ σ[5]? = some (some lv) ∧ σ[14]? = some (some (.ref Du)) ∧ StoreAt K C H o ds cs ∧ LayV H lv l ∧ IsLay (places ds) cs l ∧ H Du = some (.lst (((List.range ds.length).map (shelfRow ds l)).map V.str)) ∧ ∀ H', D.rt (.bl true) H'
theorem law_12 (B : Base K mg) (S : StoreB K mg C) (hr : Room 18 (cxL P w K mg base f cdv A outer s H0 E).A) : PS (cxL P w K mg base f cdv A outer s H0 E) (stL 12) (cL12 K C) := by
  refine ps_of fun D σ H hl h => ?_
  obtain ⟨o, Du, lv, ds, cs, l, h3, h5, h14, sa, lvv, il, hDu, q⟩ := h
  refine ⟨_, (ps_ret (pe_cmpR op_eq (pe_c (cal_shelf B S) hr (by decide) rfl (pa_cons (pv 3) (pa_cons (pv 5) pa_nil))) (pe_join pe_str (pv 14)) (nomark _))), ?_⟩
  exact ⟨_, h3, _, h5, o, ds, cs, lv, l, rfl, sa, lvv, il, fun H1 e1 => ⟨⟨_, rfl⟩, _, h14, _, Du, (List.range ds.length).map (shelfRow ds l), rfl, rfl, .inl (SqL.of (e1 _ _ hDu)), shelf_fits sa.1.1 il sa.1.2.2.2.2.1, rfl, qb D.rt (decide_eq_true rfl) (q H1)⟩⟩
end
end CC

/-! text E16 -/
namespace CC
open PySem PySem.Spec PyProof.Rows L2 LamX
theorem tabs_draw {T : List (Addr × Str)} {K : PySem.W.Frag} {H H' : Hp} {d : Dr} (t : Tabs T H) (k : But d.1 H H') (h : DrawAt K H d) : Tabs T H' := let ⟨_, h⟩ := h.lst; tabs_list t k h
section
variable {P : Program} {w : World} {K : PySem.W.Frag} {mg : Str → Option Value} {base : Heap} {C CR CW CN CS : Addr}
def spLaw (T : List (Addr × Str)) (K : PySem.W.Frag) : SpN := fun vs H Q => ∃ (a : Addr) (ns : List Int), vs = [.ref a] ∧ SqL K H a (ns.map V.int) ∧ Tabs T H ∧ ∀ H', Q (.bl true) H'
/-- a def with its code object, told with its function object -/
structure FunK (K : PySem.W.Frag) (x qual : Str) (st : Stmt) (ps : List Str) (f c : Addr) (fd : FuncData) : Prop where
  ex : ∃ (oc : Value) (od : Option Addr) (kV doc pm : Value) (an : Option Addr) (ct : Value) (osl : Array (Option Value)), fd = PySem.W.fnOf x qual (defArgs st) (defBody st) (defScope st) .none kV doc pm an (.ref c) ct ∧
    K.lookup f = some ⟨oc, od, .func fd, osl⟩ ∧ PySem.W.codeIn K (.ref c) qual = true ∧ Binds K fd ps []
theorem FunK.c {x qual : Str} {st : Stmt} {ps : List Str} {f c : Addr} {fd : FuncData} (F : FunK K x qual st ps f c fd) : FunC K x qual st ps f c := by
  obtain ⟨oc, od, kV, doc, pm, an, ct, osl, rfl, lk, hcd, b⟩ := F.ex
  exact ⟨oc, od, kV, doc, pm, an, ct, osl, lk, hcd, b⟩
theorem FunK.ok {x qual : Str} {st : Stmt} {ps N : List Str} {f c : Addr} {fd : FuncData} {k : Nat} {sp : SpN} (F : FunK K x qual st ps f c fd) (S : FnScope N ps (defScope st)) (len : ∀ vs H Q, sp vs H Q → vs.length = ps.length)
    (hbody : ∀ (A : Around) (outer : List Env) (s : Shared) (H : Hp) (vs : List V) (Q : VK) (E : XK), Room k (A.deeper (envOfC qual (defScope st) s.heap.objs.size f (.ref c))) → sp vs H Q →
      ∃ t, PSs (cxOf CX0 P w K mg base N qual (defScope st) f (.ref c) A outer s H E).nox (defBody st) t ∧ t { nx := fun _ H' => Q .non H', rt := Q } (start N vs) H) : FnOk P w K mg base CX0 (k + 1) f fd ps (fun vs H Q _ => sp vs H Q) := by
  obtain ⟨oc, od, kV, doc, pm, an, ct, osl, rfl, lk, hcd, b⟩ := F.ex
  refine fn_of lk hcd S (fun vs H Q _ h => len vs H Q h) fun A outer s H vs Q E hr hsp => ?_
  obtain ⟨t, h, q⟩ := hbody A outer s H vs Q E hr hsp
  exact ⟨t, h.nox, q⟩
theorem fn_law {T : List (Addr × Str)} {f c : Addr} {fd : FuncData} (B : Base K mg) (S : StoreB K mg C) (R : ReaderB K mg CR) (XB : ExcB K mg CN CS) (hm : PySem.W.mroIn K C (.type "object") = some true) (cp : Cal P w K mg base 6 "parse_store" (spParse T K C))
    (FC : FunK K "law" "law" (topS 104) ["_law_script"] f c fd) (LT : LamAt base mg T c "law.<locals>.<lambda>") : FnOk P w K mg base CX0 19 f fd ["_law_script"] (fun vs H Q _ => spLaw T K vs H Q) := by
  refine FC.ok (k := 18) sc_law (fun vs H Q h => ?_) (fun A outer s H vs Q E hr h => ?_)
  · obtain ⟨a, ns, rfl, _⟩ := h
    rfl
  · obtain ⟨a, ns, rfl, ha, hT, q⟩ := h
    refine ⟨_, pss_cons (law_0 B) (pss_cons (law_1 B hr) (pss_cons (law_2 B S hr) (pss_cons (law_3 B S R hm cp hr) (pss_cons (law_4 B hr) (pss_cons (law_5 B hr) (pss_cons (law_6 B S XB LT hr) (pss_cons law_7 (pss_cons (law_8 B hr) (pss_cons (law_9 B S hr) (pss_cons law_10 (pss_cons (law_11 B hr) (pss_one (law_12 B S hr))))))))))))), ?_⟩
    refine ⟨a, ns, rfl, ha, fun H1 r e1 d1 => ⟨(r, a, ns), rfl, d1, fun H2 v ds cs k2 d2 sv o1 o2 => ⟨v, ds, cs, rfl, sv, o1, o2, fun H3 o e3 sa => ?_⟩⟩⟩
    have t3 := (tabs_draw (hT.ext e1) k2 d1).ext e3
    refine ⟨o, ds, cs, rfl, sa, t3, fun H4 x4 t4 => ?_⟩
    have d4 := ext_draw x4 (d2.same e3)
    have sv4 := ext_scheme x4 (sv.mono e3.n)
    refine ⟨(r, a, ns), v, ds, cs, rfl, rfl, d4, sv4, o1, o2, fun H5 L lv us rs l k5 d5 hL pr rl okr lvv il => ?_⟩
    obtain ⟨xs4, hrw4⟩ := d4.lst
    have n45 := k5.n hrw4
    have t5 := tabs_draw t4 k5 d4
    have sv5 := sv4.mono n45
    have sa5 := (ext_store x4 sa).mono n45
    refine ⟨v, ds, cs, L, rs, rfl, rfl, sv5, o1, o2, ⟨L, us, rfl, hL, pr⟩, by omega, okr, fun H6 p re ks e6 en lp hr6 => ?_⟩
    have li6 : LogIn K C H6 o (.ref L) ds cs rs := ⟨sa5.mono e6.n, ⟨L, us, rfl, e6 _ _ hL, Paired.imp (fun _ _ h => e6.n.m.row h) pr⟩, by omega, okr⟩
    refine ⟨o, L, p, ds, cs, rs, ks, rfl, rfl, rfl, li6, t5.ext e6, en, lp, q, fun kne H7 e7 => fun H8 Ln n8 e8 hLn => ?_⟩
    have e68 := e7.trans e8
    have lp8 := lp.mono e68
    have hr7 := e7 _ _ hr6
    have hr8 := e8 _ _ hr7
    have pLn : p ≠ Ln := fun z => by
      obtain ⟨vs, h, _⟩ := lp.mono e7
      rw [z, n8] at h
      cases h
    have rLn : re ≠ Ln := fun z => by rw [z, n8] at hr7; cases hr7
    have LLn : L ≠ Ln := fun z => by have h := (e6.trans e7) _ _ hL; rw [z, n8] at h; cases h
    obtain ⟨m0, hm0⟩ := List.exists_mem_of_ne_nil ks kne
    refine ⟨v, ds, cs, p, re, Ln, sortL ks, rfl, rfl, rfl, rfl, sv5.mono (e6.trans e68).n, o1, o2, lp8, fun z => ?_, ?_, fun l hl => en.lay l (sortL_mem.mp hl), hr8, hLn, pLn, rLn, fun σ9 H9 s9 k9 hLn9 => ?_⟩
    · have := sortL_mem.mpr hm0
      rw [z] at this
      cases this
    · rw [sortL_len]
      exact Nat.le_trans (lays_few en.nd en.lay (places_le o1)) (by decide)
    have n89 := k9.n hLn
    have n59 := (e6.trans e68).n.trans n89
    have li9 : LogIn K C H9 o (.ref L) ds cs rs := ⟨sa5.mono n59, ⟨L, us, rfl, k9 _ _ LLn ((e6.trans e68) _ _ hL), Paired.imp (fun _ _ h => n59.m.row h) pr⟩, by omega, okr⟩
    refine ⟨o, L, Ln, ds, cs, rs, sortL ks, (s9 3 (by decide)).trans rfl, (s9 4 (by decide)).trans rfl, (s9 8 (by decide)).trans rfl, li9, ⟨m0, (en.mem m0).mp hm0⟩, hLn9, fun ks' en' m => (en'.mem m).trans ((en.mem m).symm.trans sortL_mem.symm), fun H10 e10 => fun H11 Du n11 e11 hDu s14 => ?_⟩
    have n511 := n59.trans (e10.trans e11).n
    refine ⟨v, lv, ds, cs, l, Du, (by rw [List.getElem?_set_ne (by decide)]; exact (s9 2 (by decide)).trans rfl), (by rw [List.getElem?_set_ne (by decide)]; exact (s9 5 (by decide)).trans rfl), s14, sv5.mono n511, o1, o2, lvv.mono n511, il, hDu, fun σ12 H12 s12 k12 hDu12 => ?_⟩
    have n512 := n511.trans (k12.n hDu)
    exact ⟨o, Du, lv, ds, cs, l, (s12 3 (by decide)).trans (by rw [List.getElem?_set_ne (by decide)]; exact (s9 3 (by decide)).trans rfl), (s12 5 (by decide)).trans (by rw [List.getElem?_set_ne (by decide)]; exact (s9 5 (by decide)).trans rfl), (s12 14 (by decide)).trans s14, sa5.mono n512, lvv.mono n512, il, hDu12, q⟩
end
end CC

/-! text H2 -/
namespace CC
open PySem PySem.Spec PyProof.Rows L2 LamX CCH

section
variable {K : PySem.W.Frag} {h : Heap} {mg : Str → Option Value}
theorem defB_of {x : Str} {st : Stmt} {ps : List Str} {kws : List (Str × V)} (F : ∃ fd, FunD K x x (defArgs st) (defBody st) (defScope st) [] kws (He.ga K x) fd) (hm : mg x = some (.ref (He.ga K x)))
    (hb : ∀ (kV doc pm : Value) (an : Option Addr) (cdv ct : Value) (us : List Value), us.length = ps.length → bindArgs (PySem.W.fnOf x x (defArgs st) (defBody st) (defScope st) .none kV doc pm an cdv ct) ⟨us, []⟩ = pure (ps.zip us)) : DefB K mg x st ps := by
  obtain ⟨fd, F⟩ := F
  have F := He5.fun_of F
  exact ⟨_, fd, F, hm, F.binds hb⟩
theorem methB_of {C : Addr} {m qual : Str} {st : Stmt} {ps : List Str} {kws : List (Str × V)} {f : Addr} (F : ∃ fd, FunD K m qual (defArgs st) (defBody st) (defScope st) [] kws f fd) (me : Meth K C m f)
    (hb : ∀ (kV doc pm : Value) (an : Option Addr) (cdv ct : Value) (us : List Value), us.length = ps.length → bindArgs (PySem.W.fnOf m qual (defArgs st) (defBody st) (defScope st) .none kV doc pm an cdv ct) ⟨us, []⟩ = pure (ps.zip us)) : MethB K C m qual st ps := by
  obtain ⟨fd, F⟩ := F
  have F := He5.fun_of F
  exact ⟨_, fd, me, F, F.binds hb⟩
theorem mkB_of {C : Addr} {x qual : Str} {st : Stmt} {ps : List Str} {kws : List (Str × V)} {f : Addr} (F : ∃ fd, FunD K "__init__" qual (defArgs st) (defBody st) (defScope st) [] kws f fd) (me : Mk K C f) (hm : mg x = some (.ref C))
    (hb : ∀ (kV doc pm : Value) (an : Option Addr) (cdv ct : Value) (us : List Value), us.length = ps.length → bindArgs (PySem.W.fnOf "__init__" qual (defArgs st) (defBody st) (defScope st) .none kV doc pm an cdv ct) ⟨us, []⟩ = pure (ps.zip us)) : MkB K mg C x qual st ps := by
  obtain ⟨fd, F⟩ := F
  have F := He5.fun_of F
  exact ⟨_, fd, me, hm, F, F.binds hb⟩
theorem propB_of {C : Addr} {m qual : Str} {st : Stmt} {kws : List (Str × V)} (F : ∃ fd, FunD K m qual (defArgs st) (defBody st) (defScope st) [] kws (propF K C m) fd) (h1 : PySem.W.findIn K (.ref C) m = some (some (.ref (He.ma K C m)))) (h2 : PySem.W.specialIn K (.ref (He.ma K C m)) "__get__" = some (some (.builtin "property.__get__")))
    (h3 : PySem.W.takesIn K (.ref (He.ma K C m)) = some true) (h4 : propB K C m = true) (hb : ∀ (kV doc pm : Value) (an : Option Addr) (cdv ct : Value) (us : List Value), us.length = (["self"] : List Str).length → bindArgs (PySem.W.fnOf m qual (defArgs st) (defBody st) (defScope st) .none kV doc pm an cdv ct) ⟨us, []⟩ = pure ((["self"] : List Str).zip us)) : PropB K C m qual st := by
  obtain ⟨fd, F⟩ := F
  have F := He5.fun_of F
  exact ⟨_, _, fd, h1, h2, h3, prop_ok h4, F, F.binds hb⟩
theorem funK_of {x qual : Str} {st : Stmt} {ps : List Str} {kws : List (Str × V)} {p : He.Defn} (F : ∃ fd, FunD K x qual (defArgs st) (defBody st) (defScope st) [] kws (He.fAd K p) fd)
    (hb : ∀ (kV doc pm : Value) (an : Option Addr) (cdv ct : Value) (us : List Value), us.length = ps.length → bindArgs (PySem.W.fnOf x qual (defArgs st) (defBody st) (defScope st) .none kV doc pm an cdv ct) ⟨us, []⟩ = pure (ps.zip us)) : ∃ fd, FunK K x qual st ps (He.fAd K p) (He.codeOf K p) fd ∧ FunD K x qual (defArgs st) (defBody st) (defScope st) [] kws (He.fAd K p) fd := by
  obtain ⟨fd, F⟩ := F
  have Fs := F
  obtain ⟨oc, od, dV, kV, doc, pm, an, cdv, ct, osl, e, lk, hcd, hD, _⟩ := F.ex
  rcases hD with ⟨_, e2⟩ | ⟨e2, _⟩
  · subst e2
    obtain ⟨c, ec⟩ := He.codeIn_ref hcd
    subst ec
    have hc : He.codeOf K p = c := He.codeOf_eq lk (by rw [e])
    have b := FunD.bindsN Fs hb
    refine ⟨fd, ⟨oc, od, kV, doc, pm, an, ct, osl, ?_, lk, ?_, b⟩, Fs⟩
    · rw [hc]; exact e
    · rw [hc]; exact hcd
  · exact absurd rfl e2
theorem ex_at {l : List Bool} (h : l.all id = true) {i : Nat} {b : Bool} (e : l[i]? = some b) : b = true := List.all_eq_true.mp h b (List.mem_of_getElem? e)
variable (X : K.In h) (G : h.Ns mainGlobals mg) (c : SaysC fA fN tF eX h K)
include X G c
theorem b_0 : DefB K mg (Str.ofString "is_number") (topS 27) [Str.ofString "value", Str.ofString "smallest", Str.ofString "largest"] := defB_of (kws := []) (He5.SaysA.def_ c.a 0 rfl) (He.glo_ok X G (x := Str.ofString "is_number") (He5.SaysA.fact c.a 0 rfl)) (fun _ _ _ _ _ _ us hl => match us, hl with | [_, _, _], _ => rfl)
theorem b_1 : DefB K mg (Str.ofString "is_word") (topS 28) [Str.ofString "value"] := defB_of (kws := []) (He5.SaysA.def_ c.a 1 rfl) (He.glo_ok X G (x := Str.ofString "is_word") (He5.SaysA.fact c.a 1 rfl)) (fun _ _ _ _ _ _ us hl => match us, hl with | [_], _ => rfl)
theorem b_2 : DefB K mg (Str.ofString "is_door") (topS 29) [Str.ofString "value"] := defB_of (kws := []) (He5.SaysA.def_ c.a 2 rfl) (He.glo_ok X G (x := Str.ofString "is_door") (He5.SaysA.fact c.a 2 rfl)) (fun _ _ _ _ _ _ us hl => match us, hl with | [_], _ => rfl)
theorem b_3 : DefB K mg (Str.ofString "are_doors") (topS 30) [Str.ofString "row"] := defB_of (kws := []) (He5.SaysA.def_ c.a 3 rfl) (He.glo_ok X G (x := Str.ofString "are_doors") (He5.SaysA.fact c.a 3 rfl)) (fun _ _ _ _ _ _ us hl => match us, hl with | [_], _ => rfl)
theorem b_4 : DefB K mg (Str.ofString "are_crates") (topS 31) [Str.ofString "row", Str.ofString "places"] := defB_of (kws := []) (He5.SaysA.def_ c.a 4 rfl) (He.glo_ok X G (x := Str.ofString "are_crates") (He5.SaysA.fact c.a 4 rfl)) (fun _ _ _ _ _ _ us hl => match us, hl with | [_, _], _ => rfl)
theorem b_5 : DefB K mg (Str.ofString "all_layouts") (topS 33) [Str.ofString "store"] := defB_of (kws := []) (He5.SaysA.def_ c.a 5 rfl) (He.glo_ok X G (x := Str.ofString "all_layouts") (He5.SaysA.fact c.a 5 rfl)) (fun _ _ _ _ _ _ us hl => match us, hl with | [_], _ => rfl)
theorem b_6 : DefB K mg (Str.ofString "is_layout") (topS 34) [Str.ofString "store", Str.ofString "value"] := defB_of (kws := []) (He5.SaysA.def_ c.a 6 rfl) (He.glo_ok X G (x := Str.ofString "is_layout") (He5.SaysA.fact c.a 6 rfl)) (fun _ _ _ _ _ _ us hl => match us, hl with | [_, _], _ => rfl)
theorem b_7 : DefB K mg (Str.ofString "check_layout") (topS 35) [Str.ofString "store", Str.ofString "layout"] := defB_of (kws := []) (He5.SaysA.def_ c.a 7 rfl) (He.glo_ok X G (x := Str.ofString "check_layout") (He5.SaysA.fact c.a 7 rfl)) (fun _ _ _ _ _ _ us hl => match us, hl with | [_, _], _ => rfl)
theorem b_8 : DefB K mg (Str.ofString "seen_behind") (topS 36) [Str.ofString "store", Str.ofString "layout", Str.ofString "door"] := defB_of (kws := []) (He5.SaysA.def_ c.a 8 rfl) (He.glo_ok X G (x := Str.ofString "seen_behind") (He5.SaysA.fact c.a 8 rfl)) (fun _ _ _ _ _ _ us hl => match us, hl with | [_, _, _], _ => rfl)
theorem b_9 : DefB K mg (Str.ofString "rank") (topS 37) [Str.ofString "layout"] := defB_of (kws := []) (He5.SaysA.def_ c.a 9 rfl) (He.glo_ok X G (x := Str.ofString "rank") (He5.SaysA.fact c.a 9 rfl)) (fun _ _ _ _ _ _ us hl => match us, hl with | [_], _ => rfl)
theorem b_10 : DefB K mg (Str.ofString "in_order") (topS 38) [Str.ofString "some"] := defB_of (kws := []) (He5.SaysA.def_ c.a 10 rfl) (He.glo_ok X G (x := Str.ofString "in_order") (He5.SaysA.fact c.a 10 rfl)) (fun _ _ _ _ _ _ us hl => match us, hl with | [_], _ => rfl)
theorem b_11 : DefB K mg (Str.ofString "is_crate") (topS 44) [Str.ofString "store", Str.ofString "value"] := defB_of (kws := []) (He5.SaysA.def_ c.a 11 rfl) (He.glo_ok X G (x := Str.ofString "is_crate") (He5.SaysA.fact c.a 11 rfl)) (fun _ _ _ _ _ _ us hl => match us, hl with | [_, _], _ => rfl)
theorem b_12 : DefB K mg (Str.ofString "is_deed") (topS 45) [Str.ofString "store", Str.ofString "deed"] := defB_of (kws := []) (He5.SaysA.def_ c.a 12 rfl) (He.glo_ok X G (x := Str.ofString "is_deed") (He5.SaysA.fact c.a 12 rfl)) (fun _ _ _ _ _ _ us hl => match us, hl with | [_, _], _ => rfl)
theorem b_13 : DefB K mg (Str.ofString "exchanged") (topS 46) [Str.ofString "layout", Str.ofString "one", Str.ofString "other"] := defB_of (kws := []) (He5.SaysA.def_ c.a 13 rfl) (He.glo_ok X G (x := Str.ofString "exchanged") (He5.SaysA.fact c.a 13 rfl)) (fun _ _ _ _ _ _ us hl => match us, hl with | [_, _, _], _ => rfl)
theorem b_14 : DefB K mg (Str.ofString "put_elsewhere") (topS 47) [Str.ofString "store", Str.ofString "layout", Str.ofString "name", Str.ofString "is_near"] := defB_of (kws := []) (He5.SaysA.def_ c.a 14 rfl) (He.glo_ok X G (x := Str.ofString "put_elsewhere") (He5.SaysA.fact c.a 14 rfl)) (fun _ _ _ _ _ _ us hl => match us, hl with | [_, _, _, _], _ => rfl)
theorem b_15 : DefB K mg (Str.ofString "orders_of") (topS 48) [Str.ofString "things"] := defB_of (kws := []) (He5.SaysA.def_ c.a 15 rfl) (He.glo_ok X G (x := Str.ofString "orders_of") (He5.SaysA.fact c.a 15 rfl)) (fun _ _ _ _ _ _ us hl => match us, hl with | [_], _ => rfl)
theorem b_16 : DefB K mg (Str.ofString "shuffled") (topS 49) [Str.ofString "store", Str.ofString "layout", Str.ofString "door"] := defB_of (kws := []) (He5.SaysA.def_ c.a 16 rfl) (He.glo_ok X G (x := Str.ofString "shuffled") (He5.SaysA.fact c.a 16 rfl)) (fun _ _ _ _ _ _ us hl => match us, hl with | [_, _, _], _ => rfl)
theorem b_17 : DefB K mg (Str.ofString "all_after") (topS 50) [Str.ofString "store", Str.ofString "layout", Str.ofString "deed"] := defB_of (kws := []) (He5.SaysA.def_ c.a 17 rfl) (He.glo_ok X G (x := Str.ofString "all_after") (He5.SaysA.fact c.a 17 rfl)) (fun _ _ _ _ _ _ us hl => match us, hl with | [_, _, _], _ => rfl)
theorem b_18 : DefB K mg (Str.ofString "is_sighting") (topS 54) [Str.ofString "store", Str.ofString "value"] := defB_of (kws := []) (He5.SaysA.def_ c.a 18 rfl) (He.glo_ok X G (x := Str.ofString "is_sighting") (He5.SaysA.fact c.a 18 rfl)) (fun _ _ _ _ _ _ us hl => match us, hl with | [_, _], _ => rfl)
theorem b_19 : DefB K mg (Str.ofString "check_log") (topS 55) [Str.ofString "store", Str.ofString "log"] := defB_of (kws := []) (He5.SaysA.def_ c.a 19 rfl) (He.glo_ok X G (x := Str.ofString "check_log") (He5.SaysA.fact c.a 19 rfl)) (fun _ _ _ _ _ _ us hl => match us, hl with | [_, _], _ => rfl)
theorem b_20 : DefB K mg (Str.ofString "is_so") (topS 56) [Str.ofString "store", Str.ofString "layout", Str.ofString "sighting"] := defB_of (kws := []) (He5.SaysA.def_ c.a 20 rfl) (He.glo_ok X G (x := Str.ofString "is_so") (He5.SaysA.fact c.a 20 rfl)) (fun _ _ _ _ _ _ us hl => match us, hl with | [_, _, _], _ => rfl)
theorem b_21 : DefB K mg (Str.ofString "behind_row") (topS 57) [Str.ofString "store", Str.ofString "layout", Str.ofString "row"] := defB_of (kws := []) (He5.SaysA.def_ c.a 21 rfl) (He.glo_ok X G (x := Str.ofString "behind_row") (He5.SaysA.fact c.a 21 rfl)) (fun _ _ _ _ _ _ us hl => match us, hl with | [_, _, _], _ => rfl)
theorem b_22 : DefB K mg (Str.ofString "counts_behind") (topS 58) [Str.ofString "store", Str.ofString "counts", Str.ofString "log"] := defB_of (kws := []) (He5.SaysA.def_ c.a 22 rfl) (He.glo_ok X G (x := Str.ofString "counts_behind") (He5.SaysA.fact c.a 22 rfl)) (fun _ _ _ _ _ _ us hl => match us, hl with | [_, _, _], _ => rfl)
theorem b_23 : DefB K mg (Str.ofString "all_now") (topS 59) [Str.ofString "store", Str.ofString "log"] := defB_of (kws := []) (He5.SaysA.def_ c.a 23 rfl) (He.glo_ok X G (x := Str.ofString "all_now") (He5.SaysA.fact c.a 23 rfl)) (fun _ _ _ _ _ _ us hl => match us, hl with | [_, _], _ => rfl)
theorem b_24 : DefB K mg (Str.ofString "now") (topS 60) [Str.ofString "store", Str.ofString "log"] := defB_of (kws := []) (He5.SaysA.def_ c.a 24 rfl) (He.glo_ok X G (x := Str.ofString "now") (He5.SaysA.fact c.a 24 rfl)) (fun _ _ _ _ _ _ us hl => match us, hl with | [_, _], _ => rfl)
theorem b_25 : DefB K mg (Str.ofString "need_some") (topS 61) [Str.ofString "rows"] := defB_of (kws := []) (He5.SaysA.def_ c.a 25 rfl) (He.glo_ok X G (x := Str.ofString "need_some") (He5.SaysA.fact c.a 25 rfl)) (fun _ _ _ _ _ _ us hl => match us, hl with | [_], _ => rfl)
theorem b_26 : DefB K mg (Str.ofString "some_now") (topS 62) [Str.ofString "store", Str.ofString "log"] := defB_of (kws := []) (He5.SaysA.def_ c.a 26 rfl) (He.glo_ok X G (x := Str.ofString "some_now") (He5.SaysA.fact c.a 26 rfl)) (fun _ _ _ _ _ _ us hl => match us, hl with | [_, _], _ => rfl)
theorem b_27 : DefB K mg (Str.ofString "sign_of") (topS 64) [Str.ofString "rows", Str.ofString "name", Str.ofString "place"] := defB_of (kws := []) (He5.SaysA.def_ c.a 27 rfl) (He.glo_ok X G (x := Str.ofString "sign_of") (He5.SaysA.fact c.a 27 rfl)) (fun _ _ _ _ _ _ us hl => match us, hl with | [_, _, _], _ => rfl)
theorem b_28 : DefB K mg (Str.ofString "table") (topS 65) [Str.ofString "store", Str.ofString "log"] := defB_of (kws := []) (He5.SaysA.def_ c.a 28 rfl) (He.glo_ok X G (x := Str.ofString "table") (He5.SaysA.fact c.a 28 rfl)) (fun _ _ _ _ _ _ us hl => match us, hl with | [_, _], _ => rfl)
theorem b_29 : DefB K mg (Str.ofString "shelf") (topS 66) [Str.ofString "store", Str.ofString "layout"] := defB_of (kws := []) (He5.SaysA.def_ c.a 29 rfl) (He.glo_ok X G (x := Str.ofString "shelf") (He5.SaysA.fact c.a 29 rfl)) (fun _ _ _ _ _ _ us hl => match us, hl with | [_, _], _ => rfl)
theorem b_30 : DefB K mg (Str.ofString "checksum") (topS 72) [Str.ofString "values"] := defB_of (kws := []) (He5.SaysA.def_ c.a 30 rfl) (He.glo_ok X G (x := Str.ofString "checksum") (He5.SaysA.fact c.a 30 rfl)) (fun _ _ _ _ _ _ us hl => match us, hl with | [_], _ => rfl)
theorem b_31 : DefB K mg (Str.ofString "encode_store") (topS 73) [Str.ofString "store"] := defB_of (kws := []) (He5.SaysA.def_ c.a 31 rfl) (He.glo_ok X G (x := Str.ofString "encode_store") (He5.SaysA.fact c.a 31 rfl)) (fun _ _ _ _ _ _ us hl => match us, hl with | [_], _ => rfl)
theorem b_32 : DefB K mg (Str.ofString "decode_store") (topS 75) [Str.ofString "values"] := defB_of (kws := []) (He5.SaysA.def_ c.a 32 rfl) (He.glo_ok X G (x := Str.ofString "decode_store") (He5.SaysA.fact c.a 32 rfl)) (fun _ _ _ _ _ _ us hl => match us, hl with | [_], _ => rfl)
theorem b_33 : DefB K mg (Str.ofString "format_store") (topS 81) [Str.ofString "store"] := defB_of (kws := []) (He5.SaysA.def_ c.a 33 rfl) (He.glo_ok X G (x := Str.ofString "format_store") (He5.SaysA.fact c.a 33 rfl)) (fun _ _ _ _ _ _ us hl => match us, hl with | [_], _ => rfl)
theorem b_34 : DefB K mg (Str.ofString "is_count") (topS 82) [Str.ofString "word"] := defB_of (kws := []) (He5.SaysA.def_ c.a 34 rfl) (He.glo_ok X G (x := Str.ofString "is_count") (He5.SaysA.fact c.a 34 rfl)) (fun _ _ _ _ _ _ us hl => match us, hl with | [_], _ => rfl)
theorem b_35 : DefB K mg (Str.ofString "heads_at") (topS 84) [Str.ofString "rows", Str.ofString "names"] := defB_of (kws := []) (He5.SaysA.def_ c.a 35 rfl) (He.glo_ok X G (x := Str.ofString "heads_at") (He5.SaysA.fact c.a 35 rfl)) (fun _ _ _ _ _ _ us hl => match us, hl with | [_, _], _ => rfl)
theorem b_36 : DefB K mg (Str.ofString "parse_store") (topS 85) [Str.ofString "text"] := defB_of (kws := []) (He5.SaysA.def_ c.a 36 rfl) (He.glo_ok X G (x := Str.ofString "parse_store") (He5.SaysA.fact c.a 36 rfl)) (fun _ _ _ _ _ _ us hl => match us, hl with | [_], _ => rfl)
theorem b_37 : DefB K mg (Str.ofString "_law_taken") (topS 87) [Str.ofString "_law_row", Str.ofString "_law_many"] := defB_of (kws := []) (He5.SaysA.def_ c.a 37 rfl) (He.glo_ok X G (x := Str.ofString "_law_taken") (He5.SaysA.fact c.a 37 rfl)) (fun _ _ _ _ _ _ us hl => match us, hl with | [_, _], _ => rfl)
theorem b_38 : DefB K mg (Str.ofString "_law_pick") (topS 88) [Str.ofString "_law_row", Str.ofString "_law_some"] := defB_of (kws := []) (He5.SaysA.def_ c.a 38 rfl) (He.glo_ok X G (x := Str.ofString "_law_pick") (He5.SaysA.fact c.a 38 rfl)) (fun _ _ _ _ _ _ us hl => match us, hl with | [_, _], _ => rfl)
theorem b_39 : DefB K mg (Str.ofString "_law_mixed") (topS 89) [Str.ofString "_law_row", Str.ofString "_law_things"] := defB_of (kws := []) (He5.SaysA.def_ c.a 39 rfl) (He.glo_ok X G (x := Str.ofString "_law_mixed") (He5.SaysA.fact c.a 39 rfl)) (fun _ _ _ _ _ _ us hl => match us, hl with | [_, _], _ => rfl)
theorem b_40 : DefB K mg (Str.ofString "_law_scheme") (topS 90) [Str.ofString "_law_row", Str.ofString "_law_most", Str.ofString "_law_crates"] := defB_of (kws := []) (He5.SaysA.def_ c.a 40 rfl) (He.glo_ok X G (x := Str.ofString "_law_scheme") (He5.SaysA.fact c.a 40 rfl)) (fun _ _ _ _ _ _ us hl => match us, hl with | [_, _, _], _ => rfl)
theorem b_41 : DefB K mg (Str.ofString "_law_store") (topS 91) [Str.ofString "_law_s"] := defB_of (kws := []) (He5.SaysA.def_ c.a 41 rfl) (He.glo_ok X G (x := Str.ofString "_law_store") (He5.SaysA.fact c.a 41 rfl)) (fun _ _ _ _ _ _ us hl => match us, hl with | [_], _ => rfl)
theorem b_42 : DefB K mg (Str.ofString "_law_edges") (topS 92) [Str.ofString "_law_s"] := defB_of (kws := []) (He5.SaysA.def_ c.a 42 rfl) (He.glo_ok X G (x := Str.ofString "_law_edges") (He5.SaysA.fact c.a 42 rfl)) (fun _ _ _ _ _ _ us hl => match us, hl with | [_], _ => rfl)
theorem b_43 : DefB K mg (Str.ofString "_law_rank") (topS 93) [Str.ofString "_law_layout"] := defB_of (kws := []) (He5.SaysA.def_ c.a 43 rfl) (He.glo_ok X G (x := Str.ofString "_law_rank") (He5.SaysA.fact c.a 43 rfl)) (fun _ _ _ _ _ _ us hl => match us, hl with | [_], _ => rfl)
theorem b_44 : DefB K mg (Str.ofString "_law_layouts") (topS 94) [Str.ofString "_law_s"] := defB_of (kws := []) (He5.SaysA.def_ c.a 44 rfl) (He.glo_ok X G (x := Str.ofString "_law_layouts") (He5.SaysA.fact c.a 44 rfl)) (fun _ _ _ _ _ _ us hl => match us, hl with | [_], _ => rfl)
theorem b_45 : DefB K mg (Str.ofString "_law_seen") (topS 95) [Str.ofString "_law_s", Str.ofString "_law_layout", Str.ofString "_law_door"] := defB_of (kws := []) (He5.SaysA.def_ c.a 45 rfl) (He.glo_ok X G (x := Str.ofString "_law_seen") (He5.SaysA.fact c.a 45 rfl)) (fun _ _ _ _ _ _ us hl => match us, hl with | [_, _, _], _ => rfl)
theorem b_46 : DefB K mg (Str.ofString "_law_turned") (topS 96) [Str.ofString "_law_layout", Str.ofString "_law_one", Str.ofString "_law_other"] := defB_of (kws := []) (He5.SaysA.def_ c.a 46 rfl) (He.glo_ok X G (x := Str.ofString "_law_turned") (He5.SaysA.fact c.a 46 rfl)) (fun _ _ _ _ _ _ us hl => match us, hl with | [_, _, _], _ => rfl)
theorem b_47 : DefB K mg (Str.ofString "_law_after") (topS 97) [Str.ofString "_law_s", Str.ofString "_law_layout", Str.ofString "_law_deed_here"] := defB_of (kws := []) (He5.SaysA.def_ c.a 47 rfl) (He.glo_ok X G (x := Str.ofString "_law_after") (He5.SaysA.fact c.a 47 rfl)) (fun _ _ _ _ _ _ us hl => match us, hl with | [_, _, _], _ => rfl)
theorem b_48 : DefB K mg (Str.ofString "_law_deed") (topS 98) [Str.ofString "_law_row", Str.ofString "_law_s"] := defB_of (kws := []) (He5.SaysA.def_ c.a 48 rfl) (He.glo_ok X G (x := Str.ofString "_law_deed") (He5.SaysA.fact c.a 48 rfl)) (fun _ _ _ _ _ _ us hl => match us, hl with | [_, _], _ => rfl)
theorem b_49 : DefB K mg (Str.ofString "_law_story") (topS 99) [Str.ofString "_law_row", Str.ofString "_law_s", Str.ofString "_law_most"] := defB_of (kws := []) (He5.SaysA.def_ c.a 49 rfl) (He.glo_ok X G (x := Str.ofString "_law_story") (He5.SaysA.fact c.a 49 rfl)) (fun _ _ _ _ _ _ us hl => match us, hl with | [_, _, _], _ => rfl)
theorem b_50 : DefB K mg (Str.ofString "_law_is_so") (topS 100) [Str.ofString "_law_s", Str.ofString "_law_layout", Str.ofString "_law_row"] := defB_of (kws := []) (He5.SaysA.def_ c.a 50 rfl) (He.glo_ok X G (x := Str.ofString "_law_is_so") (He5.SaysA.fact c.a 50 rfl)) (fun _ _ _ _ _ _ us hl => match us, hl with | [_, _, _], _ => rfl)
theorem b_51 : DefB K mg (Str.ofString "_law_counts") (topS 101) [Str.ofString "_law_s", Str.ofString "_law_counts_here", Str.ofString "_law_log"] := defB_of (kws := []) (He5.SaysA.def_ c.a 51 rfl) (He.glo_ok X G (x := Str.ofString "_law_counts") (He5.SaysA.fact c.a 51 rfl)) (fun _ _ _ _ _ _ us hl => match us, hl with | [_, _, _], _ => rfl)
theorem b_52 : DefB K mg (Str.ofString "_law_now") (topS 102) [Str.ofString "_law_s", Str.ofString "_law_log"] := defB_of (kws := []) (He5.SaysA.def_ c.a 52 rfl) (He.glo_ok X G (x := Str.ofString "_law_now") (He5.SaysA.fact c.a 52 rfl)) (fun _ _ _ _ _ _ us hl => match us, hl with | [_, _], _ => rfl)
theorem b_53 : DefB K mg (Str.ofString "_law_raised") (topS 103) [Str.ofString "_law_work"] := defB_of (kws := []) (He5.SaysA.def_ c.a 53 rfl) (He.glo_ok X G (x := Str.ofString "_law_raised") (He5.SaysA.fact c.a 53 rfl)) (fun _ _ _ _ _ _ us hl => match us, hl with | [_], _ => rfl)
theorem b_54 : DefB K mg (Str.ofString "law") (topS 104) [Str.ofString "_law_script"] := defB_of (kws := []) (He5.SaysA.def_ c.a 54 rfl) (He.glo_ok X G (x := Str.ofString "law") (He5.SaysA.fact c.a 54 rfl)) (fun _ _ _ _ _ _ us hl => match us, hl with | [_], _ => rfl)
theorem b_defs : ∀ (i : Nat) x j ps, defT[i]? = some (x, j, ps) → DefB K mg x (topS j) ps := fun i x j ps hh => match i, hh with
  | 0, hh => by cases hh; exact b_0 X G c
  | 1, hh => by cases hh; exact b_1 X G c
  | 2, hh => by cases hh; exact b_2 X G c
  | 3, hh => by cases hh; exact b_3 X G c
  | 4, hh => by cases hh; exact b_4 X G c
  | 5, hh => by cases hh; exact b_5 X G c
  | 6, hh => by cases hh; exact b_6 X G c
  | 7, hh => by cases hh; exact b_7 X G c
  | 8, hh => by cases hh; exact b_8 X G c
  | 9, hh => by cases hh; exact b_9 X G c
  | 10, hh => by cases hh; exact b_10 X G c
  | 11, hh => by cases hh; exact b_11 X G c
  | 12, hh => by cases hh; exact b_12 X G c
  | 13, hh => by cases hh; exact b_13 X G c
  | 14, hh => by cases hh; exact b_14 X G c
  | 15, hh => by cases hh; exact b_15 X G c
  | 16, hh => by cases hh; exact b_16 X G c
  | 17, hh => by cases hh; exact b_17 X G c
  | 18, hh => by cases hh; exact b_18 X G c
  | 19, hh => by cases hh; exact b_19 X G c
  | 20, hh => by cases hh; exact b_20 X G c
  | 21, hh => by cases hh; exact b_21 X G c
  | 22, hh => by cases hh; exact b_22 X G c
  | 23, hh => by cases hh; exact b_23 X G c
  | 24, hh => by cases hh; exact b_24 X G c
  | 25, hh => by cases hh; exact b_25 X G c
  | 26, hh => by cases hh; exact b_26 X G c
  | 27, hh => by cases hh; exact b_27 X G c
  | 28, hh => by cases hh; exact b_28 X G c
  | 29, hh => by cases hh; exact b_29 X G c
  | 30, hh => by cases hh; exact b_30 X G c
  | 31, hh => by cases hh; exact b_31 X G c
  | 32, hh => by cases hh; exact b_32 X G c
  | 33, hh => by cases hh; exact b_33 X G c
  | 34, hh => by cases hh; exact b_34 X G c
  | 35, hh => by cases hh; exact b_35 X G c
  | 36, hh => by cases hh; exact b_36 X G c
  | 37, hh => by cases hh; exact b_37 X G c
  | 38, hh => by cases hh; exact b_38 X G c
  | 39, hh => by cases hh; exact b_39 X G c
  | 40, hh => by cases hh; exact b_40 X G c
  | 41, hh => by cases hh; exact b_41 X G c
  | 42, hh => by cases hh; exact b_42 X G c
  | 43, hh => by cases hh; exact b_43 X G c
  | 44, hh => by cases hh; exact b_44 X G c
  | 45, hh => by cases hh; exact b_45 X G c
  | 46, hh => by cases hh; exact b_46 X G c
  | 47, hh => by cases hh; exact b_47 X G c
  | 48, hh => by cases hh; exact b_48 X G c
  | 49, hh => by cases hh; exact b_49 X G c
  | 50, hh => by cases hh; exact b_50 X G c
  | 51, hh => by cases hh; exact b_51 X G c
  | 52, hh => by cases hh; exact b_52 X G c
  | 53, hh => by cases hh; exact b_53 X G c
  | 54, hh => by cases hh; exact b_54 X G c
  | n + 55, hh => by cases (show none = some _ from hh)
theorem b_free : ∀ (i : Nat) x, freeT[i]? = some x → mg x = none := fun i x hh => match i, hh with
  | 0, hh => by cases hh; exact He.free_ok X G (x := Str.ofString "len") (He5.SaysA.fact c.a 74 rfl)
  | 1, hh => by cases hh; exact He.free_ok X G (x := Str.ofString "isinstance") (He5.SaysA.fact c.a 75 rfl)
  | 2, hh => by cases hh; exact He.free_ok X G (x := Str.ofString "int") (He5.SaysA.fact c.a 76 rfl)
  | 3, hh => by cases hh; exact He.free_ok X G (x := Str.ofString "str") (He5.SaysA.fact c.a 77 rfl)
  | 4, hh => by cases hh; exact He.free_ok X G (x := Str.ofString "tuple") (He5.SaysA.fact c.a 78 rfl)
  | 5, hh => by cases hh; exact He.free_ok X G (x := Str.ofString "bool") (He5.SaysA.fact c.a 79 rfl)
  | 6, hh => by cases hh; exact He.free_ok X G (x := Str.ofString "list") (He5.SaysA.fact c.a 80 rfl)
  | 7, hh => by cases hh; exact He.free_ok X G (x := Str.ofString "dict") (He5.SaysA.fact c.a 81 rfl)
  | 8, hh => by cases hh; exact He.free_ok X G (x := Str.ofString "set") (He5.SaysA.fact c.a 82 rfl)
  | 9, hh => by cases hh; exact He.free_ok X G (x := Str.ofString "all") (He5.SaysA.fact c.a 83 rfl)
  | 10, hh => by cases hh; exact He.free_ok X G (x := Str.ofString "any") (He5.SaysA.fact c.a 84 rfl)
  | 11, hh => by cases hh; exact He.free_ok X G (x := Str.ofString "sum") (He5.SaysA.fact c.a 85 rfl)
  | 12, hh => by cases hh; exact He.free_ok X G (x := Str.ofString "min") (He5.SaysA.fact c.a 86 rfl)
  | 13, hh => by cases hh; exact He.free_ok X G (x := Str.ofString "abs") (He5.SaysA.fact c.a 87 rfl)
  | 14, hh => by cases hh; exact He.free_ok X G (x := Str.ofString "range") (He5.SaysA.fact c.a 88 rfl)
  | 15, hh => by cases hh; exact He.free_ok X G (x := Str.ofString "enumerate") (He5.SaysA.fact c.a 89 rfl)
  | 16, hh => by cases hh; exact He.free_ok X G (x := Str.ofString "zip") (He5.SaysA.fact c.a 90 rfl)
  | 17, hh => by cases hh; exact He.free_ok X G (x := Str.ofString "sorted") (He5.SaysA.fact c.a 91 rfl)
  | 18, hh => by cases hh; exact He.free_ok X G (x := Str.ofString "ValueError") (He5.SaysA.fact c.a 92 rfl)
  | n + 19, hh => by cases (show none = some _ from hh)
theorem b_int : ∀ (i : Nat) x z, intT[i]? = some (x, z) → ∃ u, mg x = some u ∧ RelV (.int z) u := fun i x z hh => match i, hh with
  | 0, hh => by cases hh; exact (let ⟨t, e⟩ := He.int_ok X G (x := Str.ofString "MAX_LETTERS") (i := 8) (He5.SaysA.fact c.a 93 rfl); ⟨_, e, t, rfl⟩)
  | 1, hh => by cases hh; exact (let ⟨t, e⟩ := He.int_ok X G (x := Str.ofString "MAX_DOORS") (i := 4) (He5.SaysA.fact c.a 94 rfl); ⟨_, e, t, rfl⟩)
  | 2, hh => by cases hh; exact (let ⟨t, e⟩ := He.int_ok X G (x := Str.ofString "MAX_WARMTH") (i := 99) (He5.SaysA.fact c.a 95 rfl); ⟨_, e, t, rfl⟩)
  | 3, hh => by cases hh; exact (let ⟨t, e⟩ := He.int_ok X G (x := Str.ofString "MAX_BEHIND") (i := 4) (He5.SaysA.fact c.a 96 rfl); ⟨_, e, t, rfl⟩)
  | 4, hh => by cases hh; exact (let ⟨t, e⟩ := He.int_ok X G (x := Str.ofString "MAX_PLACES") (i := 6) (He5.SaysA.fact c.a 97 rfl); ⟨_, e, t, rfl⟩)
  | 5, hh => by cases hh; exact (let ⟨t, e⟩ := He.int_ok X G (x := Str.ofString "MAX_CRATES") (i := 5) (He5.SaysA.fact c.a 98 rfl); ⟨_, e, t, rfl⟩)
  | 6, hh => by cases hh; exact (let ⟨t, e⟩ := He.int_ok X G (x := Str.ofString "FIRST") (i := 71) (He5.SaysA.fact c.a 99 rfl); ⟨_, e, t, rfl⟩)
  | 7, hh => by cases hh; exact (let ⟨t, e⟩ := He.int_ok X G (x := Str.ofString "CHECK_START") (i := 4) (He5.SaysA.fact c.a 100 rfl); ⟨_, e, t, rfl⟩)
  | 8, hh => by cases hh; exact (let ⟨t, e⟩ := He.int_ok X G (x := Str.ofString "CHECK_TIMES") (i := 11) (He5.SaysA.fact c.a 101 rfl); ⟨_, e, t, rfl⟩)
  | 9, hh => by cases hh; exact (let ⟨t, e⟩ := He.int_ok X G (x := Str.ofString "CHECK_REST") (i := 251) (He5.SaysA.fact c.a 102 rfl); ⟨_, e, t, rfl⟩)
  | 10, hh => by cases hh; exact (let ⟨t, e⟩ := He.int_ok X G (x := Str.ofString "MOST_DIGITS") (i := 2) (He5.SaysA.fact c.a 103 rfl); ⟨_, e, t, rfl⟩)
  | n + 11, hh => by cases (show none = some _ from hh)
theorem b_str : ∀ (i : Nat) x z, strT[i]? = some (x, z) → ∃ u, mg x = some u ∧ RelV (.str z) u := fun i x z hh => match i, hh with
  | 0, hh => by cases hh; exact (let ⟨t, e⟩ := He.str_ok X G (x := Str.ofString "LETTERS") (z := Str.ofString "abcdefghijklmnopqrstuvwxyz") (He5.SaysA.fact c.a 104 rfl); ⟨_, e, t, rfl⟩)
  | 1, hh => by cases hh; exact (let ⟨t, e⟩ := He.str_ok X G (x := Str.ofString "MOVE") (z := Str.ofString "move") (He5.SaysA.fact c.a 105 rfl); ⟨_, e, t, rfl⟩)
  | 2, hh => by cases hh; exact (let ⟨t, e⟩ := He.str_ok X G (x := Str.ofString "NEAR") (z := Str.ofString "near") (He5.SaysA.fact c.a 106 rfl); ⟨_, e, t, rfl⟩)
  | 3, hh => by cases hh; exact (let ⟨t, e⟩ := He.str_ok X G (x := Str.ofString "SHUFFLE") (z := Str.ofString "shuffle") (He5.SaysA.fact c.a 107 rfl); ⟨_, e, t, rfl⟩)
  | 4, hh => by cases hh; exact (let ⟨t, e⟩ := He.str_ok X G (x := Str.ofString "SWAP") (z := Str.ofString "swap") (He5.SaysA.fact c.a 108 rfl); ⟨_, e, t, rfl⟩)
  | 5, hh => by cases hh; exact (let ⟨t, e⟩ := He.str_ok X G (x := Str.ofString "OPEN") (z := Str.ofString "open") (He5.SaysA.fact c.a 109 rfl); ⟨_, e, t, rfl⟩)
  | 6, hh => by cases hh; exact (let ⟨t, e⟩ := He.str_ok X G (x := Str.ofString "FROSTED") (z := Str.ofString "?") (He5.SaysA.fact c.a 110 rfl); ⟨_, e, t, rfl⟩)
  | 7, hh => by cases hh; exact (let ⟨t, e⟩ := He.str_ok X G (x := Str.ofString "DOOR") (z := Str.ofString "door") (He5.SaysA.fact c.a 111 rfl); ⟨_, e, t, rfl⟩)
  | 8, hh => by cases hh; exact (let ⟨t, e⟩ := He.str_ok X G (x := Str.ofString "CRATES") (z := Str.ofString "crates") (He5.SaysA.fact c.a 112 rfl); ⟨_, e, t, rfl⟩)
  | 9, hh => by cases hh; exact (let ⟨t, e⟩ := He.str_ok X G (x := Str.ofString "DIGITS") (z := Str.ofString "0123456789") (He5.SaysA.fact c.a 113 rfl); ⟨_, e, t, rfl⟩)
  | n + 10, hh => by cases (show none = some _ from hh)
theorem base_of : Base K mg := ⟨b_defs X G c, b_free X G c, b_int X G c, b_str X G c⟩
theorem store_of : StoreB K mg (He.ga K (Str.ofString "Store")) where
  cls := ⟨ex_at c.more (i := 0) rfl, ex_at c.more (i := 1) rfl, ex_at c.more (i := 2) rfl, He.eqO_ok (ex_at c.more (i := 3) rfl)⟩
  isi := ⟨He.eqO_ok (ex_at c.more (i := 4) rfl), He.eqO_ok (ex_at c.more (i := 5) rfl), of_decide_eq_true (ex_at c.more (i := 6) rfl), of_decide_eq_true (ex_at c.more (i := 7) rfl)⟩
  edges := ⟨_, He.eqO_ok (ex_at c.more (i := 8) rfl), He.eqO_ok (ex_at c.more (i := 9) rfl), of_decide_eq_true (ex_at c.more (i := 10) rfl), of_decide_eq_true (ex_at c.more (i := 11) rfl), of_decide_eq_true (ex_at c.more (i := 12) rfl), by decide⟩
  parts := ⟨_, He.eqO_ok (ex_at c.more (i := 13) rfl), He.eqO_ok (ex_at c.more (i := 14) rfl), of_decide_eq_true (ex_at c.more (i := 15) rfl), of_decide_eq_true (ex_at c.more (i := 16) rfl), of_decide_eq_true (ex_at c.more (i := 17) rfl), by decide⟩
  init := mkB_of (kws := []) (He5.SaysA.def_ c.a 55 rfl) (He.mkr_ok (x := Str.ofString "Store") (He5.SaysA.fact c.a 132 rfl)) (He.glo_ok X G (x := Str.ofString "Store") (He5.SaysA.fact c.a 71 rfl)) (fun _ _ _ _ _ _ us hl => match us, hl with | [_, _, _], _ => rfl)
  doors := propB_of (kws := []) (He5.SaysA.def_ c.a 56 rfl) (He.eqO_ok (ex_at c.more (i := 18) rfl)) (He.eqO_ok (ex_at c.more (i := 19) rfl)) (of_decide_eq_true (ex_at c.more (i := 20) rfl)) (ex_at c.more (i := 21) rfl) (fun _ _ _ _ _ _ us hl => match us, hl with | [_], _ => rfl)
  crates := propB_of (kws := []) (He5.SaysA.def_ c.a 57 rfl) (He.eqO_ok (ex_at c.more (i := 22) rfl)) (He.eqO_ok (ex_at c.more (i := 23) rfl)) (of_decide_eq_true (ex_at c.more (i := 24) rfl)) (ex_at c.more (i := 25) rfl) (fun _ _ _ _ _ _ us hl => match us, hl with | [_], _ => rfl)
  size := propB_of (kws := []) (He5.SaysA.def_ c.a 58 rfl) (He.eqO_ok (ex_at c.more (i := 26) rfl)) (He.eqO_ok (ex_at c.more (i := 27) rfl)) (of_decide_eq_true (ex_at c.more (i := 28) rfl)) (ex_at c.more (i := 29) rfl) (fun _ _ _ _ _ _ us hl => match us, hl with | [_], _ => rfl)
  len := methB_of (kws := []) (He5.SaysA.def_ c.a 59 rfl) (He.meth_ok (x := Str.ofString "Store") (m := Str.ofString "__len__") (He5.SaysA.fact c.a 121 rfl)) (fun _ _ _ _ _ _ us hl => match us, hl with | [_], _ => rfl)
  eq := methB_of (kws := []) (He5.SaysA.def_ c.a 60 rfl) (He.meth_ok (x := Str.ofString "Store") (m := Str.ofString "__eq__") (He5.SaysA.fact c.a 122 rfl)) (fun _ _ _ _ _ _ us hl => match us, hl with | [_, _], _ => rfl)
  ne := He.eqO_ok (ex_at c.more (i := 30) rfl)
  door_of := methB_of (kws := []) (He5.SaysA.def_ c.a 61 rfl) (He.meth_ok (x := Str.ofString "Store") (m := Str.ofString "door_of") (He5.SaysA.fact c.a 123 rfl)) (fun _ _ _ _ _ _ us hl => match us, hl with | [_, _], _ => rfl)
  places_of := methB_of (kws := []) (He5.SaysA.def_ c.a 62 rfl) (He.meth_ok (x := Str.ofString "Store") (m := Str.ofString "places_of") (He5.SaysA.fact c.a 124 rfl)) (fun _ _ _ _ _ _ us hl => match us, hl with | [_, _], _ => rfl)
  kit := of_decide_eq_true (ex_at c.more (i := 31) rfl)
  nf := ex_at c.more (i := 32) rfl
theorem reader_of : ReaderB K mg (He.ga K (Str.ofString "Reader")) where
  cls := He.cls_ok (x := Str.ofString "Reader") (He5.SaysA.fact c.a 114 rfl)
  init := mkB_of (kws := []) (He5.SaysA.def_ c.a 63 rfl) (He.mkr_ok (x := Str.ofString "Reader") (He5.SaysA.fact c.a 133 rfl)) (He.glo_ok X G (x := Str.ofString "Reader") (He5.SaysA.fact c.a 72 rfl)) (fun _ _ _ _ _ _ us hl => match us, hl with | [_, _], _ => rfl)
  item := methB_of (kws := []) (He5.SaysA.def_ c.a 64 rfl) (He.meth_ok (x := Str.ofString "Reader") (m := Str.ofString "item") (He5.SaysA.fact c.a 125 rfl)) (fun _ _ _ _ _ _ us hl => match us, hl with | [_, _, _], _ => rfl)
  read_door := methB_of (kws := []) (He5.SaysA.def_ c.a 65 rfl) (He.meth_ok (x := Str.ofString "Reader") (m := Str.ofString "read_door") (He5.SaysA.fact c.a 126 rfl)) (fun _ _ _ _ _ _ us hl => match us, hl with | [_], _ => rfl)
  read_crate := methB_of (kws := []) (He5.SaysA.def_ c.a 66 rfl) (He.meth_ok (x := Str.ofString "Reader") (m := Str.ofString "read_crate") (He5.SaysA.fact c.a 127 rfl)) (fun _ _ _ _ _ _ us hl => match us, hl with | [_], _ => rfl)
  finish := methB_of (kws := []) (He5.SaysA.def_ c.a 67 rfl) (He.meth_ok (x := Str.ofString "Reader") (m := Str.ofString "finish") (He5.SaysA.fact c.a 128 rfl)) (fun _ _ _ _ _ _ us hl => match us, hl with | [_], _ => rfl)
  n_data := He.noat_ok (x := Str.ofString "Reader") (f := Str.ofString "data") (He5.SaysA.fact c.a 116 rfl)
  n_spot := He.noat_ok (x := Str.ofString "Reader") (f := Str.ofString "spot") (He5.SaysA.fact c.a 117 rfl)
theorem row_of : RowB K mg (He.ga K (Str.ofString "Row")) where
  cls := He.cls_ok (x := Str.ofString "Row") (He5.SaysA.fact c.a 115 rfl)
  init := mkB_of (kws := []) (He5.SaysA.def_ c.a 68 rfl) (He.mkr_ok (x := Str.ofString "Row") (He5.SaysA.fact c.a 134 rfl)) (He.glo_ok X G (x := Str.ofString "Row") (He5.SaysA.fact c.a 73 rfl)) (fun _ _ _ _ _ _ us hl => match us, hl with | [_, _, _], _ => rfl)
  has_more := methB_of (kws := []) (He5.SaysA.def_ c.a 69 rfl) (He.meth_ok (x := Str.ofString "Row") (m := Str.ofString "has_more") (He5.SaysA.fact c.a 129 rfl)) (fun _ _ _ _ _ _ us hl => match us, hl with | [_], _ => rfl)
  next_word := methB_of (kws := []) (He5.SaysA.def_ c.a 70 rfl) (He.meth_ok (x := Str.ofString "Row") (m := Str.ofString "next_word") (He5.SaysA.fact c.a 130 rfl)) (fun _ _ _ _ _ _ us hl => match us, hl with | [_, _], _ => rfl)
  read_crates := methB_of (kws := []) (He5.SaysA.def_ c.a 71 rfl) (He.meth_ok (x := Str.ofString "Row") (m := Str.ofString "read_crates") (He5.SaysA.fact c.a 131 rfl)) (fun _ _ _ _ _ _ us hl => match us, hl with | [_], _ => rfl)
  n_number := He.noat_ok (x := Str.ofString "Row") (f := Str.ofString "number") (He5.SaysA.fact c.a 118 rfl)
  n_words := He.noat_ok (x := Str.ofString "Row") (f := Str.ofString "words") (He5.SaysA.fact c.a 119 rfl)
  n_spot := He.noat_ok (x := Str.ofString "Row") (f := Str.ofString "spot") (He5.SaysA.fact c.a 120 rfl)
theorem b_kit : ∀ (i : Nat) x, excT[i]? = some x → ∃ D, mg x = some (.ref D) ∧ PySem.W.kitOne K (.ref (He.ga K (Str.ofString "NoLayout"))) (.ref D) = some (decide (i = 9)) := fun i x hh => match i, hh with
  | 0, hh => by cases hh; exact ⟨_, He.glo_ok X G (x := Str.ofString "InvalidStore") (He5.SaysA.fact c.a 55 rfl), of_decide_eq_true (ex_at c.more (i := 39) rfl)⟩
  | 1, hh => by cases hh; exact ⟨_, He.glo_ok X G (x := Str.ofString "InvalidHands") (He5.SaysA.fact c.a 56 rfl), of_decide_eq_true (ex_at c.more (i := 40) rfl)⟩
  | 2, hh => by cases hh; exact ⟨_, He.glo_ok X G (x := Str.ofString "InvalidLog") (He5.SaysA.fact c.a 57 rfl), of_decide_eq_true (ex_at c.more (i := 41) rfl)⟩
  | 3, hh => by cases hh; exact ⟨_, He.glo_ok X G (x := Str.ofString "InvalidPairs") (He5.SaysA.fact c.a 58 rfl), of_decide_eq_true (ex_at c.more (i := 42) rfl)⟩
  | 4, hh => by cases hh; exact ⟨_, He.glo_ok X G (x := Str.ofString "UnknownPlace") (He5.SaysA.fact c.a 59 rfl), of_decide_eq_true (ex_at c.more (i := 43) rfl)⟩
  | 5, hh => by cases hh; exact ⟨_, He.glo_ok X G (x := Str.ofString "UnknownDoor") (He5.SaysA.fact c.a 60 rfl), of_decide_eq_true (ex_at c.more (i := 44) rfl)⟩
  | 6, hh => by cases hh; exact ⟨_, He.glo_ok X G (x := Str.ofString "UnknownCrate") (He5.SaysA.fact c.a 61 rfl), of_decide_eq_true (ex_at c.more (i := 45) rfl)⟩
  | 7, hh => by cases hh; exact ⟨_, He.glo_ok X G (x := Str.ofString "InvalidLayout") (He5.SaysA.fact c.a 62 rfl), of_decide_eq_true (ex_at c.more (i := 46) rfl)⟩
  | 8, hh => by cases hh; exact ⟨_, He.glo_ok X G (x := Str.ofString "InvalidDeed") (He5.SaysA.fact c.a 63 rfl), of_decide_eq_true (ex_at c.more (i := 47) rfl)⟩
  | 9, hh => by cases hh; exact ⟨_, He.glo_ok X G (x := Str.ofString "NoLayout") (He5.SaysA.fact c.a 64 rfl), of_decide_eq_true (ex_at c.more (i := 48) rfl)⟩
  | 10, hh => by cases hh; exact ⟨_, He.glo_ok X G (x := Str.ofString "InvalidRow") (He5.SaysA.fact c.a 65 rfl), of_decide_eq_true (ex_at c.more (i := 49) rfl)⟩
  | 11, hh => by cases hh; exact ⟨_, He.glo_ok X G (x := Str.ofString "TooMany") (He5.SaysA.fact c.a 66 rfl), of_decide_eq_true (ex_at c.more (i := 50) rfl)⟩
  | 12, hh => by cases hh; exact ⟨_, He.glo_ok X G (x := Str.ofString "InvalidNames") (He5.SaysA.fact c.a 67 rfl), of_decide_eq_true (ex_at c.more (i := 51) rfl)⟩
  | 13, hh => by cases hh; exact ⟨_, He.glo_ok X G (x := Str.ofString "InvalidHabits") (He5.SaysA.fact c.a 68 rfl), of_decide_eq_true (ex_at c.more (i := 52) rfl)⟩
  | 14, hh => by cases hh; exact ⟨_, He.glo_ok X G (x := Str.ofString "InvalidNumber") (He5.SaysA.fact c.a 69 rfl), of_decide_eq_true (ex_at c.more (i := 53) rfl)⟩
  | n + 15, hh => by cases (show none = some _ from hh)
theorem exc_of : ExcB K mg (He.ga K (Str.ofString "NoLayout")) (He.ga K (Str.ofString "StoreError")) := by
  obtain ⟨x1, x2, x3, x4⟩ := He.exc_ok (x := Str.ofString "NoLayout") (He5.SaysA.fact c.a 135 rfl)
  exact ⟨He.glo_ok X G (x := Str.ofString "NoLayout") (He5.SaysA.fact c.a 64 rfl), x2, x1, x3, x4, He.glo_ok X G (x := Str.ofString "StoreError") (He5.SaysA.fact c.a 70 rfl), He.exm_ok (x := Str.ofString "NoLayout") (y := Str.ofString "StoreError") (b := true) (He5.SaysA.fact c.a 136 rfl), ⟨He.eqO_ok (ex_at c.more (i := 33) rfl), He.eqO_ok (ex_at c.more (i := 34) rfl), of_decide_eq_true (ex_at c.more (i := 35) rfl), ex_at c.more (i := 36) rfl, He.eqO_ok (ex_at c.more (i := 37) rfl), He.eqO_ok (ex_at c.more (i := 5) rfl), of_decide_eq_true (ex_at c.more (i := 6) rfl), of_decide_eq_true (ex_at c.more (i := 38) rfl)⟩, b_kit X G c, of_decide_eq_true (ex_at c.more (i := 54) rfl)⟩
omit X G c in
/-- the code tables and the names in them -/
def tT (K : PySem.W.Frag) : List (Addr × Str) := [((He.cT K ((Str.ofString "law", none))).2, Str.ofString "law.<locals>.<lambda>"), ((He.cT K ((Str.ofString "parse_store", none))).2, Str.ofString "parse_store.<locals>.<lambda>"), ((He.cT K ((Str.ofString "Row", some (Str.ofString "read_crates")))).2, Str.ofString "Row.read_crates.<locals>.<lambda>")]
omit X G in
theorem lam_of {base : Heap} (hT : ∀ p ∈ tF.map (He.cT K), TabB base mg p.1 p.2) : LamAt base mg (tT K) (He.cT K ((Str.ofString "law", none))).1 (Str.ofString "law.<locals>.<lambda>") ∧ LamAt base mg (tT K) (He.cT K ((Str.ofString "parse_store", none))).1 (Str.ofString "parse_store.<locals>.<lambda>") ∧ LamAt base mg (tT K) (He.cT K ((Str.ofString "Row", some (Str.ofString "read_crates")))).1 (Str.ofString "Row.read_crates.<locals>.<lambda>") := by
  have d01 : ¬ (He.cT K ((Str.ofString "law", none))).2 = (He.cT K ((Str.ofString "parse_store", none))).2 := fun z => by have := ex_at c.more (i := 55) rfl; rw [decide_eq_true z] at this; cases this
  have d02 : ¬ (He.cT K ((Str.ofString "law", none))).2 = (He.cT K ((Str.ofString "Row", some (Str.ofString "read_crates")))).2 := fun z => by have := ex_at c.more (i := 56) rfl; rw [decide_eq_true z] at this; cases this
  have d12 : ¬ (He.cT K ((Str.ofString "parse_store", none))).2 = (He.cT K ((Str.ofString "Row", some (Str.ofString "read_crates")))).2 := fun z => by have := ex_at c.more (i := 57) rfl; rw [decide_eq_true z] at this; cases this
  refine ⟨⟨_, hT _ (List.mem_cons_self), List.mem_cons_self, ?_⟩, ⟨_, hT _ (List.mem_cons_of_mem _ List.mem_cons_self), List.mem_cons_of_mem _ List.mem_cons_self, ?_⟩, ⟨_, hT _ (List.mem_cons_of_mem _ (List.mem_cons_of_mem _ List.mem_cons_self)), List.mem_cons_of_mem _ (List.mem_cons_of_mem _ List.mem_cons_self), ?_⟩⟩
  all_goals
    intro p hp e
    rcases List.mem_cons.mp hp with rfl | hp
    · first | rfl | exact absurd e d01 | exact absurd e d02
    rcases List.mem_cons.mp hp with rfl | hp
    · first | rfl | exact absurd e.symm d01 | exact absurd e d12
    rcases List.mem_cons.mp hp with rfl | hp
    · first | rfl | exact absurd e.symm d02 | exact absurd e.symm d12
    cases hp
theorem law_at {w : World} {fa : Addr} (hfa : mg (Str.ofString "law") = some (.ref fa)) : LawAtS PySem.Challenge.rw_coldcrates_k74_whole_tables_texts_and_co w K CX0 19 63 "_law_script" mg fa h := by
  have e := hfa.symm.trans (He.glo_ok X G (x := Str.ofString "law") (He5.SaysA.fact c.a 54 rfl))
  cases e
  obtain ⟨fd, FK, FD⟩ := funK_of (x := Str.ofString "law") (qual := Str.ofString "law") (st := topS 104) (ps := [Str.ofString "_law_script"]) (kws := []) (p := (Str.ofString "law", none)) (He5.SaysA.def_ c.a 54 rfl) (fun _ _ _ _ _ _ us hl => match us, hl with | [_], _ => rfl)
  obtain ⟨fdp, FP, FDp⟩ := funK_of (x := Str.ofString "parse_store") (qual := Str.ofString "parse_store") (st := topS 85) (ps := [Str.ofString "text"]) (kws := []) (p := (Str.ofString "parse_store", none)) (He5.SaysA.def_ c.a 36 rfl) (fun _ _ _ _ _ _ us hl => match us, hl with | [_], _ => rfl)
  obtain ⟨fdr, FR, FDr⟩ := funK_of (x := Str.ofString "read_crates") (qual := Str.ofString "Row.read_crates") (st := inClass (topS 83) 4) (ps := [Str.ofString "self"]) (kws := []) (p := (Str.ofString "Row", some (Str.ofString "read_crates"))) (He5.SaysA.def_ c.a 71 rfl) (fun _ _ _ _ _ _ us hl => match us, hl with | [_], _ => rfl)
  have b := FunD.bindsA (ps := ["_law_script"]) FD (fun _ _ _ _ _ _ us hl => match us, hl with | [_], _ => rfl)
  have S := store_of X G c
  refine ⟨fd, tF.map (He.cT K), fun vs H Q _ => spLaw (tT K) K vs H Q, fun p hp => ?_, fun p hp => ?_, fun p hp => ?_, fun s u => b s [u] rfl, fun H a ns _ _ hE hS => ⟨a, ns, rfl, hS, fun p hp => ?_, fun _ => rfl⟩, fun base KB GB hT => ?_⟩
  · obtain ⟨p0, h0, rfl⟩ := List.mem_map.mp hp
    exact (c.tab p0 h0).2.2
  · obtain ⟨p0, h0, rfl⟩ := List.mem_map.mp hp
    exact (c.tab p0 h0).2.1
  · obtain ⟨p0, h0, rfl⟩ := List.mem_map.mp hp
    exact PySem.W.codeHd_of_K X (c.tab p0 h0).1
  · rcases List.mem_cons.mp hp with rfl | hp
    · exact TabS.nil (hE _ List.mem_cons_self)
    rcases List.mem_cons.mp hp with rfl | hp
    · exact TabS.nil (hE _ (List.mem_cons_of_mem _ List.mem_cons_self))
    rcases List.mem_cons.mp hp with rfl | hp
    · exact TabS.nil (hE _ (List.mem_cons_of_mem _ (List.mem_cons_of_mem _ List.mem_cons_self)))
    cases hp
  · obtain ⟨L0, L1, L2⟩ := lam_of c hT
    have B := base_of X G c
    have W := row_of X G c
    have RC := met_Row_read_crates (P := PySem.Challenge.rw_coldcrates_k74_whole_tables_texts_and_co.prog) (w := w) B W (He.meth_ok (x := Str.ofString "Row") (m := Str.ofString "read_crates") (He5.SaysA.fact c.a 131 rfl)) FR.c L2
    have cp := cal_parse_store B S W RC (He.glo_ok X G (x := Str.ofString "parse_store") (He5.SaysA.fact c.a 36 rfl)) FDp.kp FP.c L1
    exact fn_law B S (reader_of X G c) (exc_of X G c) S.isi.cm cp FK L0
end
end CC

/-! text H3 -/
set_option maxHeartbeats 8000000
open PySem PySem.W PySem.Calls PyProof.Rows
theorem PySem.Challenge.cw_coldcrates_k74_whole_tables_texts_and_co_holds : PySem.Challenge.rw_coldcrates_k74_whole_tables_texts_and_co.Holds := by
  w_on; o_law
  refine HandSHeadRun.head_any (r := CCH.RR) (q := CCH.qV) (H := CCH.hK) (ob := CCH.oB) (M := 60000) (loose := CCH.nms) (d := HandSHeadRun.topDef CCH.RR.prog 104) (kwd := []) CCH.oB_eq
    (by kernel_rfl) (fun s => by kernel_rfl) CCH.run (by kernel_rfl) (by kernel_rfl) (by kernel_rfl) (by rfl) (by first | assumption | decide +kernel) (by decide +kernel) ⟨rfl, rfl, rfl, rfl, rfl, by decide +kernel⟩ ?hw ?hc
  case hw => w_witness2
  case hc =>
    refine LamX.walk_ofTsE (l := PySem.Challenge.rw_coldcrates_k74_whole_tables_texts_and_co) (n := 63) (k := 19) (x := "_law_script") (CX := fun _ => L2.CX0) rfl (by decide) (by kernel_rfl) ⟨rfl, by decide, by decide⟩ ?F (fun _ _ _ _ _ z => z)
    intro w mg fa h Y G hmg0
    obtain ⟨K, KX, c⟩ := Y
    have hmg : mg (Str.ofString "law") = some (.ref fa) := by
      have e : (HandSHeadRun.topDef CCH.RR.prog 104).name = Str.ofString "law" := by kernel_rfl
      rw [← e]
      exact hmg0
    exact ⟨K, KX, CC.law_at KX G c hmg⟩

