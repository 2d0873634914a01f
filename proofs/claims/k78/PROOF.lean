import PyProof.Rows.All
import Wide.All
import OpenK.AllK
import Wide.FinOn
import KE.KStateDown
import HandS.ForMost
import HandS.Exc
import HandS.EndTab
import HandS.Defaults
import HandS.Head0
import HandS.Head1
import HandS.Head2
import HandS.HeadEnd
import HandS.HeadHook4
import HandS.HeadWalk
import PySem.Challenge.RW_pagesofproofs_k78_whole_each_sign_once
import HandS.Walk
import HandS.IsInst
import HandS.Conv
import HandS.Codes
import HandS.Steps
import PyProof.Rows.SortShellAny
import PyProof.CollectStr
import HandS.Replace
set_option Elab.async false
set_option linter.all false
set_option maxRecDepth 100000
set_option maxHeartbeats 4000000
/-! a look at what the top left: defs by their text, any Bool of the written part, code tables that are empty yet -/
namespace HQ
open PySem PySem.Spec PyProof.Rows L2 He
/-- the module's names, what they reach in n steps, the machine's own notes -/
def asQ (g : Addr → Option Obj) (n : Nat) : List Addr := cStatics :: asD g n
def kQ (g : Addr → Option Obj) (n : Nat) : PySem.W.Frag := frT g (asQ g n)
structure Says (fn : List DefD) (tf : List Defn) (ex : PySem.W.Frag → Bool) (h : Heap) (K : PySem.W.Frag) : Prop where
  defs : SaysD [] fn K
  more : ex K = true
  hd : ∀ p ∈ tf, PySem.W.codeHdIn K (cT K p).1 (cT K p).2 = true
  out : ∀ p ∈ tf, K.lookup (cT K p).2 = none
  empty : ∀ p ∈ tf, h.get? (cT K p).2 = some { cls := .none, data := .fields #[] }
abbrev Al : Type := AlD × Bool
def obsQ (n : Nat) (fn : List DefD) (tf : List Defn) (ex : PySem.W.Frag → Bool) (g : Addr → Option Obj) : Al := (obsD [] fn (kQ g n), ex (kQ g n) && tabsB g tf (kQ g n))
theorem says_of {n : Nat} {fn : List DefD} {tf : List Defn} {ex : PySem.W.Frag → Bool} {h : Heap} (e : obsQ n fn tf ex h.get? = (valD fn, true)) : Says fn tf ex h (kQ h.get? n) := by
  have e1 : obsD [] fn (kQ h.get? n) = valD fn := congrArg Prod.fst e
  have e2 : (ex (kQ h.get? n) && tabsB h.get? tf (kQ h.get? n)) = true := congrArg Prod.snd e
  obtain ⟨h1, h2⟩ := ba e2
  have key : ∀ p ∈ tf, PySem.W.codeHdIn (kQ h.get? n) (cT (kQ h.get? n) p).1 (cT (kQ h.get? n) p).2 = true ∧ ∃ o, h.get? (cT (kQ h.get? n) p).2 = some o ∧ emptyTab o = true := fun p hp => by
    obtain ⟨h3, h4⟩ := ba (List.all_eq_true.mp h2 p hp)
    cases q : h.get? (cT (kQ h.get? n) p).2 with
    | none => rw [q] at h4; cases h4
    | some o => rw [q] at h4; exact ⟨h3, o, rfl, h4⟩
  refine ⟨e1, h1, fun p hp => (key p hp).1, fun p hp => ?_, fun p hp => ?_⟩
  · obtain ⟨_, o, q, z⟩ := key p hp
    exact frT_none q z
  · obtain ⟨_, o, q, z⟩ := key p hp
    rw [q, emptyTab_eq z]
def hook (n : Nat) (fn : List DefD) (tf : List Defn) (ex : PySem.W.Frag → Bool) : PySem.W.Hook where
  α := Al
  obs := fun s => obsQ n fn tf ex s.heap.get?
  val := fun _ => (valD fn, true)
  says := fun _ h => ∃ K : PySem.W.Frag, K.In h ∧ Says fn tf ex h K
  of := fun _ _ e => ⟨_, frT_in, says_of e⟩
  keeps := fun _ _ _ ⟨K, hK, c⟩ k => ⟨K, PySem.W.Frag.In.keeps hK k, ⟨c.defs, c.more, c.hd, c.out, fun p hp => k _ _ (c.empty p hp)⟩⟩
theorem obsQ_eq {n : Nat} {fn : List DefD} {tf : List Defn} {ex : PySem.W.Frag → Bool} {g : Addr → Option Obj} {s : Shared} (h : ∀ a, g a = s.heap.get? a) : obsQ n fn tf ex g = (hook n fn tf ex).obs s := by
  have e : g = s.heap.get? := funext h
  rw [e] <;> rfl
end HQ
set_option Elab.async false
set_option linter.all false
set_option maxRecDepth 100000
set_option maxHeartbeats 0
namespace K78
open PySem PySem.Spec PyProof.Rows L2
def top (i : Nat) : Stmt := PySem.Challenge.pw_pagesofproofs_k78_whole_each_sign_once.main.body.getD i (.Pass ⟨0, 0, 0, 0⟩)
abbrev s_is_number : Stmt := top 7
def d_is_number : He.DefD := ⟨("is_number", none), "is_number", "is_number", defArgs s_is_number, defBody s_is_number, defScope s_is_number, [], []⟩
abbrev s_is_part : Stmt := top 8
def d_is_part : He.DefD := ⟨("is_part", none), "is_part", "is_part", defArgs s_is_part, defBody s_is_part, defScope s_is_part, [], []⟩
abbrev s_is_change : Stmt := top 9
def d_is_change : He.DefD := ⟨("is_change", none), "is_change", "is_change", defArgs s_is_change, defBody s_is_change, defScope s_is_change, [], []⟩
abbrev s_wanted : Stmt := top 10
def d_wanted : He.DefD := ⟨("wanted", none), "wanted", "wanted", defArgs s_wanted, defBody s_wanted, defScope s_wanted, [], []⟩
abbrev s_makes : Stmt := top 11
def d_makes : He.DefD := ⟨("makes", none), "makes", "makes", defArgs s_makes, defBody s_makes, defScope s_makes, [], []⟩
abbrev s_spelt : Stmt := top 12
def d_spelt : He.DefD := ⟨("spelt", none), "spelt", "spelt", defArgs s_spelt, defBody s_spelt, defScope s_spelt, [], []⟩
abbrev s_grown : Stmt := top 13
def d_grown : He.DefD := ⟨("grown", none), "grown", "grown", defArgs s_grown, defBody s_grown, defScope s_grown, [], []⟩
abbrev s_change_by : Stmt := top 14
def d_change_by : He.DefD := ⟨("change_by", none), "change_by", "change_by", defArgs s_change_by, defBody s_change_by, defScope s_change_by, [], []⟩
abbrev s_changed : Stmt := top 15
def d_changed : He.DefD := ⟨("changed", none), "changed", "changed", defArgs s_changed, defBody s_changed, defScope s_changed, [], []⟩
abbrev s_plain : Stmt := top 16
def d_plain : He.DefD := ⟨("plain", none), "plain", "plain", defArgs s_plain, defBody s_plain, defScope s_plain, [], [("gone", .int 0), ("come", .str "")]⟩
abbrev s_made_of : Stmt := top 17
def d_made_of : He.DefD := ⟨("made_of", none), "made_of", "made_of", defArgs s_made_of, defBody s_made_of, defScope s_made_of, [], []⟩
abbrev s_behind : Stmt := top 18
def d_behind : He.DefD := ⟨("behind", none), "behind", "behind", defArgs s_behind, defBody s_behind, defScope s_behind, [], []⟩
abbrev s_led : Stmt := top 19
def d_led : He.DefD := ⟨("led", none), "led", "led", defArgs s_led, defBody s_led, defScope s_led, [], []⟩
abbrev s_beside : Stmt := top 20
def d_beside : He.DefD := ⟨("beside", none), "beside", "beside", defArgs s_beside, defBody s_beside, defScope s_beside, [], []⟩
abbrev s_moved : Stmt := top 21
def d_moved : He.DefD := ⟨("moved", none), "moved", "moved", defArgs s_moved, defBody s_moved, defScope s_moved, [], [("late", .bl false)]⟩
abbrev s_is_name : Stmt := top 26
def d_is_name : He.DefD := ⟨("is_name", none), "is_name", "is_name", defArgs s_is_name, defBody s_is_name, defScope s_is_name, [], []⟩
abbrev s_change_of_nothing : Stmt := top 28
def d_change_of_nothing : He.DefD := ⟨("change_of_nothing", none), "change_of_nothing", "change_of_nothing", defArgs s_change_of_nothing, defBody s_change_of_nothing, defScope s_change_of_nothing, [], []⟩
abbrev s__law_pool : Stmt := top 32
def d__law_pool : He.DefD := ⟨("_law_pool", none), "_law_pool", "_law_pool", defArgs s__law_pool, defBody s__law_pool, defScope s__law_pool, [], []⟩
abbrev s__law_take : Stmt := top 33
def d__law_take : He.DefD := ⟨("_law_take", none), "_law_take", "_law_take", defArgs s__law_take, defBody s__law_take, defScope s__law_take, [], []⟩
abbrev s__law_one : Stmt := top 34
def d__law_one : He.DefD := ⟨("_law_one", none), "_law_one", "_law_one", defArgs s__law_one, defBody s__law_one, defScope s__law_one, [], []⟩
abbrev s__law_write : Stmt := top 35
def d__law_write : He.DefD := ⟨("_law_write", none), "_law_write", "_law_write", defArgs s__law_write, defBody s__law_write, defScope s__law_write, [], []⟩
abbrev s__law_in_order : Stmt := top 36
def d__law_in_order : He.DefD := ⟨("_law_in_order", none), "_law_in_order", "_law_in_order", defArgs s__law_in_order, defBody s__law_in_order, defScope s__law_in_order, [], []⟩
abbrev s_law : Stmt := top 37
def d_law : He.DefD := ⟨("law", none), "law", "law", defArgs s_law, defBody s_law, defScope s_law, [], []⟩
abbrev s_Hub_init : Stmt := inClass (top 29) 0
def d_Hub_init : He.DefD := ⟨("Hub", some "__init__"), "__init__", "Hub.__init__", defArgs s_Hub_init, defBody s_Hub_init, defScope s_Hub_init, [.str ""], []⟩
abbrev s_Hub_len : Stmt := inClass (top 29) 1
def d_Hub_len : He.DefD := ⟨("Hub", some "__len__"), "__len__", "Hub.__len__", defArgs s_Hub_len, defBody s_Hub_len, defScope s_Hub_len, [], []⟩
abbrev s_Hub_text : Stmt := inClass (top 29) 2
def d_Hub_text : He.DefD := ⟨("Hub", some "text"), "text", "Hub.text", defArgs s_Hub_text, defBody s_Hub_text, defScope s_Hub_text, [], []⟩
abbrev s_Hub_changes : Stmt := inClass (top 29) 3
def d_Hub_changes : He.DefD := ⟨("Hub", some "changes"), "changes", "Hub.changes", defArgs s_Hub_changes, defBody s_Hub_changes, defScope s_Hub_changes, [], []⟩
abbrev s_Hub_take : Stmt := inClass (top 29) 4
def d_Hub_take : He.DefD := ⟨("Hub", some "take"), "take", "Hub.take", defArgs s_Hub_take, defBody s_Hub_take, defScope s_Hub_take, [], []⟩
abbrev s_Person_init : Stmt := inClass (top 30) 0
def d_Person_init : He.DefD := ⟨("Person", some "__init__"), "__init__", "Person.__init__", defArgs s_Person_init, defBody s_Person_init, defScope s_Person_init, [], [("late", .bl false)]⟩
abbrev s_Person_text : Stmt := inClass (top 30) 1
def d_Person_text : He.DefD := ⟨("Person", some "text"), "text", "Person.text", defArgs s_Person_text, defBody s_Person_text, defScope s_Person_text, [], []⟩
abbrev s_Person_turn : Stmt := inClass (top 30) 6
def d_Person_turn : He.DefD := ⟨("Person", some "turn"), "turn", "Person.turn", defArgs s_Person_turn, defBody s_Person_turn, defScope s_Person_turn, [], []⟩
abbrev s_Person_write : Stmt := inClass (top 30) 7
def d_Person_write : He.DefD := ⟨("Person", some "write"), "write", "Person.write", defArgs s_Person_write, defBody s_Person_write, defScope s_Person_write, [], []⟩
abbrev s_Person_hear : Stmt := inClass (top 30) 8
def d_Person_hear : He.DefD := ⟨("Person", some "hear"), "hear", "Person.hear", defArgs s_Person_hear, defBody s_Person_hear, defScope s_Person_hear, [], []⟩
abbrev s_Person_send : Stmt := inClass (top 30) 9
def d_Person_send : He.DefD := ⟨("Person", some "send"), "send", "Person.send", defArgs s_Person_send, defBody s_Person_send, defScope s_Person_send, [], []⟩
def fn : List He.DefD := [d_is_number, d_is_part, d_is_change, d_wanted, d_makes, d_spelt, d_grown, d_change_by, d_changed, d_plain, d_made_of, d_behind, d_led, d_beside, d_moved, d_is_name, d_change_of_nothing, d__law_pool, d__law_take, d__law_one, d__law_write, d__law_in_order, d_law, d_Hub_init, d_Hub_len, d_Hub_text, d_Hub_changes, d_Hub_take, d_Person_init, d_Person_text, d_Person_turn, d_Person_write, d_Person_hear, d_Person_send]
def fa : List He.Fa := ([.glo "is_number", .glo "is_part", .glo "is_change", .glo "wanted", .glo "makes", .glo "spelt", .glo "grown", .glo "change_by", .glo "changed", .glo "plain", .glo "made_of", .glo "behind", .glo "led", .glo "beside", .glo "moved", .glo "is_name", .glo "change_of_nothing", .glo "_law_pool", .glo "_law_take", .glo "_law_one"] : List He.Fa) ++ ([.glo "_law_write", .glo "_law_in_order", .glo "law", .glo "Hub", .glo "Person", .glo "WORDS", .glo "PIECE_WORDS", .str "SMALL" "abcdefghijklmnopqrstuvwxyz", .int "MOST_NAME" 8, .free "abs", .free "all", .free "any", .free "bool", .free "int", .free "isinstance", .free "len", .free "list", .free "max", .free "min", .free "range"] : List He.Fa) ++ ([.free "sorted", .free "str", .free "sum", .free "tuple", .free "zip", .cls "Hub", .mkr "Hub", .noat "Hub" "own_text", .noat "Hub" "own_changes", .meth "Hub" "__len__", .meth "Hub" "text", .meth "Hub" "changes", .meth "Hub" "take", .cls "Person", .mkr "Person", .noat "Person" "own_hub", .noat "Person" "own_name", .noat "Person" "own_late", .noat "Person" "own_text", .noat "Person" "own_heard"] : List He.Fa) ++ ([.noat "Person" "unsent", .noat "Person" "own_place", .meth "Person" "text", .meth "Person" "turn", .meth "Person" "write", .meth "Person" "hear", .meth "Person" "send"] : List He.Fa)
def words : List He.Dv := [.str "keep", .str "drop", .str "put"]
def pieceWords : List He.Dv := [.str "atom", .str "word", .str "base", .str "claim", .str "show", .str "take", .str "from", .str "have", .str "last", .str "skip", .str "qed", .str "section", .str "suppose", .str "close", .str "lean", .str "hide", .str "call"]
def ex (K : PySem.W.Frag) : Bool := (fa.all fun f => f.ok K) && He.tupB K "WORDS" words && He.tupB K "PIECE_WORDS" pieceWords
abbrev R : PySem.W.OpenRow := PySem.W.OpenLaw.row PySem.Challenge.rw_pagesofproofs_k78_whole_each_sign_once
abbrev hk : PySem.W.Hook := HQ.hook 6 fn [] ex
def ob (s : PySem.W.SharedT) : HQ.Al := HQ.obsQ 6 fn [] ex (HandSHeadRun.getT s)
theorem ob_eq (s : PySem.W.SharedT) : ob s = hk.obs s.abs := HQ.obsQ_eq (HandSHeadRun.getT_eq s)
def loose : List Str := (["__name__", "PageError", "NoFit", "NoPlace", "NoName", "is_number", "is_part", "is_change", "wanted", "makes", "spelt", "grown", "change_by", "changed", "plain", "made_of", "behind", "led", "beside", "moved"] : List Str) ++ (["is_name", "change_of_nothing", "Hub", "Person", "_law_pool", "_law_take", "_law_one", "_law_write", "_law_in_order", "WORDS", "PIECE_WORDS", "SMALL", "MOST_NAME"] : List Str)
theorem run (w : World) : HandSHeadRun.RunEq R (PySem.W.view R.prog [37]) hk ob 6000 loose w := by
  intro os
  kernel_rfl
end K78
set_option Elab.async false
set_option linter.all false
set_option maxRecDepth 100000
set_option maxHeartbeats 4000000
namespace K78
open PySem PySem.Spec PyProof.Rows L2
/-- what is known of the written part and of the module's names -/
structure Tx (K : PySem.W.Frag) (mg : Str → Option Value) : Prop where
  at_ : ∃ h : Heap, K.In h ∧ h.Ns mainGlobals mg
  e : ex K = true
section
variable {K : PySem.W.Frag} {mg : Str → Option Value}
theorem Tx.fs (T : Tx K mg) : (fa.all fun f => f.ok K) = true ∧ He.tupB K "WORDS" words = true ∧ He.tupB K "PIECE_WORDS" pieceWords = true := by
  obtain ⟨h1, h2⟩ := He.ba T.e
  obtain ⟨h3, h4⟩ := He.ba h1
  exact ⟨h3, h4, h2⟩
theorem Tx.fact (T : Tx K mg) (i : Nat) {f : He.Fa} (h : fa[i]? = some f) : f.ok K = true := List.all_eq_true.mp T.fs.1 f (List.mem_of_getElem? h)
def gloIn (x : Str) : Bool := fa.any fun f => match f with
  | .glo y => decide (y = x)
  | _ => false
def freeIn (x : Str) : Bool := fa.any fun f => match f with
  | .free y => decide (y = x)
  | _ => false
theorem Tx.glo (T : Tx K mg) {x : Str} (h : gloIn x = true := by decide +kernel) : mg x = some (.ref (He.ga K x)) := by
  obtain ⟨hp, X, G⟩ := T.at_
  obtain ⟨f, hf, e⟩ := List.any_eq_true.mp h
  have c := List.all_eq_true.mp T.fs.1 f hf
  cases f with
  | glo y =>
    have ey : y = x := of_decide_eq_true e
    subst ey
    exact He.glo_ok X G c
  | _ => cases e
theorem Tx.free (T : Tx K mg) {x : Str} (h : freeIn x = true := by decide +kernel) : mg x = none := by
  obtain ⟨hp, X, G⟩ := T.at_
  obtain ⟨f, hf, e⟩ := List.any_eq_true.mp h
  have c := List.all_eq_true.mp T.fs.1 f hf
  cases f with
  | free y =>
    have ey : y = x := of_decide_eq_true e
    subst ey
    exact He.free_ok X G c
  | _ => cases e
theorem Tx.words (T : Tx K mg) (H : Hp) : SqT K H (He.ga K "WORDS") (words.map (He.Dv.v K)) := He.tupB_ok T.fs.2.1 H
theorem Tx.pieceWords (T : Tx K mg) (H : Hp) : SqT K H (He.ga K "PIECE_WORDS") (pieceWords.map (He.Dv.v K)) := He.tupB_ok T.fs.2.2 H
theorem Tx.s_SMALL (T : Tx K mg) : ∃ t, mg "SMALL" = some (.str "abcdefghijklmnopqrstuvwxyz" t) := by
  obtain ⟨hp, X, G⟩ := T.at_
  exact He.str_ok X G (T.fact 27 rfl)
theorem Tx.i_MOST_NAME (T : Tx K mg) : ∃ t, mg "MOST_NAME" = some (.int 8 t) := by
  obtain ⟨hp, X, G⟩ := T.at_
  exact He.int_ok X G (T.fact 28 rfl)
theorem Tx.c_Hub (T : Tx K mg) : Cls K (He.ga K "Hub") := He.cls_ok (T.fact 45 rfl)
theorem Tx.mk_Hub (T : Tx K mg) : Mk K (He.ga K "Hub") (He.ma K (He.ga K "Hub") "__init__") := He.mkr_ok (T.fact 46 rfl)
theorem Tx.n_Hub_own_text (T : Tx K mg) : NoAttr K (He.ga K "Hub") "own_text" := He.noat_ok (T.fact 47 rfl)
theorem Tx.n_Hub_own_changes (T : Tx K mg) : NoAttr K (He.ga K "Hub") "own_changes" := He.noat_ok (T.fact 48 rfl)
theorem Tx.m_Hub_len (T : Tx K mg) : Meth K (He.ga K "Hub") "__len__" (He.ma K (He.ga K "Hub") "__len__") := He.meth_ok (T.fact 49 rfl)
theorem Tx.m_Hub_text (T : Tx K mg) : Meth K (He.ga K "Hub") "text" (He.ma K (He.ga K "Hub") "text") := He.meth_ok (T.fact 50 rfl)
theorem Tx.m_Hub_changes (T : Tx K mg) : Meth K (He.ga K "Hub") "changes" (He.ma K (He.ga K "Hub") "changes") := He.meth_ok (T.fact 51 rfl)
theorem Tx.m_Hub_take (T : Tx K mg) : Meth K (He.ga K "Hub") "take" (He.ma K (He.ga K "Hub") "take") := He.meth_ok (T.fact 52 rfl)
theorem Tx.c_Person (T : Tx K mg) : Cls K (He.ga K "Person") := He.cls_ok (T.fact 53 rfl)
theorem Tx.mk_Person (T : Tx K mg) : Mk K (He.ga K "Person") (He.ma K (He.ga K "Person") "__init__") := He.mkr_ok (T.fact 54 rfl)
theorem Tx.n_Person_own_hub (T : Tx K mg) : NoAttr K (He.ga K "Person") "own_hub" := He.noat_ok (T.fact 55 rfl)
theorem Tx.n_Person_own_name (T : Tx K mg) : NoAttr K (He.ga K "Person") "own_name" := He.noat_ok (T.fact 56 rfl)
theorem Tx.n_Person_own_late (T : Tx K mg) : NoAttr K (He.ga K "Person") "own_late" := He.noat_ok (T.fact 57 rfl)
theorem Tx.n_Person_own_text (T : Tx K mg) : NoAttr K (He.ga K "Person") "own_text" := He.noat_ok (T.fact 58 rfl)
theorem Tx.n_Person_own_heard (T : Tx K mg) : NoAttr K (He.ga K "Person") "own_heard" := He.noat_ok (T.fact 59 rfl)
theorem Tx.n_Person_unsent (T : Tx K mg) : NoAttr K (He.ga K "Person") "unsent" := He.noat_ok (T.fact 60 rfl)
theorem Tx.n_Person_own_place (T : Tx K mg) : NoAttr K (He.ga K "Person") "own_place" := He.noat_ok (T.fact 61 rfl)
theorem Tx.m_Person_text (T : Tx K mg) : Meth K (He.ga K "Person") "text" (He.ma K (He.ga K "Person") "text") := He.meth_ok (T.fact 62 rfl)
theorem Tx.m_Person_turn (T : Tx K mg) : Meth K (He.ga K "Person") "turn" (He.ma K (He.ga K "Person") "turn") := He.meth_ok (T.fact 63 rfl)
theorem Tx.m_Person_write (T : Tx K mg) : Meth K (He.ga K "Person") "write" (He.ma K (He.ga K "Person") "write") := He.meth_ok (T.fact 64 rfl)
theorem Tx.m_Person_hear (T : Tx K mg) : Meth K (He.ga K "Person") "hear" (He.ma K (He.ga K "Person") "hear") := He.meth_ok (T.fact 65 rfl)
theorem Tx.m_Person_send (T : Tx K mg) : Meth K (He.ga K "Person") "send" (He.ma K (He.ga K "Person") "send") := He.meth_ok (T.fact 66 rfl)
end
abbrev FnP (K : PySem.W.Frag) (d : He.DefD) (fd : FuncData) : Prop := FunD K d.name d.qual d.params d.body d.scope (d.dvs K) (d.kws K) (He.fAd K d.at_) fd
end K78
set_option Elab.async false
set_option linter.all false
set_option maxRecDepth 100000
set_option maxHeartbeats 4000000
namespace K78
open PySem PySem.Spec PyProof.Rows L2 SX
/-! ### heaps: what stays -/
/-- all that was there stays -/
def Keeps (H H' : Hp) : Prop := ∀ b o, H b = some o → H' b = some o
theorem Keeps.refl (H : Hp) : Keeps H H := fun _ _ e => e
theorem Keeps.trans {H H1 H2 : Hp} (a : Keeps H H1) (b : Keeps H1 H2) : Keeps H H2 := fun c o e => b c o (a c o e)
theorem keeps_new {H : Hp} {p : Addr} {o : HO} (n : H p = none) : Keeps H (upd H p o) := fun b u e => by
  rw [upd_ne (ne_of_none e n)]
  exact e
theorem Keeps.new {H H1 : Hp} {p : Addr} {o : HO} (k : Keeps H H1) (n : H1 p = none) : Keeps H (upd H1 p o) := k.trans (keeps_new n)
/-- an object that is not of the elder heap is written -/
theorem Keeps.set {H H1 : Hp} {p : Addr} {o : HO} (k : Keeps H H1) (n : H p = none) : Keeps H (upd H1 p o) := fun b u e => by
  rw [upd_ne (ne_of_none e n)]
  exact k b u e
theorem Keeps.free {H H1 : Hp} {p : Addr} (k : Keeps H H1) (n : H1 p = none) : H p = none := by
  cases e : H p with
  | none => rfl
  | some o => rw [k p o e] at n; cases n
/-- an object that may change -/
def mutO : HO → Bool
  | .lst _ => true
  | .dK _ => true
  | .ins _ _ _ => true
  | _ => false
/-- all that can't change stays -/
def Im (H H' : Hp) : Prop := ∀ b o, H b = some o → mutO o = false → H' b = some o
theorem Keeps.im {H H' : Hp} (k : Keeps H H') : Im H H' := fun b o e _ => k b o e
theorem Im.refl (H : Hp) : Im H H := fun _ _ e _ => e
theorem Im.trans {H H1 H2 : Hp} (a : Im H H1) (b : Im H1 H2) : Im H H2 := fun c o e m => b c o (a c o e m) m
theorem im_set {H : Hp} {p : Addr} {u o : HO} (h : H p = some u) (m : mutO u = true) : Im H (upd H p o) := fun b v e n => by
  have z : b ≠ p := fun z => by
    rw [z, h] at e
    cases e
    rw [m] at n
    cases n
  rw [upd_ne z]
  exact e
theorem Im.set {H H1 : Hp} {p : Addr} {u o : HO} (i : Im H H1) (h : H1 p = some u) (m : mutO u = true) : Im H (upd H1 p o) := i.trans (im_set h m)
theorem Im.new {H H1 : Hp} {p : Addr} {o : HO} (i : Im H H1) (n : H1 p = none) : Im H (upd H1 p o) := i.trans (keeps_new n).im
theorem sqT_im {K : PySem.W.Frag} {H H' : Hp} {a : Addr} {xs : List V} (i : Im H H') (h : SqT K H a xs) : SqT K H' a xs := by
  rcases h with (h | ⟨o, h⟩) | h
  · exact .inl (.inl (i _ _ h rfl))
  · exact .inl (.inr ⟨o, i _ _ h rfl⟩)
  · exact .inr h
theorem sqL_keeps {K : PySem.W.Frag} {H H' : Hp} {a : Addr} {xs : List V} (i : Keeps H H') (h : SqL K H a xs) : SqL K H' a xs := by
  rcases h with (h | ⟨o, h⟩) | h
  · exact .inl (.inl (i _ _ h))
  · exact .inl (.inr ⟨o, i _ _ h⟩)
  · exact .inr h
/-! ### changes as data -/
inductive Pt where
  | keep (n : Nat) | drop (n : Nat) | put (s : List Nat)
deriving DecidableEq
def Pt.w : Pt → Str
  | .keep _ => "keep"
  | .drop _ => "drop"
  | .put _ => "put"
def Pt.v : Pt → V
  | .keep n => .int n
  | .drop n => .int n
  | .put s => .str (S s)
def Pt.size : Pt → Nat
  | .keep n => n
  | .drop n => n
  | .put s => s.length
abbrev Ch := List Pt
def PtAt (K : PySem.W.Frag) (H : Hp) (t : V) (p : Pt) : Prop := ∃ b, t = .ref b ∧ SqT K H b [.str p.w, p.v]
inductive PtsAt (K : PySem.W.Frag) (H : Hp) : List V → Ch → Prop where
  | nil : PtsAt K H [] []
  | cons {t : V} {p : Pt} {ts : List V} {c : Ch} : PtAt K H t p → PtsAt K H ts c → PtsAt K H (t :: ts) (p :: c)
def ChAt (K : PySem.W.Frag) (H : Hp) (v : V) (c : Ch) : Prop := ∃ a ts, v = .ref a ∧ SqT K H a ts ∧ PtsAt K H ts c
section
variable {K : PySem.W.Frag} {H H' : Hp}
theorem PtAt.im {t : V} {p : Pt} (h : PtAt K H t p) (i : Im H H') : PtAt K H' t p := by
  obtain ⟨b, e, h⟩ := h
  exact ⟨b, e, sqT_im i h⟩
theorem PtsAt.im {ts : List V} {c : Ch} (h : PtsAt K H ts c) (i : Im H H') : PtsAt K H' ts c := by
  induction h with
  | nil => exact .nil
  | cons h _ ih => exact .cons (h.im i) ih
theorem ChAt.im {v : V} {c : Ch} (h : ChAt K H v c) (i : Im H H') : ChAt K H' v c := by
  obtain ⟨a, ts, e, h1, h2⟩ := h
  exact ⟨a, ts, e, sqT_im i h1, h2.im i⟩
theorem PtsAt.length {ts : List V} {c : Ch} (h : PtsAt K H ts c) : ts.length = c.length := by
  induction h with
  | nil => rfl
  | cons _ _ ih => exact congrArg Nat.succ ih
theorem PtsAt.get {ts : List V} {c : Ch} (h : PtsAt K H ts c) : ∀ {i : Nat} {t : V}, ts[i]? = some t → ∃ p, c[i]? = some p ∧ PtAt K H t p := by
  induction h with
  | nil => intro i t e; cases e
  | cons h _ ih =>
    intro i t e
    cases i with
    | zero => cases e; exact ⟨_, rfl, h⟩
    | succ i => exact ih e
theorem PtsAt.append {ts us : List V} {c d : Ch} (h : PtsAt K H ts c) (g : PtsAt K H us d) : PtsAt K H (ts ++ us) (c ++ d) := by
  induction h with
  | nil => exact g
  | cons h _ ih => exact .cons h ih
end
/-! ### sums -/
def Pt.want : Pt → Nat
  | .keep n => n
  | .drop n => n
  | .put _ => 0
def Pt.make : Pt → Nat
  | .keep n => n
  | .drop _ => 0
  | .put s => s.length
def wanted (c : Ch) : Nat := (c.map Pt.want).sum
def makes (c : Ch) : Nat := (c.map Pt.make).sum
/-- the whole is small -/
def Sm (c : Ch) : Prop := c.length ≤ 4000 ∧ (c.map Pt.size).sum ≤ 4000 ∧ ∀ s, Pt.put s ∈ c → ∀ n ∈ s, n < 128
/-! ### a def of the text by its number -/
theorem tk (c : Ch) (i : Nat) {p : Pt} (h : c[i]? = some p) : c.take (i + 1) = c.take i ++ [p] := by
  rw [List.take_succ, h]
  rfl
end K78
set_option Elab.async false
set_option linter.all false
set_option maxRecDepth 100000
set_option maxHeartbeats 4000000
namespace K78
open PySem PySem.Spec PyProof.Rows L2 SX
section
variable {P : Program} {w : World} {K : PySem.W.Frag} {mg : Str → Option Value} {base : Heap} {fd : FuncData}
def sc_is_numberN : List Str := ["thing", "least"]
theorem sc_is_number : FnScope sc_is_numberN ["thing", "least"] (defScope s_is_number) := ⟨rfl, rfl, rfl, by decide +kernel, rfl, by decide +kernel, by decide +kernel⟩
/-- of a whole number -/
def sp_is_number : Sp := fun vs H Q _ => ∃ a b : Int, vs = [.int a, .int b] ∧ Q (.bl (decide (b ≤ a))) H
theorem ok_is_number (F : FnP K d_is_number fd) (T : Tx K mg) : FnOk P w K mg base CX0 1 (He.fAd K d_is_number.at_) fd ["thing", "least"] (sp_is_number) := by
  refine F.ok sc_is_number (fun vs H Q E h => ?_) (fun cdv A outer s H vs Q E hr h => ?_)
  · obtain ⟨a, b, rfl, q⟩ := h
    rfl
  · obtain ⟨a, b, rfl, q⟩ := h
    refine ⟨_, PSs.nox (pss_one (ps_ret (pe_and (pe_callB call_isi (by rfl) T.free (by decide +kernel) (pa_cons (pv 0) (pa_cons (pe_bltn (v := .ty "int") (by rfl) T.free (by decide +kernel) rfl) pa_nil))) (pe_and (pe_not (pe_callB call_isi (by rfl) T.free (by decide +kernel) (pa_cons (pv 0) (pa_cons (pe_bltn (v := .ty "bool") (by rfl) T.free (by decide +kernel) rfl) pa_nil)))) (pe_one (pe_cmpR op_ge (pv 0) (pv 1) (nomark _))))))), ?_⟩
    refine ⟨_, rfl, _, _, _, _, true, rfl, .ty _, .base (.int a), kit_ty (by decide +kernel), _, rfl, iteT ?_⟩
    refine ⟨_, rfl, _, _, _, _, false, rfl, .ty _, .base (.int a), kit_ty (by decide +kernel), _, rfl, _, rfl, iteT ?_⟩
    exact ⟨_, rfl, _, rfl, _, _, rfl, rfl, q⟩
theorem sum_take {f : Pt → Nat} {c : Ch} (i : Nat) {p : Pt} (h : c[i]? = some p) : ((c.take (i + 1)).map f) = (c.take i).map f ++ [f p] := by
  rw [tk c i h, List.map_append]
  rfl

def Pt.isPut : Pt → Bool
  | .put _ => true
  | _ => false
theorem w_put (p : Pt) : decide (V.str p.w = V.str "put") = p.isPut := by cases p <;> rfl
theorem scal_w (p : Pt) (x : Str) : scal (V.str p.w) (V.str x) = true := rfl
def wantL (c : Ch) : List Int := (c.filter fun p => !p.isPut).map fun p => (p.want : Int)
theorem wantL_snoc (c : Ch) (p : Pt) : wantL (c ++ [p]) = wantL c ++ (if p.isPut = true then [] else [(p.want : Int)]) := by
  unfold wantL
  rw [List.filter_append, List.map_append]
  cases p <;> rfl
theorem wantL_sum (c : Ch) : (wantL c).sum = (wanted c : Int) := by
  induction c with
  | nil => rfl
  | cons p c ih =>
    cases p with
    | keep n => show (n : Int) + (wantL c).sum = ((n + wanted c : Nat) : Int); rw [ih]; omega
    | drop n => show (n : Int) + (wantL c).sum = ((n + wanted c : Nat) : Int); rw [ih]; omega
    | put s => show (wantL c).sum = ((0 + wanted c : Nat) : Int); rw [ih]; omega
theorem wantL_len (c : Ch) : (wantL c).length ≤ c.length := by
  unfold wantL
  rw [List.length_map]
  exact List.length_filter_le _ _

def sc_wantedN : List Str := ["change", "word", "what"]
theorem sc_wanted : FnScope sc_wantedN ["change"] (defScope s_wanted) := ⟨rfl, rfl, rfl, by decide +kernel, rfl, by decide +kernel, by decide +kernel⟩
def sp_wanted (K : PySem.W.Frag) : Sp := fun vs H Q _ => ∃ (v : V) (c : Ch), vs = [v] ∧ ChAt K H v c ∧ Sm c ∧ ∀ H1, Keeps H H1 → Q (.int (wanted c)) H1
theorem ok_wanted (F : FnP K d_wanted fd) (T : Tx K mg) : FnOk P w K mg base CX0 1 (He.fAd K d_wanted.at_) fd ["change"] (sp_wanted K) := by
  refine F.ok sc_wanted (fun vs H Q E h => ?_) (fun cdv A outer s H vs Q E hr h => ?_)
  · obtain ⟨v, c, rfl, ⟨a, ts, rfl, hT, hP⟩, sm, q⟩ := h
    rfl
  · obtain ⟨v, c, rfl, ⟨a, ts, rfl, hT, hP⟩, sm, q⟩ := h
    refine ⟨_, PSs.nox (pss_one (ps_ret (pe_callB (cr_sum rfl) (by rfl) T.free (by decide +kernel) (pa_cons (pe_lc (own := [("word", 1), ("what", 2)]) (g := (gTup K 2 (gCons (gName 1) (gCons (gName 2) gNil)))) rfl sc_wanted.nd (pi_tup (pv 0)) (blkOk_by (N := sc_wantedN) (sc := defScope s_wanted) (by decide +kernel)) (fun _ _ _ _ _ => (pg_tup rfl (pgs_cons (pg_name (i := 1) sc_wanted.nd rfl (.inl rfl)) (pgs_cons (pg_name (i := 2) sc_wanted.nd rfl (.inl rfl)) pgs_nil)))) (fun _ _ _ _ _ => (pts_one (pt_cmpR op_ne (pv 1) pe_str (nomark _)))) (fun _ _ _ _ _ => (pv 2))) pa_nil)))), ?_⟩
    refine ⟨_, rfl, a, rfl, ⟨_, hT⟩, fun D nD => lc_it walk_tup (fun i H' => Keeps H H' ∧ H' D = some (.lst ((wantL (c.take i)).map V.int))) ⟨(Keeps.refl H).new nD, upd_same⟩ (fun i H' _ z => sqT_im z.1.im hT) ?_ ?_⟩
    · rintro i x H1 H2 hi ⟨k1, hD⟩ ⟨rfl, hx⟩
      obtain ⟨p, hp, b, rfl, hb⟩ := hP.get hx
      have e := wantL_snoc (c.take i) p
      rw [← tk c i hp] at e
      refine ⟨b, _, rfl, sqT_im k1.im hb, rfl, _, _, rfl, _, _, rfl, rfl, rfl, _, rfl, scal_w p "put", _, rfl, ?_⟩
      show if (!decide (V.str p.w = V.str "put")) = true then _ else _
      rw [w_put]
      cases hq : p.isPut with
      | true =>
        rw [hq, if_pos rfl, List.append_nil] at e
        refine ⟨k1, ?_⟩
        rw [e]
        exact hD
      | false =>
        rw [hq, if_neg Bool.false_ne_true] at e
        have ev : p.v = .int (p.want : Int) := by cases p <;> first | rfl | cases hq
        refine ⟨_, rfl, _, hD, ?_, k1.set nD, ?_⟩
        · rw [List.length_map]
          exact Nat.lt_of_le_of_lt (wantL_len _) (Nat.lt_of_le_of_lt (List.length_take_le' _ _) (Nat.lt_of_le_of_lt sm.1 (by show 4000 < sizeLine; decide)))
        · rw [upd_same, e, List.map_append, ev]
          rfl
    · rintro H1 ⟨k1, hD⟩
      refine ⟨D, wantL c, rfl, SqL.of ?_, ?_⟩
      · rw [hD, hP.length, List.take_length]
      · rw [wantL_sum]
        exact q H1 k1
end
end K78
set_option Elab.async false
set_option linter.all false
set_option maxRecDepth 100000
set_option maxHeartbeats 4000000
namespace K78
open PySem PySem.Spec PyProof.Rows L2 SX
section
variable {P : Program} {w : World} {K : PySem.W.Frag} {mg : Str → Option Value} {base : Heap} {fd : FuncData}
def Pt.isDrop : Pt → Bool
  | .drop _ => true
  | _ => false
theorem w_drop (p : Pt) : decide (V.str p.w = V.str "drop") = p.isDrop := by cases p <;> rfl
def Pt.isKeep : Pt → Bool
  | .keep _ => true
  | _ => false
theorem w_keep (p : Pt) : decide (V.str p.w = V.str "keep") = p.isKeep := by cases p <;> rfl
def makeL (c : Ch) : List Int := (c.filter fun p => !p.isDrop).map fun p => (p.make : Int)
theorem makeL_snoc (c : Ch) (p : Pt) : makeL (c ++ [p]) = makeL c ++ (if p.isDrop = true then [] else [(p.make : Int)]) := by
  unfold makeL
  rw [List.filter_append, List.map_append]
  cases p <;> rfl
theorem makeL_sum (c : Ch) : (makeL c).sum = (makes c : Int) := by
  induction c with
  | nil => rfl
  | cons p c ih =>
    cases p with
    | keep n => show (n : Int) + (makeL c).sum = ((n + makes c : Nat) : Int); rw [ih]; omega
    | put s => show (s.length : Int) + (makeL c).sum = ((s.length + makes c : Nat) : Int); rw [ih]; omega
    | drop n => show (makeL c).sum = ((0 + makes c : Nat) : Int); rw [ih]; omega
theorem makeL_len (c : Ch) : (makeL c).length ≤ c.length := by
  unfold makeL
  rw [List.length_map]
  exact List.length_filter_le _ _
theorem size_le {c : Ch} {i : Nat} {p : Pt} (h : c[i]? = some p) : p.size ≤ (c.map Pt.size).sum := by
  induction c generalizing i with
  | nil => cases h
  | cons q c ih =>
    rw [List.map_cons, List.sum_cons]
    cases i with
    | zero => cases h; exact Nat.le_add_right _ _
    | succ i => exact Nat.le_trans (ih h) (Nat.le_add_left _ _)
theorem small {n : Nat} (h : n ≤ 100000) : n < sizeLine := Nat.lt_of_le_of_lt h (by decide)
theorem Sm.take {c : Ch} (sm : Sm c) (i : Nat) : (c.take i).length ≤ 4000 := Nat.le_trans (List.length_take_le' _ _) sm.1

def sc_makesN : List Str := ["change", "word", "what"]
theorem sc_makes : FnScope sc_makesN ["change"] (defScope s_makes) := ⟨rfl, rfl, rfl, by decide +kernel, rfl, by decide +kernel, by decide +kernel⟩
def sp_makes (K : PySem.W.Frag) : Sp := fun vs H Q _ => ∃ (v : V) (c : Ch), vs = [v] ∧ ChAt K H v c ∧ Sm c ∧ ∀ H1, Keeps H H1 → Q (.int (makes c)) H1
theorem ok_makes (F : FnP K d_makes fd) (T : Tx K mg) : FnOk P w K mg base CX0 1 (He.fAd K d_makes.at_) fd ["change"] (sp_makes K) := by
  refine F.ok sc_makes (fun vs H Q E h => ?_) (fun cdv A outer s H vs Q E hr h => ?_)
  · obtain ⟨v, c, rfl, ⟨a, ts, rfl, hT, hP⟩, sm, q⟩ := h
    rfl
  · obtain ⟨v, c, rfl, ⟨a, ts, rfl, hT, hP⟩, sm, q⟩ := h
    refine ⟨_, PSs.nox (pss_one (ps_ret (pe_callB (cr_sum rfl) (by rfl) T.free (by decide +kernel) (pa_cons (pe_lc (own := [("word", 1), ("what", 2)]) (g := (gTup K 2 (gCons (gName 1) (gCons (gName 2) gNil)))) rfl sc_makes.nd (pi_tup (pv 0)) (blkOk_by (N := sc_makesN) (sc := defScope s_makes) (by decide +kernel)) (fun _ _ _ _ _ => (pg_tup rfl (pgs_cons (pg_name (i := 1) sc_makes.nd rfl (.inl rfl)) (pgs_cons (pg_name (i := 2) sc_makes.nd rfl (.inl rfl)) pgs_nil)))) (fun _ _ _ _ _ => (pts_one (pt_cmpR op_ne (pv 1) pe_str (nomark _)))) (fun _ _ _ _ _ => (pe_ifExp (pt_cmpR op_eq (pv 1) pe_str (nomark _)) (pe_callB call_len_str (by rfl) T.free (by decide +kernel) (pa_cons (pv 2) pa_nil)) (pv 2)))) pa_nil)))), ?_⟩
    refine ⟨_, rfl, a, rfl, ⟨_, hT⟩, fun D nD => lc_it walk_tup (fun i H' => Keeps H H' ∧ H' D = some (.lst ((makeL (c.take i)).map V.int))) ⟨(Keeps.refl H).new nD, upd_same⟩ (fun i H' _ z => sqT_im z.1.im hT) ?_ ?_⟩
    · rintro i x H1 H2 hi ⟨k1, hD⟩ ⟨rfl, hx⟩
      obtain ⟨p, hp, b, rfl, hb⟩ := hP.get hx
      have e := makeL_snoc (c.take i) p
      rw [← tk c i hp] at e
      refine ⟨b, _, rfl, sqT_im k1.im hb, rfl, _, _, rfl, _, _, rfl, rfl, rfl, _, rfl, scal_w p "drop", _, rfl, ?_⟩
      show if (!decide (V.str p.w = V.str "drop")) = true then _ else _
      rw [w_drop]
      cases hq : p.isDrop with
      | true =>
        rw [hq, if_pos rfl, List.append_nil] at e
        refine ⟨k1, ?_⟩
        rw [e]
        exact hD
      | false =>
        rw [hq, if_neg Bool.false_ne_true] at e
        have fin : Keeps H (upd H2 D (.lst ((makeL (c.take i)).map V.int ++ [.int (p.make : Int)]))) ∧ upd H2 D (.lst ((makeL (c.take i)).map V.int ++ [.int (p.make : Int)])) D = some (.lst ((makeL (c.take (i + 1))).map V.int)) := by
          refine ⟨k1.set nD, ?_⟩
          rw [upd_same, e, List.map_append]
          rfl
        have len : ((makeL (c.take i)).map V.int).length < sizeLine := by
          rw [List.length_map]
          exact small (Nat.le_trans (makeL_len _) (Nat.le_trans (sm.take i) (by decide)))
        refine ⟨_, rfl, scal_w p "put", _, rfl, ?_⟩
        show if decide (V.str p.w = V.str "put") = true then _ else _
        rw [w_put]
        cases p with
        | put s =>
          refine iteT ⟨_, rfl, _, rfl, ?_, _, hD, len, ?_⟩
          · have z := size_le hp
            rw [S_len]
            exact Nat.le_of_lt (small (Nat.le_trans z (Nat.le_trans sm.2.1 (by decide))))
          · rw [S_len]
            exact fin
        | keep n => exact iteF ⟨_, rfl, _, hD, len, fin⟩
        | drop n => cases hq
    · rintro H1 ⟨k1, hD⟩
      refine ⟨D, makeL c, rfl, SqL.of ?_, ?_⟩
      · rw [hD, hP.length, List.take_length]
      · rw [makeL_sum]
        exact q H1 k1
def Pt.flags : Pt → List Bool
  | .keep n => List.replicate n true
  | .drop n => List.replicate n false
  | .put _ => []
def stays (c : Ch) : List Bool := c.flatMap Pt.flags
theorem stays_snoc (c : Ch) (p : Pt) : stays (c ++ [p]) = stays c ++ p.flags := by
  unfold stays
  rw [List.flatMap_append]
  simp
theorem stays_len (c : Ch) : (stays c).length = wanted c := by
  induction c with
  | nil => rfl
  | cons p c ih =>
    show (p.flags ++ stays c).length = p.want + wanted c
    rw [List.length_append, ih]
    cases p <;> simp [Pt.flags, Pt.want]
theorem wanted_le (c : Ch) : wanted c ≤ (c.map Pt.size).sum := by
  induction c with
  | nil => exact Nat.le_refl _
  | cons p c ih =>
    show p.want + wanted c ≤ p.size + (c.map Pt.size).sum
    have : p.want ≤ p.size := by cases p <;> simp [Pt.want, Pt.size]
    omega
theorem wanted_snoc (c : Ch) (p : Pt) : wanted (c ++ [p]) = wanted c + p.want := by
  unfold wanted
  rw [List.map_append, List.sum_append]
  simp
theorem wanted_take (c : Ch) (i : Nat) : wanted (c.take i) ≤ wanted c := by
  induction c generalizing i with
  | nil => simp
  | cons p c ih =>
    cases i with
    | zero => exact Nat.zero_le _
    | succ i => exact Nat.add_le_add_left (ih i) _
theorem repb (b : Bool) (n : Nat) : (List.replicate n [V.bl b]).flatten = (List.replicate n b).map V.bl := by
  induction n with
  | zero => rfl
  | succ n ih => rw [List.replicate_succ, List.replicate_succ, List.flatten_cons, ih]; rfl
theorem repb_keep (n : Nat) : (List.replicate (n : Int).toNat [V.bl (decide (V.str (Pt.keep n).w = V.str "keep"))]).flatten = (Pt.keep n).flags.map V.bl := by
  rw [w_keep, Int.toNat_natCast]
  exact repb true n
theorem repb_drop (n : Nat) : (List.replicate (n : Int).toNat [V.bl (decide (V.str (Pt.drop n).w = V.str "keep"))]).flatten = (Pt.drop n).flags.map V.bl := by
  rw [w_keep, Int.toNat_natCast]
  exact repb false n
/-- what is put, by places -/
def putsGo (k : Nat) : Ch → List (Nat × List Nat)
  | [] => []
  | .put s :: r => (k, s) :: putsGo k r
  | .keep n :: r => putsGo (k + n) r
  | .drop n :: r => putsGo (k + n) r
abbrev putsOf (c : Ch) : List (Nat × List Nat) := putsGo 0 c
theorem putsGo_snoc (k : Nat) (c : Ch) (p : Pt) : putsGo k (c ++ [p]) = putsGo k c ++ (match p with | .put s => [(k + wanted c, s)] | _ => []) := by
  induction c generalizing k with
  | nil => cases p <;> rfl
  | cons q c ih =>
    cases q with
    | put s =>
      show (k, s) :: putsGo k (c ++ [p]) = (k, s) :: putsGo k c ++ _
      rw [ih]
      have e : wanted (.put s :: c) = wanted c := Nat.zero_add _
      rw [e]
      rfl
    | keep n =>
      show putsGo (k + n) (c ++ [p]) = putsGo (k + n) c ++ _
      rw [ih]
      have e : k + wanted (.keep n :: c) = k + n + wanted c := (Nat.add_assoc _ _ _).symm
      rw [e]
    | drop n =>
      show putsGo (k + n) (c ++ [p]) = putsGo (k + n) c ++ _
      rw [ih]
      have e : k + wanted (.drop n :: c) = k + n + wanted c := (Nat.add_assoc _ _ _).symm
      rw [e]
theorem putsGo_len (k : Nat) (c : Ch) : (putsGo k c).length ≤ c.length := by
  induction c generalizing k with
  | nil => exact Nat.le_refl _
  | cons p c ih => cases p with
    | put s => exact Nat.succ_le_succ (ih k)
    | keep n => exact Nat.le_succ_of_le (ih _)
    | drop n => exact Nat.le_succ_of_le (ih _)
def kvs (ps : List (Nat × List Nat)) : List (Key × V) := ps.map fun q => (Sum.inl (q.1 : Int), V.str (S q.2))
/-- a text is put where none was put ahead -/
def Fr (c : Ch) : Prop := ∀ i s, c[i]? = some (.put s) → ∀ q ∈ putsOf (c.take i), q.1 < wanted (c.take i)
theorem putK_new {ps : List (Nat × List Nat)} {k : Nat} {v : V} (h : ∀ q ∈ ps, q.1 < k) : putK (kvs ps) (Sum.inl (k : Int)) v = kvs ps ++ [(Sum.inl (k : Int), v)] := by
  unfold putK
  rw [if_neg]
  intro z
  obtain ⟨kv, h1, h2⟩ := List.any_eq_true.mp z
  obtain ⟨q, h3, rfl⟩ := List.mem_map.mp h1
  have e := of_decide_eq_true h2
  have e2 : (q.1 : Int) = k := Sum.inl.inj e
  have := h q h3
  omega

def sc_speltN : List Str := ["change", "stays", "puts", "word", "what"]
theorem sc_spelt : FnScope sc_speltN ["change"] (defScope s_spelt) := ⟨rfl, rfl, rfl, by decide +kernel, rfl, by decide +kernel, by decide +kernel⟩
def sp_spelt (K : PySem.W.Frag) : Sp := fun vs H Q _ => ∃ (v : V) (c : Ch), vs = [v] ∧ ChAt K H v c ∧ Sm c ∧ Fr c ∧
  ∀ t ls dp H1, Keeps H H1 → H ls = none → H dp = none → H1 t = some (.tup [.ref ls, .ref dp]) → H1 ls = some (.lst ((stays c).map V.bl)) → H1 dp = some (.dK (kvs (putsOf c))) → Q (.ref t) H1
theorem ok_spelt (F : FnP K d_spelt fd) (T : Tx K mg) : FnOk P w K mg base CX0 1 (He.fAd K d_spelt.at_) fd ["change"] (sp_spelt K) := by
  refine F.ok sc_spelt (fun vs H Q E h => ?_) (fun cdv A outer s H vs Q E hr h => ?_)
  · obtain ⟨v, c, rfl, ⟨a, ts, rfl, hT, hP⟩, sm, fr, q⟩ := h
    rfl
  · obtain ⟨v, c, rfl, ⟨a, ts, rfl, hT, hP⟩, sm, fr, q⟩ := h
    refine ⟨_, PSs.nox (pss_cons (ps_set (i := 1) sc_spelt.nd rfl (.inl rfl) (pe_lst pa_nil))
  (pss_cons (ps_set (i := 2) sc_spelt.nd rfl (.inl rfl) pe_dnewK)
  (pss_cons (ps_for PassesOwn.never rfl (pi_tup (pv 0)) (pg_tup rfl (pgs_cons (pg_name (i := 3) sc_spelt.nd rfl (.inl rfl)) (pgs_cons (pg_name (i := 4) sc_spelt.nd rfl (.inl rfl)) pgs_nil))) (pss_one (ps_if (pt_cmpR op_eq (pv 3) pe_str (nomark _)) (pss_one (ps_dput (hu_of hr) (pv 2) (pe_callB call_len (by rfl) T.free (by decide +kernel) (pa_cons (pv 1) pa_nil)) (pv 4) rfl)) (pss_one (ps_expr (pe_bm PySem.F.plainAttrs_list PySem.F.slot_list_extend PySem.F.type_list_extend mt_extend (pv 1) (pa_cons (pe_op op_rep (pe_lst (pa_cons (pe_cmpR op_eq (pv 3) pe_str (nomark _)) pa_nil)) (pv 4)) pa_nil)))))))
  (pss_one (ps_ret (pe_tup (pa_cons (pv 1) (pa_cons (pv 2) pa_nil)))))))), ?_⟩
    refine ⟨(by show 0 ≤ sizeLine; decide), fun ls nl => ?_⟩
    refine fun dp nd => ?_
    have ndl : dp ≠ ls := fun z => by rw [z, upd_same] at nd; cases nd
    have nd0 : H dp = none := by rw [upd_ne ndl] at nd; exact nd
    refine ⟨_, rfl, a, rfl, ⟨_, sqT_im (((Keeps.refl H).new nl).new nd).im hT⟩, for_it walk_tup (fun i σ H' => (∃ v3 v4, σ = [some (.ref a), some (.ref ls), some (.ref dp), v3, v4]) ∧ Keeps H H' ∧ H' ls = some (.lst ((stays (c.take i)).map V.bl)) ∧ H' dp = some (.dK (kvs (putsOf (c.take i)))))
      ⟨⟨_, _, rfl⟩, ((Keeps.refl H).new nl).new nd, by rw [upd_ne ndl.symm, upd_same]; rfl, by rw [upd_same]; rfl⟩ (fun i σ H' _ z => sqT_im z.2.1.im hT) ?_ ?_⟩
    · rintro i x σ H1 H2 hi ⟨⟨v3, v4, rfl⟩, k1, h1, h2⟩ ⟨rfl, hx⟩
      obtain ⟨p, hp, b, rfl, hb⟩ := hP.get hx
      have e1 := stays_snoc (c.take i) p
      have e2 := putsGo_snoc 0 (c.take i) p
      have e3 := stays_len (c.take i)
      have e4 := wanted_take c i
      have e5 := wanted_le c
      have e6 := sm.2.1
      rw [← tk c i hp] at e1 e2
      refine ⟨b, _, rfl, sqT_im k1.im hb, rfl, _, _, rfl, _, _, rfl, rfl, _, rfl, scal_w p "put", _, rfl, ?_⟩
      show if decide (V.str p.w = V.str "put") = true then _ else _
      rw [w_put]
      cases p with
      | put s =>
        refine iteT ⟨_, rfl, _, rfl, _, rfl, _, _, rfl, .inl ⟨_, SqL.of h1, rfl⟩, dp, _, rfl, DPut.k (k := Sum.inl _) h2 ?_, ?_⟩
        · unfold kvs
          rw [List.length_map]
          exact small (Nat.le_trans (putsGo_len _ _) (Nat.le_trans (sm.take i) (by decide)))
        · have n1 : ls ≠ dp := ndl.symm
          rw [List.length_map, e3, putK_new (fr i s hp)]
          refine ⟨⟨_, _, rfl⟩, k1.set nd0, ?_, ?_⟩
          · rw [upd_ne n1, h1, e1]
            show _ = some (HO.lst ((stays (c.take i) ++ []).map V.bl))
            rw [List.append_nil]
          · rw [upd_same, show putsOf (c.take (i + 1)) = _ from e2]
            show _ = some (HO.dK (kvs (putsOf (c.take i) ++ [(0 + wanted (c.take i), s)])))
            unfold kvs
            rw [List.map_append, Nat.zero_add]
            rfl
      | keep n =>
        have z := size_le hp
        have z : n ≤ (c.map Pt.size).sum := z
        refine iteF ⟨_, rfl, .inl ⟨rfl, _, SqL.of h1⟩, _, rfl, rfl, (by show 1 ≤ sizeLine; decide), fun q1 n1 => ⟨_, rfl, q1, _, _, rfl, rfl, upd_same, by omega, by omega, ?_, fun q2 n2 => ?_⟩⟩
        · show 1 * (n : Int).toNat ≤ sizeLine
          rw [Int.toNat_natCast, Nat.one_mul]
          exact Nat.le_of_lt (small (by omega))
        · have k2 := k1.new (o := .lst [.bl true]) n1
          refine ⟨ls, q2, (stays (c.take i)).map V.bl, _, rfl, rfl, ?_, upd_same, ?_, ?_⟩
          · exact keeps_new n2 _ _ (keeps_new n1 _ _ h1)
          · rw [repb_keep, List.length_map, List.length_map, show (Pt.keep n).flags.length = n from List.length_replicate, e3]
            exact Nat.le_of_lt (small (by omega))
          · refine ⟨⟨_, _, rfl⟩, (k2.new n2).set nl, ?_, ?_⟩
            · rw [upd_same, e1, List.map_append, repb_keep]
            · rw [upd_ne ndl, show putsOf (c.take (i + 1)) = _ from e2]
              show _ = some (HO.dK (kvs (putsOf (c.take i) ++ [])))
              rw [List.append_nil]
              exact keeps_new n2 _ _ (keeps_new n1 _ _ h2)
      | drop n =>
        have z := size_le hp
        have z : n ≤ (c.map Pt.size).sum := z
        refine iteF ⟨_, rfl, .inl ⟨rfl, _, SqL.of h1⟩, _, rfl, rfl, (by show 1 ≤ sizeLine; decide), fun q1 n1 => ⟨_, rfl, q1, _, _, rfl, rfl, upd_same, by omega, by omega, ?_, fun q2 n2 => ?_⟩⟩
        · show 1 * (n : Int).toNat ≤ sizeLine
          rw [Int.toNat_natCast, Nat.one_mul]
          exact Nat.le_of_lt (small (by omega))
        · have k2 := k1.new (o := .lst [.bl false]) n1
          refine ⟨ls, q2, (stays (c.take i)).map V.bl, _, rfl, rfl, ?_, upd_same, ?_, ?_⟩
          · exact keeps_new n2 _ _ (keeps_new n1 _ _ h1)
          · rw [repb_drop, List.length_map, List.length_map, show (Pt.drop n).flags.length = n from List.length_replicate, e3]
            exact Nat.le_of_lt (small (by omega))
          · refine ⟨⟨_, _, rfl⟩, (k2.new n2).set nl, ?_, ?_⟩
            · rw [upd_same, e1, List.map_append, repb_drop]
            · rw [upd_ne ndl, show putsOf (c.take (i + 1)) = _ from e2]
              show _ = some (HO.dK (kvs (putsOf (c.take i) ++ [])))
              rw [List.append_nil]
              exact keeps_new n2 _ _ (keeps_new n1 _ _ h2)
    · rintro σ H1 ⟨⟨v3, v4, rfl⟩, k1, h1, h2⟩
      rw [hP.length, List.take_length] at h1 h2
      refine ⟨_, rfl, _, rfl, (by show 2 ≤ sizeLine; decide), fun t nt => q t ls dp _ (k1.new nt) nl nd0 upd_same (keeps_new nt _ _ h1) (keeps_new nt _ _ h2)⟩
end
end K78
set_option Elab.async false
set_option linter.all false
set_option maxRecDepth 100000
set_option maxHeartbeats 4000000
namespace K78
open PySem PySem.Spec PyProof.Rows L2 SX
section
variable {P : Program} {w : World} {K : PySem.W.Frag} {mg : Str → Option Value} {base : Heap} {fd : FuncData}
theorem op_orR {X : Cx} {op : Value → Value → Sem Value} {r1 r2 : R2} (h1 : OpR X op r1) (h2 : OpR X op r2) : OpR X op (fun x y H Q => r1 x y H Q ∨ r2 x y H Q) := fun pins s σ H x y v u Q I rx ry h =>
  h.elim (fun a => h1 pins s σ H x y v u Q I rx ry a) (fun b => h2 pins s σ H x y v u Q I rx ry b)
def Pt.same (p q : Pt) : Bool := decide (p.w = q.w)
def Pt.plus : Pt → Pt → Pt
  | .keep a, .keep b => .keep (a + b)
  | .drop a, .drop b => .drop (a + b)
  | .put a, .put b => .put (a ++ b)
  | p, _ => p
/-- one part more -/
def grow (c : Ch) (p : Pt) : Ch := match c.getLast? with
  | some q => if q.same p = true then c.dropLast ++ [q.plus p] else if p.size = 0 then c else c ++ [p]
  | none => if p.size = 0 then c else c ++ [p]
theorem grow_nil (p : Pt) : grow [] p = if p.size = 0 then [] else [p] := rfl
theorem grow_snoc (c : Ch) (q p : Pt) : grow (c ++ [q]) p = if q.same p = true then c ++ [q.plus p] else if p.size = 0 then c ++ [q] else c ++ [q] ++ [p] := by
  unfold grow
  rw [List.getLast?_append, List.dropLast_concat]
  rfl
theorem grow_len (c : Ch) (p : Pt) : (grow c p).length ≤ c.length + 1 := by
  rcases List.eq_nil_or_concat c with rfl | ⟨c0, q, rfl⟩
  · rw [grow_nil]
    split <;> simp
  · rw [List.concat_eq_append, grow_snoc]
    split
    · simp
    · split <;> simp
def Pt.d : Pt → PyData
  | .keep n => .tuple [.str "keep", .int n]
  | .drop n => .tuple [.str "drop", .int n]
  | .put s => .tuple [.str "put", .str (S s)]
def Pt.ok (p : Pt) : Prop := ∀ s, p = .put s → ∀ n ∈ s, n < 128
section
variable {H : Hp}
theorem PtAt.dp {t : V} {p : Pt} (h : PtAt K H t p) : Dp K H t p.d := by
  obtain ⟨b, rfl, h⟩ := h
  cases p with
  | keep n => exact .tup h (.cons (.str _) (.cons (.int _) .nil))
  | drop n => exact .tup h (.cons (.str _) (.cons (.int _) .nil))
  | put s => exact .tup h (.cons (.str _) (.cons (.str _) .nil))
theorem PtsAt.dp {ts : List V} {c : Ch} (h : PtsAt K H ts c) : DpAll K H ts (c.map Pt.d) := by
  induction h with
  | nil => exact .nil
  | cons h _ ih => exact .cons h.dp ih
theorem ChAt.dp {v : V} {c : Ch} (h : ChAt K H v c) : Dp K H v (.tuple (c.map Pt.d)) := by
  obtain ⟨a, ts, rfl, h1, h2⟩ := h
  exact .tup h1 h2.dp
end
theorem strOk_S {s : List Nat} (h : ∀ n ∈ s, n < 128) : PyData.strOk (S s) = true := by
  unfold PyData.strOk
  rw [← Array.all_toList]
  refine List.all_eq_true.mpr fun n hn => ?_
  exact decide_eq_true (Nat.lt_of_lt_of_le (h n hn) (by decide))
theorem Pt.can {p : Pt} (h : p.ok) : p.d.canLay0 = true := by
  have k1 : PyData.canLay0 (.str "keep") = true := by decide +kernel
  have k2 : PyData.canLay0 (.str "drop") = true := by decide +kernel
  have k3 : PyData.canLay0 (.str "put") = true := by decide +kernel
  cases p with
  | keep n =>
    show (PyData.canLay0 (.str "keep") && (true && true)) = true
    rw [k1]
    rfl
  | drop n =>
    show (PyData.canLay0 (.str "drop") && (true && true)) = true
    rw [k2]
    rfl
  | put s =>
    show (PyData.canLay0 (.str "put") && (PyData.strOk (S s) && true)) = true
    rw [k3, strOk_S (h s rfl)]
    rfl
def okC (c : Ch) : Prop := ∀ p ∈ c, Pt.ok p
theorem can_all {c : Ch} (h : okC c) : PyData.canLayAll0 (c.map Pt.d) = true := by
  induction c with
  | nil => rfl
  | cons p c ih =>
    show (p.d.canLay0 && PyData.canLayAll0 (c.map Pt.d)) = true
    rw [Pt.can (h p (List.mem_cons_self ..)), ih fun q hq => h q (List.mem_cons_of_mem _ hq)]
    rfl
theorem depth_pt (p : Pt) : p.d.depth = 1 := by cases p <;> rfl
theorem depth_all (c : Ch) : PyData.depthAll (c.map Pt.d) ≤ 1 := by
  induction c with
  | nil => exact Nat.zero_le _
  | cons p c ih =>
    show max p.d.depth (PyData.depthAll (c.map Pt.d)) ≤ 1
    rw [depth_pt]
    exact Nat.max_le.mpr ⟨Nat.le_refl _, ih⟩
theorem PtsAt.snoc_inv {H : Hp} {ts : List V} {c : Ch} {q : Pt} (h : PtsAt K H ts (c ++ [q])) : ∃ t0 ts0, ts = ts0 ++ [t0] ∧ PtAt K H t0 q ∧ PtsAt K H ts0 c := by
  induction c generalizing ts with
  | nil =>
    cases h with
    | cons h1 h2 => cases h2; exact ⟨_, [], rfl, h1, .nil⟩
  | cons p c ih =>
    cases h with
    | cons h1 h2 =>
      obtain ⟨t0, ts0, rfl, h3, h4⟩ := ih h2
      exact ⟨t0, _ :: ts0, rfl, h3, .cons h1 h4⟩
theorem shaped_l {c : Ch} (h : okC c) : SeqAt.shaped (.list (c.map Pt.d)) = true := by
  have e1 : PyData.canLay0 (.list (c.map Pt.d)) = true := can_all h
  have e2 : (PyData.list (c.map Pt.d)).depth ≤ 64 := by
    show PyData.depthAll (c.map Pt.d) + 1 ≤ 64
    have := depth_all c
    omega
  unfold SeqAt.shaped
  rw [e1, decide_eq_true e2]
  rfl
theorem shaped_t {c : Ch} (h : okC c) : SeqAt.shaped (.tuple (c.map Pt.d)) = true := by
  have e1 : PyData.canLay0 (.tuple (c.map Pt.d)) = true := can_all h
  have e2 : (PyData.tuple (c.map Pt.d)).depth ≤ 64 := by
    show PyData.depthAll (c.map Pt.d) + 1 ≤ 64
    have := depth_all c
    omega
  unfold SeqAt.shaped
  rw [e1, decide_eq_true e2]
  rfl
theorem in0 (p : Pt) : inV p.v [.int 0, .str ""] = decide (p.size = 0) := by
  have hn : ∀ n : Nat, inV (.int (n : Int)) [.int 0, .str ""] = decide (n = 0) := fun n => by
    show (((0 : Int) == (n : Int)) || (false || false)) = decide (n = 0)
    rw [Bool.or_false, Bool.or_false]
    by_cases h : n = 0
    · subst h; rfl
    · rw [decide_eq_false h]
      exact beq_eq_false_iff_ne.mpr (by omega)
  cases p with
  | keep n => exact hn n
  | drop n => exact hn n
  | put s =>
    show (false || (((Str.ofString "") == S s) || false)) = decide (s.length = 0)
    rw [Bool.false_or, Bool.or_false]
    cases s with
    | nil => rfl
    | cons x s =>
      rw [decide_eq_false (by simp)]
      refine beq_eq_false_iff_ne.mpr fun z => ?_
      have e := congrArg (fun q : Str => q.cps.toList) z
      cases e
theorem flat_v (p : Pt) : flatV p.v = true := by cases p <;> rfl
theorem n_kd : ("keep" : Str) ≠ "drop" := by decide +kernel
theorem n_kp : ("keep" : Str) ≠ "put" := by decide +kernel
theorem n_dp : ("drop" : Str) ≠ "put" := by decide +kernel
theorem same_or {p q : Pt} (h : p.same q = true) : (∃ a b, p = .keep a ∧ q = .keep b) ∨ (∃ a b, p = .drop a ∧ q = .drop b) ∨ ∃ a b, p = .put a ∧ q = .put b := by
  cases p <;> cases q <;> first
    | exact .inl ⟨_, _, rfl, rfl⟩
    | exact .inr (.inl ⟨_, _, rfl, rfl⟩)
    | exact .inr (.inr ⟨_, _, rfl, rfl⟩)
    | exact absurd (of_decide_eq_true h) n_kd
    | exact absurd (of_decide_eq_true h) n_kp
    | exact absurd (of_decide_eq_true h) n_dp
    | exact absurd (of_decide_eq_true h) n_kd.symm
    | exact absurd (of_decide_eq_true h) n_kp.symm
    | exact absurd (of_decide_eq_true h) n_dp.symm
theorem ixN_last (xs : List V) (v : V) : ixN (xs ++ [v]).length (-1) = some xs.length := by
  have hl : (xs ++ [v]).length = xs.length + 1 := by simp
  unfold ixN
  rw [hl, if_neg (by decide), if_pos (by omega)]
  congr 1
  omega
theorem set_last (xs : List V) (v u : V) : (xs ++ [v]).set xs.length u = xs ++ [u] := by
  rw [List.set_append_right _ _ (Nat.le_refl _), Nat.sub_self]
  rfl
theorem same_v (p q : Pt) : decide (V.str p.w = V.str q.w) = p.same q := by
  unfold Pt.same
  exact decide_eq_decide.mpr ⟨fun h => V.str.inj h, fun h => congrArg V.str h⟩

def sc_grownN : List Str := ["parts", "word", "what"]
theorem sc_grown : FnScope sc_grownN ["parts", "word", "what"] (defScope s_grown) := ⟨rfl, rfl, rfl, by decide +kernel, rfl, by decide +kernel, by decide +kernel⟩
def sp_grown (K : PySem.W.Frag) : Sp := fun vs H Q _ => ∃ (l : Addr) (ts : List V) (c : Ch) (p : Pt), vs = [.ref l, .str p.w, p.v] ∧ H l = some (.lst ts) ∧ PtsAt K H ts c ∧ c.length ≤ 50000 ∧ (∀ q ∈ c, q.size + p.size ≤ 100000) ∧ okC c ∧
  ∀ ts' H1, (∀ b o, H b = some o → b ≠ l → H1 b = some o) → H1 l = some (.lst ts') → PtsAt K H1 ts' (grow c p) → Q .non H1
theorem ok_grown (F : FnP K d_grown fd) (T : Tx K mg) : FnOk P w K mg base CX0 1 (He.fAd K d_grown.at_) fd ["parts", "word", "what"] (sp_grown K) := by
  refine F.ok sc_grown (fun vs H Q E h => ?_) (fun cdv A outer s H vs Q E hr h => ?_)
  · obtain ⟨l, ts, c, p, rfl, hl, hP, hn, hz, hok, q⟩ := h
    rfl
  · obtain ⟨l, ts, c, p, rfl, hl, hP, hn, hz, hok, q⟩ := h
    refine ⟨_, PSs.nox (pss_one (ps_if (PW.pt (pw_and (pt_cmpR (op_neD hr.units) (pv 0) (pe_lst pa_nil) (nomark _)) (pw_and1 (pt_cmpR op_eq (pe_ix ix_tup (pe_ix ix_list (pv 0) (pe_un un_neg pe_int) (fun _ _ => rfl)) pe_int (fun _ _ => rfl)) (pv 1) (nomark _))))) (pss_one (ps_asg (pe_tup (pa_cons (pv 1) (pa_cons (pe_op (op_orR op_add op_add_str) (pe_ix ix_tup (pe_ix ix_list (pv 0) (pe_un un_neg pe_int) (fun _ _ => rfl)) pe_int (fun _ _ => rfl)) (pv 2)) pa_nil))) (pg_sub (pv 0) (pe_un un_neg pe_int) set_list))) (pss_one (ps_if (pt_cmpR op_notIn_seq (pv 2) (pe_tup (pa_cons pe_int (pa_cons pe_str pa_nil))) (by rfl)) (pss_one (ps_expr (pe_bm PySem.F.plainAttrs_list PySem.F.slot_list_append PySem.F.type_list_append mt_append (pv 0) (pa_cons (pe_tup (pa_cons (pv 1) (pa_cons (pv 2) pa_nil))) pa_nil)))) pss_nil)))), ?_⟩
    refine ⟨_, rfl, (by show 0 ≤ sizeLine; decide), fun e ne => ⟨.list (c.map Pt.d), .list [], .lst (.inl (.inl (keeps_new ne _ _ hl))) (hP.im (keeps_new ne).im).dp, .lst (.inl (.inl upd_same)) .nil, shaped_l hok, rfl, _, rfl, ?_⟩⟩
    have k0 := keeps_new (o := .lst []) ne
    have hl0 := k0 _ _ hl
    have hP0 := hP.im k0.im
    have hne : PyData.eqv (.list (c.map Pt.d)) (.list []) = c.isEmpty := by cases c <;> rfl
    rw [hne]
    rcases List.eq_nil_or_concat c with hc | ⟨c0, q0, hc⟩
    · have hg : grow c p = if p.size = 0 then c else c ++ [p] := by rw [hc]; rfl
      rw [show c.isEmpty = true from by rw [hc]; rfl]
      refine iteF (iteF ?_)
      refine ⟨_, rfl, (by show 2 ≤ sizeLine; decide), fun t nt => ⟨t, _, rfl, .inr (SqT.of upd_same), flat_v p, rfl, _, rfl, ?_⟩⟩
      show if (!inV p.v [.int 0, .str ""]) = true then _ else _
      rw [in0]
      have k1 := (Keeps.trans k0 (keeps_new (o := .tup [.int 0, .str ""]) nt))
      by_cases hz0 : p.size = 0
      · rw [if_pos hz0] at hg
        rw [decide_eq_true hz0]
        exact iteF (q _ _ (fun b o e _ => k1 b o e) (k1 _ _ hl) (by rw [hg]; exact hP.im k1.im))
      · rw [if_neg hz0] at hg
        rw [decide_eq_false hz0]
        refine iteT ⟨_, rfl, .inl ⟨rfl, _, SqL.of (k1 _ _ hl)⟩, _, rfl, _, rfl, (by show 2 ≤ sizeLine; decide), fun b2 nb => ?_⟩
        have k2 := k1.new (o := .tup [.str p.w, p.v]) nb
        have hl2 := k2 _ _ hl
        have nbl : b2 ≠ l := fun z => by rw [z, k1 _ _ hl] at nb; cases nb
        refine ⟨l, _, _, rfl, rfl, hl2, ?_, ?_⟩
        · rw [hP.length]
          exact small (by omega)
        · refine q _ _ (fun b o e ne => by rw [upd_ne ne]; exact k2 b o e) upd_same ?_
          rw [hg]
          exact (hP.im (k2.im.set hl2 rfl)).append (.cons ⟨b2, rfl, SqT.of (by rw [upd_ne nbl, upd_same])⟩ .nil)
    · rw [List.concat_eq_append] at hc
      rw [show c.isEmpty = false from by rw [hc]; simp]
      obtain ⟨t0, ts0, hts, hP1, hP2⟩ : ∃ t0 ts0, ts = ts0 ++ [t0] ∧ PtAt K H t0 q0 ∧ PtsAt K H ts0 c0 := by
        subst hc
        exact PtsAt.snoc_inv hP
      obtain ⟨b, rfl, hb⟩ := hP1
      subst hts
      refine iteT ⟨_, rfl, _, rfl, l, _, _, _, rfl, rfl, SqL.of hl0, atI_last ts0 _, b, _, 0, _, rfl, rfl, sqT_im k0.im hb, atI_nat (j := 0) rfl, _, rfl, rfl, _, rfl, ?_⟩
      show if decide (V.str q0.w = V.str p.w) = true then _ else _
      rw [same_v]
      have hg := grow_snoc c0 q0 p
      rw [← hc] at hg
      cases hs : q0.same p with
      | true =>
        rw [hs, if_pos rfl] at hg
        have hzz := hz q0 (by rw [hc]; exact List.mem_append_right _ (List.mem_singleton.mpr rfl))
        rcases same_or hs with ⟨x, y, hq, hp⟩ | ⟨x, y, hq, hp⟩ | ⟨x, y, hq, hp⟩
        · have rd2 : (q0.plus p).w = p.w := by rw [hq, hp]; rfl
          refine iteT ⟨_, rfl, _, rfl, _, rfl, l, _, _, _, rfl, rfl, SqL.of hl0, atI_last ts0 _, b, _, 1, _, rfl, rfl, sqT_im k0.im hb, atI_nat (j := 1) rfl, _, rfl, .inl ⟨(x : Int), (y : Int), by rw [hq]; rfl, by rw [hp]; rfl, (by show 2 ≤ sizeLine; decide), fun b2 nb => ?_⟩⟩
          have ev : (q0.plus p).v = V.int ((x : Int) + (y : Int)) := by rw [hq, hp]; rfl
          have k2 := k0.new (o := .tup [.str p.w, V.int ((x : Int) + (y : Int))]) nb
          have hl2 := k2 _ _ hl
          have nbl : b2 ≠ l := fun z => by rw [z, hl0] at nb; cases nb
          refine ⟨_, rfl, _, rfl, l, _, _, ts0.length, rfl, rfl, hl2, ixN_last ts0 _, ?_⟩
          refine q (ts0 ++ [.ref b2]) _ (fun b o e ne => by rw [upd_ne ne]; exact k2 b o e) ?_ ?_
          · rw [upd_same, set_last]
          · rw [hg]
            exact (hP2.im (k2.im.set hl2 rfl)).append (.cons ⟨b2, rfl, SqT.of (by rw [upd_ne nbl, upd_same, rd2, ev])⟩ .nil)
        · have rd2 : (q0.plus p).w = p.w := by rw [hq, hp]; rfl
          refine iteT ⟨_, rfl, _, rfl, _, rfl, l, _, _, _, rfl, rfl, SqL.of hl0, atI_last ts0 _, b, _, 1, _, rfl, rfl, sqT_im k0.im hb, atI_nat (j := 1) rfl, _, rfl, .inl ⟨(x : Int), (y : Int), by rw [hq]; rfl, by rw [hp]; rfl, (by show 2 ≤ sizeLine; decide), fun b2 nb => ?_⟩⟩
          have ev : (q0.plus p).v = V.int ((x : Int) + (y : Int)) := by rw [hq, hp]; rfl
          have k2 := k0.new (o := .tup [.str p.w, V.int ((x : Int) + (y : Int))]) nb
          have hl2 := k2 _ _ hl
          have nbl : b2 ≠ l := fun z => by rw [z, hl0] at nb; cases nb
          refine ⟨_, rfl, _, rfl, l, _, _, ts0.length, rfl, rfl, hl2, ixN_last ts0 _, ?_⟩
          refine q (ts0 ++ [.ref b2]) _ (fun b o e ne => by rw [upd_ne ne]; exact k2 b o e) ?_ ?_
          · rw [upd_same, set_last]
          · rw [hg]
            exact (hP2.im (k2.im.set hl2 rfl)).append (.cons ⟨b2, rfl, SqT.of (by rw [upd_ne nbl, upd_same, rd2, ev])⟩ .nil)
        · have rd2 : (q0.plus p).w = p.w := by rw [hq, hp]; rfl
          refine iteT ⟨_, rfl, _, rfl, _, rfl, l, _, _, _, rfl, rfl, SqL.of hl0, atI_last ts0 _, b, _, 1, _, rfl, rfl, sqT_im k0.im hb, atI_nat (j := 1) rfl, _, rfl, .inr ⟨S x, S y, by rw [hq]; rfl, by rw [hp]; rfl, (by rw [S_len, S_len]; rw [hq, hp] at hzz; exact Nat.le_of_lt (small hzz)), (by show 2 ≤ sizeLine; decide), fun b2 nb => ?_⟩⟩
          have ev : (q0.plus p).v = V.str (S x ++ S y) := by rw [hq, hp]; exact congrArg V.str (S_cat x y).symm
          have k2 := k0.new (o := .tup [.str p.w, V.str (S x ++ S y)]) nb
          have hl2 := k2 _ _ hl
          have nbl : b2 ≠ l := fun z => by rw [z, hl0] at nb; cases nb
          refine ⟨_, rfl, _, rfl, l, _, _, ts0.length, rfl, rfl, hl2, ixN_last ts0 _, ?_⟩
          refine q (ts0 ++ [.ref b2]) _ (fun b o e ne => by rw [upd_ne ne]; exact k2 b o e) ?_ ?_
          · rw [upd_same, set_last]
          · rw [hg]
            exact (hP2.im (k2.im.set hl2 rfl)).append (.cons ⟨b2, rfl, SqT.of (by rw [upd_ne nbl, upd_same, rd2, ev])⟩ .nil)
      | false =>
        rw [hs, if_neg Bool.false_ne_true] at hg
        refine iteF ?_
        refine ⟨_, rfl, (by show 2 ≤ sizeLine; decide), fun t nt => ⟨t, _, rfl, .inr (SqT.of upd_same), flat_v p, rfl, _, rfl, ?_⟩⟩
        show if (!inV p.v [.int 0, .str ""]) = true then _ else _
        rw [in0]
        have k1 := (Keeps.trans k0 (keeps_new (o := .tup [.int 0, .str ""]) nt))
        by_cases hz0 : p.size = 0
        · rw [if_pos hz0] at hg
          rw [decide_eq_true hz0]
          exact iteF (q _ _ (fun b o e _ => k1 b o e) (k1 _ _ hl) (by rw [hg]; exact hP.im k1.im))
        · rw [if_neg hz0] at hg
          rw [decide_eq_false hz0]
          refine iteT ⟨_, rfl, .inl ⟨rfl, _, SqL.of (k1 _ _ hl)⟩, _, rfl, _, rfl, (by show 2 ≤ sizeLine; decide), fun b2 nb => ?_⟩
          have k2 := k1.new (o := .tup [.str p.w, p.v]) nb
          have hl2 := k2 _ _ hl
          have nbl : b2 ≠ l := fun z => by rw [z, k1 _ _ hl] at nb; cases nb
          refine ⟨l, _, _, rfl, rfl, hl2, ?_, ?_⟩
          · rw [hP.length]
            exact small (by omega)
          · refine q _ _ (fun b o e ne => by rw [upd_ne ne]; exact k2 b o e) upd_same ?_
            rw [hg]
            exact (hP.im (k2.im.set hl2 rfl)).append (.cons ⟨b2, rfl, SqT.of (by rw [upd_ne nbl, upd_same])⟩ .nil)
end
end K78
set_option Elab.async false
set_option linter.all false
set_option maxRecDepth 100000
set_option maxHeartbeats 4000000
namespace K78
open PySem PySem.Spec PyProof.Rows L2 SX
section
variable {P : Program} {w : World} {K : PySem.W.Frag} {mg : Str → Option Value} {base : Heap} {fd : FuncData}
/-! ### change_by -/
inductive Itm where
  | num (n : Nat) | txt (s : List Nat)
def Itm.v : Itm → V
  | .num n => .int n
  | .txt s => .str (S s)
structure CB where
  parts : Ch
  come : List Nat
  past : Nat
def cbStep (m : Nat) (st : CB) : Itm → CB
  | .txt s => ⟨st.parts, st.come ++ s, st.past⟩
  | .num i => ⟨grow (grow (grow st.parts (.put st.come)) (.drop (i - st.past))) (.keep (if i < m then 1 else 0)), [], i + 1⟩
def cbRun (m : Nat) (st : CB) (items : List Itm) : CB := items.foldl (cbStep m) st
def changeBy (m : Nat) (items : List Itm) : Ch := (cbRun m ⟨[], [], 0⟩ (items ++ [Itm.num m])).parts
/-- numbers rise, below m -/
def asc (past m : Nat) : List Itm → Prop
  | [] => past ≤ m
  | .num i :: r => past ≤ i ∧ i < m ∧ asc (i + 1) m r
  | .txt _ :: r => asc past m r
def txts : List Itm → Nat
  | [] => 0
  | .num _ :: r => txts r
  | .txt s :: r => s.length + txts r
def okI : List Itm → Prop := fun items => ∀ s, Itm.txt s ∈ items → ∀ n ∈ s, n < 128
def OkItems (m : Nat) (items : List Itm) : Prop := asc 0 m items ∧ m + txts items ≤ 4000 ∧ items.length ≤ 8000 ∧ okI items
/-- all but the object at l stays -/
def KB (l : Addr) (H H' : Hp) : Prop := ∀ b o, H b = some o → b ≠ l → H' b = some o
theorem KB.refl (l : Addr) (H : Hp) : KB l H H := fun _ _ e _ => e
theorem KB.trans {l : Addr} {H H1 H2 : Hp} (a : KB l H H1) (b : KB l H1 H2) : KB l H H2 := fun c o e n => b c o (a c o e n) n
theorem KB.set {l : Addr} {H H1 : Hp} {o : HO} (a : KB l H H1) : KB l H (upd H1 l o) := fun c u e n => by
  rw [upd_ne n]
  exact a c u e n
theorem KB.new {l p : Addr} {H H1 : Hp} {o : HO} (a : KB l H H1) (n : H1 p = none) : KB l H (upd H1 p o) := fun c u e z => keeps_new n _ _ (a c u e z)
theorem KB.keeps {l : Addr} {H0 H H1 : Hp} (k : Keeps H0 H) (n : H0 l = none) (a : KB l H H1) : Keeps H0 H1 := fun c u e => a c u (k c u e) (ne_of_none e n)
theorem KB.im {l : Addr} {H H1 : Hp} {u : HO} (a : KB l H H1) (h : H l = some u) (m : mutO u = true) : Im H H1 := fun c o e z => a c o e fun q => by
  rw [q, h] at e
  cases e
  rw [m] at z
  cases z
theorem grow_size (c : Ch) (p : Pt) : ((grow c p).map Pt.size).sum = (c.map Pt.size).sum + p.size := by
  rcases List.eq_nil_or_concat c with rfl | ⟨c0, q, rfl⟩
  · rw [grow_nil]
    split
    · rename_i h; simp [h]
    · simp
  · rw [List.concat_eq_append, grow_snoc]
    split
    · rename_i h
      have e : (q.plus p).size = q.size + p.size := by
        rcases same_or h with ⟨a, b, rfl, rfl⟩ | ⟨a, b, rfl, rfl⟩ | ⟨a, b, rfl, rfl⟩
        · rfl
        · rfl
        · exact List.length_append
      simp only [List.map_append, List.sum_append, List.map_cons, List.map_nil, List.sum_cons, List.sum_nil, e]
      omega
    · split
      · rename_i h; rw [h, Nat.add_zero]
      · simp; omega
theorem grow_ok {c : Ch} {p : Pt} (h : okC c) (g : p.ok) : okC (grow c p) := by
  rcases List.eq_nil_or_concat c with rfl | ⟨c0, q, rfl⟩
  · rw [grow_nil]
    split
    · exact h
    · intro x hx
      rw [List.mem_singleton.mp hx]
      exact g
  · rw [List.concat_eq_append] at h ⊢
    rw [grow_snoc]
    split
    · rename_i hs
      intro x hx
      rcases List.mem_append.mp hx with hx | hx
      · exact h x (List.mem_append_left _ hx)
      · rw [List.mem_singleton.mp hx]
        have hq := h q (List.mem_append_right _ (List.mem_singleton.mpr rfl))
        rcases same_or hs with ⟨a, b, rfl, rfl⟩ | ⟨a, b, rfl, rfl⟩ | ⟨a, b, rfl, rfl⟩
        · intro s e; cases e
        · intro s e; cases e
        · intro s e
          cases e
          intro n hn
          rcases List.mem_append.mp hn with hn | hn
          · exact hq a rfl n hn
          · exact g b rfl n hn
    · split
      · exact h
      · intro x hx
        rcases List.mem_append.mp hx with hx | hx
        · exact h x hx
        · rw [List.mem_singleton.mp hx]
          exact g
theorem size_mem {c : Ch} {q : Pt} (h : q ∈ c) : q.size ≤ (c.map Pt.size).sum := by
  obtain ⟨i, hi⟩ := List.getElem?_of_mem h
  exact size_le hi
/-- what the loop keeps -/
def Loop (m : Nat) (items : List Itm) (i : Nat) (st : CB) : Prop := st = cbRun m ⟨[], [], 0⟩ ((items ++ [Itm.num m]).take i) ∧ st.parts.length ≤ 3 * i ∧ (st.parts.map Pt.size).sum + st.come.length ≤ st.past + txts ((items ++ [Itm.num m]).take i) ∧ st.past ≤ m + 1 ∧ okC st.parts ∧ (∀ n ∈ st.come, n < 128) ∧
  (∀ j, (items ++ [Itm.num m])[i]? = some (.num j) → st.past ≤ j ∧ j ≤ m)
theorem txts_append (a b : List Itm) : txts (a ++ b) = txts a + txts b := by
  induction a with
  | nil => simp [txts]
  | cons x a ih => cases x with
    | num n => exact ih
    | txt s =>
      show s.length + txts (a ++ b) = s.length + txts a + txts b
      rw [ih]
      omega
theorem txts_take (a : List Itm) (i : Nat) : txts (a.take i) ≤ txts a := by
  conv => rhs; rw [← List.take_append_drop i a, txts_append]
  omega
theorem tkI (c : List Itm) (i : Nat) {p : Itm} (h : c[i]? = some p) : c.take (i + 1) = c.take i ++ [p] := by
  rw [List.take_succ, h]
  rfl
theorem cbRun_snoc (m : Nat) (st : CB) (l : List Itm) (x : Itm) : cbRun m st (l ++ [x]) = cbStep m (cbRun m st l) x := by
  unfold cbRun
  rw [List.foldl_append]
  rfl
/-- the next number is not behind -/
theorem asc_next {m : Nat} : ∀ (items : List Itm) (past i j : Nat) (st : CB), asc past m items → st.past = past → (items ++ [Itm.num m])[i]? = some (.num j) → (cbRun m st ((items ++ [Itm.num m]).take i)).past ≤ j ∧ j ≤ m
  | [], past, 0, j, st, h, e, z => by
    cases z
    have h : past ≤ m := h
    exact ⟨by show st.past ≤ m; omega, Nat.le_refl _⟩
  | [], past, i + 1, j, st, h, e, z => by cases z
  | .num k :: r, past, 0, j, st, h, e, z => by
    cases z
    exact ⟨by show st.past ≤ k; rw [e]; exact h.1, Nat.le_of_lt h.2.1⟩
  | .txt s :: r, past, 0, j, st, h, e, z => by cases z
  | .num k :: r, past, i + 1, j, st, h, e, z => asc_next r (k + 1) i j (cbStep m st (.num k)) h.2.2 rfl z
  | .txt s :: r, past, i + 1, j, st, h, e, z => asc_next r past i j (cbStep m st (.txt s)) h e z
theorem loop0 {m : Nat} {items : List Itm} (h : OkItems m items) : Loop m items 0 ⟨[], [], 0⟩ :=
  ⟨rfl, Nat.le_refl _, Nat.zero_le _, Nat.zero_le _, fun _ z => (List.not_mem_nil z).elim, fun _ z => (List.not_mem_nil z).elim, fun j z => asc_next items 0 0 j ⟨[], [], 0⟩ h.1 rfl z⟩
theorem loop_txt {m : Nat} {items : List Itm} (h : OkItems m items) {i : Nat} {st : CB} (L : Loop m items i st) {s : List Nat} (e : (items ++ [Itm.num m])[i]? = some (.txt s)) : Loop m items (i + 1) ⟨st.parts, st.come ++ s, st.past⟩ := by
  obtain ⟨l1, l2, l3, l4, l5, l6, l7⟩ := L
  have e1 := tkI _ i e
  have r : (⟨st.parts, st.come ++ s, st.past⟩ : CB) = cbRun m ⟨[], [], 0⟩ ((items ++ [Itm.num m]).take (i + 1)) := by
    rw [e1, cbRun_snoc, ← l1]
    rfl
  refine ⟨r, by show st.parts.length ≤ _; omega, ?_, l4, l5, fun n hn => ?_, fun j z => ?_⟩
  · show (st.parts.map Pt.size).sum + (st.come ++ s).length ≤ st.past + _
    rw [e1, txts_append, List.length_append]
    show _ ≤ st.past + (_ + (s.length + 0))
    omega
  · rcases List.mem_append.mp hn with hn | hn
    · exact l6 n hn
    · have hm := List.mem_of_getElem? e
      rcases List.mem_append.mp hm with hm | hm
      · exact h.2.2.2 s hm n hn
      · cases List.mem_singleton.mp hm
  · rw [r]
    exact asc_next items 0 (i + 1) j ⟨[], [], 0⟩ h.1 rfl z
theorem loop_num {m : Nat} {items : List Itm} (h : OkItems m items) {i : Nat} {st : CB} (L : Loop m items i st) {k : Nat} (e : (items ++ [Itm.num m])[i]? = some (.num k)) : Loop m items (i + 1) (cbStep m st (.num k)) := by
  obtain ⟨l1, l2, l3, l4, l5, l6, l7⟩ := L
  obtain ⟨p1, p2⟩ := l7 k e
  have e1 := tkI _ i e
  have r : cbStep m st (.num k) = cbRun m ⟨[], [], 0⟩ ((items ++ [Itm.num m]).take (i + 1)) := by
    rw [e1, cbRun_snoc, ← l1]
  have g1 := grow_len st.parts (.put st.come)
  have g2 := grow_len (grow st.parts (.put st.come)) (.drop (k - st.past))
  have g3 := grow_len (grow (grow st.parts (.put st.come)) (.drop (k - st.past))) (.keep (if k < m then 1 else 0))
  refine ⟨r, ?_, ?_, ?_, ?_, fun n hn => (List.not_mem_nil hn).elim, fun j z => ?_⟩
  · show (grow (grow (grow st.parts (.put st.come)) (.drop (k - st.past))) (.keep (if k < m then 1 else 0))).length ≤ _
    omega
  · show ((grow (grow (grow st.parts (.put st.come)) (.drop (k - st.past))) (.keep (if k < m then 1 else 0))).map Pt.size).sum + 0 ≤ k + 1 + _
    rw [grow_size, grow_size, grow_size, e1, txts_append]
    show (st.parts.map Pt.size).sum + st.come.length + (k - st.past) + (if k < m then 1 else 0) + 0 ≤ k + 1 + (_ + 0)
    split <;> omega
  · show k + 1 ≤ m + 1
    omega
  · refine grow_ok (grow_ok (grow_ok l5 ?_) ?_) ?_
    · intro s z; cases z; exact l6
    · intro s z; cases z
    · intro s z; cases z
  · rw [r]
    exact asc_next items 0 (i + 1) j ⟨[], [], 0⟩ h.1 rfl z

def sc_change_byN : List Str := ["many", "items", "parts", "come", "past", "item"]
theorem sc_change_by : FnScope sc_change_byN ["many", "items"] (defScope s_change_by) := ⟨rfl, rfl, rfl, by decide +kernel, rfl, by decide +kernel, by decide +kernel⟩
def sp_change_by (K : PySem.W.Frag) : Sp := fun vs H Q _ => ∃ (m : Nat) (a : Addr) (items : List Itm), vs = [.int m, .ref a] ∧ H a = some (.lst (items.map Itm.v)) ∧ OkItems m items ∧
  ∀ v H1, Keeps H H1 → ChAt K H1 v (changeBy m items) → Q v H1
theorem ok_change_by (F : FnP K d_change_by fd) (T : Tx K mg) {fdG : FuncData} (FG : FnP K d_grown fdG) : FnOk P w K mg base CX0 2 (He.fAd K d_change_by.at_) fd ["many", "items"] (sp_change_by K) := by
  have GG : FnOk P w K mg base CX0 1 _ fdG ["parts", "word", "what"] (sp_grown K) := ok_grown FG T
  have bG : Binds K fdG ["parts", "word", "what"] [] := FG.bindsN fun _ _ _ _ _ _ us hl => match us, hl with | [_, _, _], _ => rfl
  refine F.ok sc_change_by (fun vs H Q E h => ?_) (fun cdv A outer s H vs Q E hr h => ?_)
  · obtain ⟨m, a, items, rfl, ha, hok, q⟩ := h
    rfl
  · obtain ⟨m, a, items, rfl, ha, hok, q⟩ := h
    refine ⟨_, PSs.nox (pss_cons (ps_set (i := 2) sc_change_by.nd rfl (.inl rfl) (pe_lst pa_nil))
  (pss_cons (ps_set (i := 3) sc_change_by.nd rfl (.inl rfl) pe_str)
  (pss_cons (ps_set (i := 4) sc_change_by.nd rfl (.inl rfl) pe_int)
  (pss_cons (ps_for PassesOwn.never rfl (pi_list (pe_op op_cat (pv 1) (pe_lst (pa_cons (pv 0) pa_nil)))) (pg_name (i := 5) sc_change_by.nd rfl (.inl rfl)) (pss_one (ps_if (pt_val (pe_callB call_isi (by rfl) T.free (by decide +kernel) (pa_cons (pv 5) (pa_cons (pe_bltn (v := .ty "str") (by rfl) T.free (by decide +kernel) rfl) pa_nil)))) (pss_one (ps_aug (i := 3) sc_change_by.nd rfl (.inl rfl) (pv 5) in_addS)) (pss_cons (ps_expr (pe_call GG hr (by rfl) T.glo FG.kp bG .nil pass0 (pa_cons (pv 2) (pa_cons pe_str (pa_cons (pv 3) pa_nil)))))
  (pss_cons (ps_expr (pe_call GG hr (by rfl) T.glo FG.kp bG .nil pass0 (pa_cons (pv 2) (pa_cons pe_str (pa_cons (pe_op op_sub (pv 5) (pv 4)) pa_nil)))))
  (pss_cons (ps_expr (pe_call GG hr (by rfl) T.glo FG.kp bG .nil pass0 (pa_cons (pv 2) (pa_cons pe_str (pa_cons (pe_callTy call_int1 (by rfl) T.free (by decide +kernel) (pa_cons (pe_cmpR op_lt (pv 5) (pv 0) (nomark _)) pa_nil)) pa_nil)))))
  (pss_one (ps_par (i := 3) (j := 4) rfl sc_change_by.nd rfl rfl (by decide) rfl rfl (pa_cons pe_str (pa_cons (pe_op op_add (pv 5) pe_int) pa_nil)) (by rfl)))))))))
  (pss_one (ps_ret (pe_callTy call_tuple_of (by rfl) T.free (by decide +kernel) (pa_cons (pv 2) pa_nil)))))))), ?_⟩
    refine ⟨(by show 0 ≤ sizeLine; decide), fun l nl => ?_⟩
    have k0 := keeps_new (o := .lst []) nl
    have hlen : (items ++ [Itm.num m]).length ≤ 8001 := by
      have := hok.2.2.1
      rw [List.length_append]
      show items.length + 1 ≤ 8001
      omega
    refine ⟨_, rfl, _, rfl, (by show 1 ≤ sizeLine; decide), fun q1 n1 => ⟨a, q1, _, _, rfl, rfl, keeps_new n1 _ _ (k0 _ _ ha), upd_same, ?_, fun q2 n2 => ?_⟩⟩
    · rw [List.length_map]
      have := hok.2.2.1
      show items.length + 1 ≤ sizeLine
      exact Nat.le_of_lt (small (by omega))
    have k2 := (k0.new (o := .lst [.int m]) n1).new (o := .lst (items.map Itm.v ++ [.int m])) n2
    have nq2l : q2 ≠ l := fun z => by
      rw [z] at n2
      have := keeps_new (o := .lst [.int m]) n1 l _ (upd_same (H := H) (o := .lst []))
      rw [this] at n2
      cases n2
    have hl2 : upd (upd (upd H l (.lst [])) q1 (.lst [.int m])) q2 (.lst (items.map Itm.v ++ [.int m])) l = some (.lst []) := keeps_new n2 _ _ (keeps_new n1 _ _ upd_same)
    have hq2 : upd (upd (upd H l (.lst [])) q1 (.lst [.int m])) q2 (.lst (items.map Itm.v ++ [.int m])) q2 = some (.lst (items.map Itm.v ++ [.int m])) := upd_same
    generalize hH2 : upd (upd (upd H l (.lst [])) q1 (.lst [.int m])) q2 (.lst (items.map Itm.v ++ [.int m])) = H2 at k2 hl2 hq2
    refine ⟨q2, rfl, ⟨_, SqL.of hq2⟩, ?_⟩
    have exs : items.map Itm.v ++ [.int m] = (items ++ [Itm.num m]).map Itm.v := by rw [List.map_append]; rfl
    rw [exs] at hq2
    refine for_list (xs := (items ++ [Itm.num m]).map Itm.v) (fun i σ H' => ∃ st ts v5, Loop m items i st ∧ σ = [some (.int m), some (.ref a), some (.ref l), some (.str (S st.come)), some (.int st.past), v5] ∧ KB l H2 H' ∧ H' l = some (.lst ts) ∧ PtsAt K H' ts st.parts)
      ⟨_, [], _, loop0 hok, rfl, KB.refl _ _, hl2, .nil⟩ (fun i σ H' _ z => ?_) ?_ ?_
    · obtain ⟨st, ts, v5, _, _, kb, _⟩ := z
      exact SqL.of (kb _ _ hq2 nq2l)
    · rintro i x σ H3 hx ⟨st, ts, v5, L, rfl, kb, h1, hP⟩
      rw [List.getElem?_map] at hx
      have hi : i < (items ++ [Itm.num m]).length := by
        cases z : (items ++ [Itm.num m])[i]? with
        | none => rw [z] at hx; cases hx
        | some _ => exact (List.getElem?_eq_some_iff.mp z).1
      have hsz := L.2.2.1
      have hst := txts_take (items ++ [Itm.num m]) i
      have hst2 : txts (items ++ [Itm.num m]) = txts items := by rw [txts_append]; exact Nat.add_zero _
      have hb := hok.2.1
      have hp := L.2.2.2.1
      have hpl := L.2.1
      cases hit : (items ++ [Itm.num m])[i]? with
      | none => rw [hit] at hx; cases hx
      | some it =>
        rw [hit] at hx
        cases hx
        cases it with
        | txt s =>
          have hs : s.length ≤ 4000 := by
            have e1 := tkI _ i hit
            have e2 := txts_take (items ++ [Itm.num m]) (i + 1)
            rw [e1, txts_append] at e2
            have : txts [Itm.txt s] = s.length := Nat.add_zero _
            omega
          refine ⟨_, rfl, _, _, _, _, true, rfl, .ty _, .base (.str _), kit_ty (by decide +kernel), _, rfl, iteT ?_⟩
          refine ⟨_, rfl, _, rfl, _, _, rfl, rfl, ?_, ?_⟩
          · rw [S_len, S_len]
            exact Nat.le_of_lt (small (by omega))
          · rw [S_cat]
            exact ⟨_, ts, _, loop_txt hok L hit, rfl, kb, h1, hP⟩
        | num k =>
          obtain ⟨p1, p2⟩ := L.2.2.2.2.2.2 k hit
          refine ⟨_, rfl, _, _, _, _, false, rfl, .ty _, .base (.int _), kit_ty (by decide +kernel), _, rfl, iteF ?_⟩
          have hsm : ∀ {c : Ch} {n : Nat}, (c.map Pt.size).sum ≤ n → ∀ q ∈ c, q.size ≤ n := fun h q hq => Nat.le_trans (size_mem hq) h
          refine ⟨_, rfl, _, rfl, l, ts, st.parts, .put st.come, rfl, h1, hP, by omega, fun x hx => ?_, L.2.2.2.2.1, fun ts1 H4 kb1 h2 hP1 => ?_⟩
          · have := size_mem hx
            show x.size + st.come.length ≤ 100000
            omega
          have g1 := grow_len st.parts (.put st.come)
          have z1 := grow_size st.parts (.put st.come)
          have z1' : (Pt.put st.come).size = st.come.length := rfl
          have o1 : okC (grow st.parts (.put st.come)) := grow_ok L.2.2.2.2.1 (fun s z => by cases z; exact L.2.2.2.2.2.1)
          refine ⟨_, rfl, _, rfl, _, rfl, _, _, rfl, rfl, l, ts1, _, .drop (k - st.past), ?_, h2, hP1, by omega, fun x hx => ?_, o1, fun ts2 H5 kb2 h3 hP2 => ?_⟩
          · have ez : (k : Int) - (st.past : Int) = ((k - st.past : Nat) : Int) := by omega
            show [V.ref l, V.str "drop", V.int ((k : Int) - (st.past : Int))] = _
            rw [ez]
            rfl
          · have := size_mem hx
            show x.size + (k - st.past) ≤ 100000
            omega
          have g2 := grow_len (grow st.parts (.put st.come)) (.drop (k - st.past))
          have z2 := grow_size (grow st.parts (.put st.come)) (.drop (k - st.past))
          have z2' : (Pt.drop (k - st.past)).size = k - st.past := rfl
          have o2 := grow_ok o1 (p := .drop (k - st.past)) (fun s z => by cases z)
          refine ⟨_, rfl, _, rfl, _, rfl, _, _, rfl, rfl, .inr ⟨_, rfl, l, ts2, _, .keep (if k < m then 1 else 0), ?_, h3, hP2, by omega, fun x hx => ?_, o2, fun ts3 H6 kb3 h4 hP3 => ?_⟩⟩
          · have ez : (if decide ((k : Int) < (m : Int)) = true then (1 : Int) else 0) = ((if k < m then 1 else 0 : Nat) : Int) := by
              by_cases hkm : k < m
              · rw [if_pos hkm, if_pos (decide_eq_true (by omega))]; rfl
              · rw [if_neg hkm, if_neg (by rw [decide_eq_false (by omega)]; exact Bool.false_ne_true)]; rfl
            show [V.ref l, V.str "keep", V.int (if decide ((k : Int) < (m : Int)) = true then (1 : Int) else 0)] = _
            rw [ez]
            rfl
          · have := size_mem hx
            show x.size + (if k < m then 1 else 0) ≤ 100000
            split <;> omega
          refine ⟨_, rfl, _, _, rfl, rfl, _, _, rfl, ?_⟩
          refine ⟨_, ts3, _, loop_num hok L hit, rfl, ?_, h4, hP3⟩
          exact kb.trans (KB.trans kb1 (KB.trans kb2 kb3))
    · rintro σ H3 ⟨st, ts, v5, L, rfl, kb, h1, hP⟩
      have e : st.parts = changeBy m items := by
        rw [L.1, List.length_map, List.take_length]
        rfl
      refine ⟨_, rfl, l, ts, rfl, .inl ⟨SqL.of h1, fun t nt => ?_⟩⟩
      refine q _ _ ((KB.keeps k2 nl kb).new nt) ⟨t, ts, rfl, SqT.of upd_same, ?_⟩
      rw [← e]
      exact hP.im (keeps_new nt).im
end
end K78
set_option Elab.async false
set_option linter.all false
set_option maxRecDepth 100000
set_option maxHeartbeats 4000000
namespace K78
open PySem PySem.Spec PyProof.Rows L2 SX
section
variable {P : Program} {w : World} {K : PySem.W.Frag} {mg : Str → Option Value} {base : Heap} {fd : FuncData}
/-- list(text) -/
theorem call_list_strC {X : Cx} (hc : X.calm = true) : CallR X (.type "list") (fun xs H Q => ∃ l : List Nat, xs = [.str (S l)] ∧ l.length ≤ sizeLine ∧ ∀ p, H p = none → Q (.ref p) (upd H p (.lst (l.map fun c => V.str (S [c]))))) := by
  intro pins s σ H xs us Q I r h
  obtain ⟨l, rfl, hz, q⟩ := h
  obtain ⟨u, rfl, r1⟩ := vals1 r
  obtain ⟨t, rfl⟩ := r1
  refine PySem.call_list_str (I.ok.hd hc) (S l) t (fun h' tk acc c' hk e hi => ?_) hz
  refine ⟨.ref s.heap.objs.size, upd H s.heap.objs.size (.lst (l.map fun c => V.str (S [c]))), I.laid hk (Nat.le_refl _) ⟨by rw [List.length_map]; exact hz, acc.toList, c', ?_, by rw [Array.toArray_toList]; exact e⟩, rfl, q _ (I.hok.fresh (Nat.le_refl _))⟩
  refine vals_of_idx _ _ (by rw [List.length_map, Array.length_toList]; exact hi.1) fun j u hj => ?_
  obtain ⟨c, t', hc, rfl⟩ := hi.2 j u (by rw [← Array.getElem?_toList]; exact hj)
  have hc2 : l[j]? = some c := by
    have z : (l.toArray)[j]? = some c := hc
    rw [List.getElem?_toArray] at z
    exact z
  exact ⟨V.str (S [c]), by rw [List.getElem?_map, hc2]; rfl, ⟨_, rfl⟩⟩
theorem ne_no {a b : Nat} (h : a = b) {A B : Prop} (q : B) : if (!decide (V.int (a : Int) = V.int (b : Int))) = true then A else B := by
  rw [h, decide_eq_true rfl]
  exact iteF q
theorem cut_mid (l : List Nat) (a n : Nat) (h : a + n ≤ l.length) : cutS (S l) (some (a : Int)) (some ((a : Int) + (n : Int))) = S ((l.drop a).take n) := by
  unfold cutS
  have e : ((a : Int) + (n : Int)) = ((a + n : Nat) : Int) := by omega
  rw [e, HT.sIx_nat, HT.sIx_nat, S_len, Nat.min_eq_left h, Nat.min_eq_left (show a ≤ l.length by omega), Nat.add_sub_cancel_left]
/-! ### changed -/
/-- the text that a change makes -/
def runC : Ch → List Nat → List Nat
  | [], _ => []
  | .keep n :: r, t => t.take n ++ runC r (t.drop n)
  | .drop n :: r, t => runC r (t.drop n)
  | .put s :: r, t => s ++ runC r t
def piece (t : List Nat) (at_ : Nat) : Pt → List Nat
  | .keep n => (t.drop at_).take n
  | .drop _ => []
  | .put s => s
def pieces (t : List Nat) : Nat → Ch → List (List Nat)
  | _, [] => []
  | k, p :: r => piece t k p :: pieces t (k + p.want) r
theorem pieces_snoc (t : List Nat) (k : Nat) (c : Ch) (p : Pt) : pieces t k (c ++ [p]) = pieces t k c ++ [piece t (k + wanted c) p] := by
  induction c generalizing k with
  | nil => rfl
  | cons q c ih =>
    show piece t k q :: pieces t (k + q.want) (c ++ [p]) = _
    rw [ih]
    have e : k + wanted (q :: c) = k + q.want + wanted c := (Nat.add_assoc _ _ _).symm
    rw [e]
    rfl
theorem pieces_run (t : List Nat) (k : Nat) (c : Ch) : (pieces t k c).flatten = runC c (t.drop k) := by
  induction c generalizing k with
  | nil => rfl
  | cons p c ih =>
    cases p with
    | keep n =>
      show (t.drop k).take n ++ (pieces t (k + n) c).flatten = (t.drop k).take n ++ runC c ((t.drop k).drop n)
      rw [ih, List.drop_drop]
    | drop n =>
      show [] ++ (pieces t (k + n) c).flatten = runC c ((t.drop k).drop n)
      rw [ih, List.drop_drop]
      rfl
    | put s =>
      show s ++ (pieces t (k + 0) c).flatten = s ++ runC c (t.drop k)
      rw [ih]
      rfl
theorem pieces_len (t : List Nat) (k : Nat) (c : Ch) : (pieces t k c).length = c.length := by
  induction c generalizing k with
  | nil => rfl
  | cons p c ih => exact congrArg Nat.succ (ih _)
theorem pieces_sum (t : List Nat) (k : Nat) (c : Ch) : ((pieces t k c).map (·.length)).sum ≤ (c.map Pt.size).sum := by
  induction c generalizing k with
  | nil => exact Nat.le_refl _
  | cons p c ih =>
    show (piece t k p).length + ((pieces t (k + p.want) c).map (·.length)).sum ≤ p.size + (c.map Pt.size).sum
    have h : (piece t k p).length ≤ p.size := by
      cases p with
      | keep n => exact List.length_take_le _ _
      | drop n => exact Nat.zero_le _
      | put s => exact Nat.le_refl _
    have := ih (k + p.want)
    omega
theorem joinL_nil : ∀ ys : List (List Nat), TL.joinL [] ys = ys.flatten
  | [] => rfl
  | [p] => (List.append_nil p).symm
  | p :: q :: r => by
    show p ++ ([] ++ TL.joinL [] (q :: r)) = p ++ (q :: r).flatten
    rw [joinL_nil (q :: r)]
    rfl
theorem wanted_at {c : Ch} {i : Nat} {p : Pt} (h : c[i]? = some p) : wanted (c.take i) + p.want ≤ wanted c := by
  have e := wanted_take c (i + 1)
  rw [tk c i h, wanted_snoc] at e
  exact e

def sc_changedN : List Str := ["text", "change", "found", "at", "word", "what"]
theorem sc_changed : FnScope sc_changedN ["text", "change"] (defScope s_changed) := ⟨rfl, rfl, rfl, by decide +kernel, rfl, by decide +kernel, by decide +kernel⟩
def sp_changed (K : PySem.W.Frag) : Sp := fun vs H Q _ => ∃ (t : List Nat) (v : V) (c : Ch), vs = [.str (S t), v] ∧ ChAt K H v c ∧ Sm c ∧ t.length = wanted c ∧ ∀ H1, Keeps H H1 → Q (.str (S (runC c t))) H1
theorem ok_changed (F : FnP K d_changed fd) (T : Tx K mg) {fdW : FuncData} (FW : FnP K d_wanted fdW) : FnOk P w K mg base CX0 2 (He.fAd K d_changed.at_) fd ["text", "change"] (sp_changed K) := by
  have GW : FnOk P w K mg base CX0 1 _ fdW ["change"] (sp_wanted K) := ok_wanted FW T
  have bW : Binds K fdW ["change"] [] := FW.bindsN fun _ _ _ _ _ _ us hl => match us, hl with | [_], _ => rfl
  refine F.ok sc_changed (fun vs H Q E h => ?_) (fun cdv A outer s H vs Q E hr h => ?_)
  · obtain ⟨t, v, c, rfl, ⟨a, ts, rfl, hT, hP⟩, sm, hlen, q⟩ := h
    rfl
  · obtain ⟨t, v, c, rfl, ⟨a, ts, rfl, hT, hP⟩, sm, hlen, q⟩ := h
    refine ⟨_, PSs.nox (pss_cons (ps_if (pt_cmpR op_ne (pe_callB call_len (by rfl) T.free (by decide +kernel) (pa_cons (pv 0) pa_nil)) (pe_call GW hr (by rfl) T.glo FW.kp bW .nil pass0 (pa_cons (pv 1) pa_nil)) (nomark _)) (pss_one ps_never) pss_nil)
  (pss_cons (ps_set (i := 2) sc_changed.nd rfl (.inl rfl) (pe_lst pa_nil))
  (pss_cons (ps_set (i := 3) sc_changed.nd rfl (.inl rfl) pe_int)
  (pss_cons (ps_for PassesOwn.never rfl (pi_tup (pv 1)) (pg_tup rfl (pgs_cons (pg_name (i := 4) sc_changed.nd rfl (.inl rfl)) (pgs_cons (pg_name (i := 5) sc_changed.nd rfl (.inl rfl)) pgs_nil))) (pss_one (ps_if (pt_cmpR op_eq (pv 4) pe_str (nomark _)) (pss_one (ps_expr (pe_bm PySem.F.plainAttrs_list PySem.F.slot_list_append PySem.F.type_list_append mt_append (pv 2) (pa_cons (pv 5) pa_nil)))) (pss_cons (ps_expr (pe_bm PySem.F.plainAttrs_list PySem.F.slot_list_append PySem.F.type_list_append mt_append (pv 2) (pa_cons (pe_ifExp (pt_cmpR op_eq (pv 4) pe_str (nomark _)) (pe_slice sl_str (pv 0) (po_some (pv 3)) (po_some (pe_op op_add (pv 3) (pv 5)))) pe_str) pa_nil)))
  (pss_one (ps_aug (i := 3) sc_changed.nd rfl (.inl rfl) (pv 5) ip_add))))))
  (pss_one (ps_ret (pe_join pe_str (pv 2)))))))), ?_⟩
    have htl : t.length ≤ 4000 := by have := wanted_le c; have := sm.2.1; omega
    refine ⟨_, rfl, _, _, rfl, ⟨by rw [S_len]; exact Nat.le_of_lt (small (by omega)), rfl⟩, _, rfl, _, c, rfl, ⟨a, ts, rfl, hT, hP⟩, sm, fun H1 k1 => ⟨rfl, _, rfl, ne_no (by rw [S_len, hlen]) ?_⟩⟩
    refine ⟨(by show 0 ≤ sizeLine; decide), fun l nl => ?_⟩
    refine ⟨_, rfl, a, rfl, ⟨_, sqT_im (k1.new nl).im hT⟩, for_it walk_tup (fun i σ H' => (∃ v4 v5, σ = [some (.str (S t)), some (.ref a), some (.ref l), some (.int (wanted (c.take i))), v4, v5]) ∧ Keeps H H' ∧ H' l = some (.lst (((pieces t 0 (c.take i)).map S).map V.str)))
      ⟨⟨_, _, rfl⟩, k1.new nl, upd_same⟩ (fun i σ H' _ z => sqT_im z.2.1.im hT) ?_ ?_⟩
    · rintro i x σ H2 H3 hi ⟨⟨v4, v5, rfl⟩, k2, h1⟩ ⟨rfl, hx⟩
      obtain ⟨p, hp, b, rfl, hb⟩ := hP.get hx
      have e1 := pieces_snoc t 0 (c.take i) p
      have e2 := wanted_snoc (c.take i) p
      have e3 := wanted_at hp
      rw [← tk c i hp] at e1 e2
      rw [Nat.zero_add] at e1
      have nl0 : H l = none := k1.free nl
      have len : (((pieces t 0 (c.take i)).map S).map V.str).length < sizeLine := by
        rw [List.length_map, List.length_map, pieces_len]
        exact small (Nat.le_trans (sm.take i) (by decide))
      refine ⟨b, _, rfl, sqT_im k2.im hb, rfl, _, _, rfl, _, _, rfl, rfl, _, rfl, scal_w p "put", _, rfl, ?_⟩
      show if decide (V.str p.w = V.str "put") = true then _ else _
      rw [w_put]
      cases p with
      | put s =>
        refine iteT ⟨_, rfl, .inl ⟨rfl, _, SqL.of h1⟩, _, rfl, l, _, _, rfl, rfl, h1, len, ⟨some (.str (Pt.put s).w), some (Pt.put s).v, ?_⟩, k2.set nl0, ?_⟩
        · rw [e2]
          rfl
        · rw [upd_same, e1, List.map_append, List.map_append]
          rfl
      | keep n =>
        have e3 : wanted (c.take i) + n ≤ wanted c := e3
        refine iteF ⟨_, rfl, .inl ⟨rfl, _, SqL.of h1⟩, _, rfl, scal_w (.keep n) "keep", _, rfl, iteT ⟨_, rfl, _, rfl, _, rfl, _, rfl, _, rfl, _, _, rfl, rfl, _, rfl, _, rfl, by rw [S_len]; exact Nat.le_of_lt (small (by omega)), ?_⟩⟩
        rw [cut_mid t _ n (by omega)]
        refine ⟨l, _, _, rfl, rfl, h1, len, _, rfl, _, rfl, _, _, rfl, rfl, ⟨some (.str (Pt.keep n).w), some (Pt.keep n).v, ?_⟩, k2.set nl0, ?_⟩
        · rw [e2]
          rfl
        · rw [upd_same, e1, List.map_append, List.map_append]
          rfl
      | drop n =>
        refine iteF ⟨_, rfl, .inl ⟨rfl, _, SqL.of h1⟩, _, rfl, scal_w (.drop n) "keep", _, rfl, iteF ?_⟩
        refine ⟨l, _, _, rfl, rfl, h1, len, _, rfl, _, rfl, _, _, rfl, rfl, ⟨some (.str (Pt.drop n).w), some (Pt.drop n).v, ?_⟩, k2.set nl0, ?_⟩
        · rw [e2]
          rfl
        · rw [upd_same, e1, List.map_append, List.map_append]
          rfl
    · rintro σ H2 ⟨⟨v4, v5, rfl⟩, k2, h1⟩
      rw [hP.length, List.take_length] at h1
      refine ⟨⟨_, rfl⟩, _, rfl, S [], l, (pieces t 0 c).map S, rfl, rfl, .inl (SqL.of h1), ?_, ?_⟩
      · rw [lens, S_len]
        have := pieces_sum t 0 c
        have := sm.2.1
        show _ + _ * 0 ≤ 16777216
        omega
      · rw [join_S, joinL_nil, pieces_run]
        exact q H2 k2
end
end K78
set_option Elab.async false
set_option linter.all false
set_option maxRecDepth 100000
set_option maxHeartbeats 4000000
namespace K78
open PySem PySem.Spec PyProof.Rows L2 SX
section
variable {P : Program} {w : World} {K : PySem.W.Frag} {mg : Str → Option Value} {base : Heap} {fd : FuncData}
/-! ### made_of -/
def putAt (ps : List (Nat × List Nat)) (k : Nat) : Option (List Nat) := (ps.find? fun q => decide (q.1 = k)).map (·.2)
theorem valV_kvs (ps : List (Nat × List Nat)) (k : Nat) : valV (kvs ps) (Sum.inl (k : Int)) = (putAt ps k).map fun s => V.str (S s) := by
  unfold valV putAt kvs
  induction ps with
  | nil => rfl
  | cons q ps ih =>
    rw [List.map_cons, List.find?_cons, List.find?_cons]
    by_cases h : q.1 = k
    · rw [decide_eq_true h, decide_eq_true (by rw [h])]
      rfl
    · rw [decide_eq_false h, decide_eq_false (fun z => h (by have := Sum.inl.inj z; omega))]
      exact ih
/-- the text that is put at a place -/
def putT (c : Ch) (k : Nat) : List Nat := (putAt (putsOf c) k).getD []
def atPlace (c : Ch) (k : Nat) : List Itm := ((putT c k).map fun n => Itm.txt [n]) ++ (if (stays c)[k]? = some true then [Itm.num k] else [])
def made (c : Ch) : List Itm := (List.range (wanted c + 1)).flatMap (atPlace c)
theorem put_len {c : Ch} (k : Nat) : (putT c k).length ≤ (c.map Pt.size).sum := by
  have key : ∀ (c : Ch) (j : Nat), ((putAt (putsGo j c) k).getD []).length ≤ (c.map Pt.size).sum := fun c => by
    induction c with
    | nil => exact fun j => Nat.le_refl _
    | cons p c ih =>
      intro j
      cases p with
      | keep n => exact Nat.le_trans (ih (j + n)) (Nat.le_add_left _ _)
      | drop n => exact Nat.le_trans (ih (j + n)) (Nat.le_add_left _ _)
      | put s =>
        have h1 := ih j
        show ((putAt ((j, s) :: putsGo j c) k).getD []).length ≤ s.length + (c.map Pt.size).sum
        unfold putAt at h1 ⊢
        rw [List.find?_cons]
        cases hz : decide (j = k) with
        | true => exact Nat.le_add_right _ _
        | false => exact Nat.le_trans h1 (Nat.le_add_left _ _)
  exact key c 0
/-- all that is put together -/
theorem made_len_take (c : Ch) (i : Nat) : ((List.range i).flatMap (atPlace c)).length ≤ i * (1 + (c.map Pt.size).sum) := by
  induction i with
  | zero => simp
  | succ i ih =>
    rw [List.range_succ, List.flatMap_append, List.length_append]
    have h1 : (([i] : List Nat).flatMap (atPlace c)).length ≤ 1 + (c.map Pt.size).sum := by
      rw [List.flatMap_cons, List.flatMap_nil, List.append_nil]
      unfold atPlace
      rw [List.length_append, List.length_map]
      have := put_len (c := c) i
      split <;> simp <;> omega
    rw [Nat.succ_mul]
    omega

def sc_made_ofN : List Str := ["change", "stays", "puts", "found", "place"]
theorem sc_made_of : FnScope sc_made_ofN ["change"] (defScope s_made_of) := ⟨rfl, rfl, rfl, by decide +kernel, rfl, by decide +kernel, by decide +kernel⟩
def sp_made_of (K : PySem.W.Frag) : Sp := fun vs H Q _ => ∃ (v : V) (c : Ch), vs = [v] ∧ ChAt K H v c ∧ Sm c ∧ Fr c ∧ ∀ l H1, Keeps H H1 → H l = none → H1 l = some (.lst ((made c).map Itm.v)) → Q (.ref l) H1
theorem ok_made_of (F : FnP K d_made_of fd) (T : Tx K mg) {fdS : FuncData} (FS : FnP K d_spelt fdS) : FnOk P w K mg base CX0 2 (He.fAd K d_made_of.at_) fd ["change"] (sp_made_of K) := by
  have GS : FnOk P w K mg base CX0 1 _ fdS ["change"] (sp_spelt K) := ok_spelt FS T
  have bS : Binds K fdS ["change"] [] := FS.bindsN fun _ _ _ _ _ _ us hl => match us, hl with | [_], _ => rfl
  refine F.ok sc_made_of (fun vs H Q E h => ?_) (fun cdv A outer s H vs Q E hr h => ?_)
  · obtain ⟨v, c, rfl, hC, sm, fr, q⟩ := h
    rfl
  · obtain ⟨v, c, rfl, hC, sm, fr, q⟩ := h
    refine ⟨_, PSs.nox (pss_cons (ps_asg (pe_call GS hr (by rfl) T.glo FS.kp bS .nil pass0 (pa_cons (pv 0) pa_nil)) (pg_tup rfl (pgs_cons (pg_name (i := 1) sc_made_of.nd rfl (.inl rfl)) (pgs_cons (pg_name (i := 2) sc_made_of.nd rfl (.inl rfl)) pgs_nil))))
  (pss_cons (ps_set (i := 3) sc_made_of.nd rfl (.inl rfl) (pe_lst pa_nil))
  (pss_cons (ps_for PassesOwn.never rfl (pi_range1 (by rfl) T.free (pa_cons (pe_op op_add (pe_callB call_len (by rfl) T.free (by decide +kernel) (pa_cons (pv 1) pa_nil)) pe_int) pa_nil)) (pg_name (i := 4) sc_made_of.nd rfl (.inl rfl)) (pss_cons (ps_expr (pe_bm PySem.F.plainAttrs_list PySem.F.slot_list_extend PySem.F.type_list_extend mt_extend (pv 3) (pa_cons (pe_callTy (call_list_strC rfl) (by rfl) T.free (by decide +kernel) (pa_cons (pe_dget2 (hu_of hr) (pv 2) (pv 4) pe_str ⟨rfl, rfl, rfl, rfl⟩) pa_nil)) pa_nil)))
  (pss_one (ps_if (PW.pt (pw_and (pt_cmpR op_lt (pv 4) (pe_callB call_len (by rfl) T.free (by decide +kernel) (pa_cons (pv 1) pa_nil)) (nomark _)) (pw_and1 (pt_val (pe_ix ix_list (pv 1) (pv 4) (fun _ _ => rfl)))))) (pss_one (ps_expr (pe_bm PySem.F.plainAttrs_list PySem.F.slot_list_append PySem.F.type_list_append mt_append (pv 3) (pa_cons (pv 4) pa_nil)))) pss_nil))))
  (pss_one (ps_ret (pv 3)))))), ?_⟩
    refine ⟨_, rfl, v, c, rfl, hC, sm, fr, fun t ls dp H1 k1 nls ndp ht hls hdp => ?_⟩
    refine ⟨t, _, rfl, SqT.of ht, rfl, _, _, rfl, _, _, rfl, rfl, ?_⟩
    refine ⟨(by show 0 ≤ sizeLine; decide), fun l nl => ?_⟩
    have nl0 := k1.free nl
    have k2 := k1.new (o := .lst []) nl
    have hw : wanted c ≤ 4000 := Nat.le_trans (wanted_le c) sm.2.1
    have hls2 : upd H1 l (.lst []) ls = some (.lst ((stays c).map V.bl)) := keeps_new nl _ _ hls
    have hdp2 := keeps_new (o := .lst []) nl _ _ hdp
    have elen : ((stays c).map V.bl).length = wanted c := by rw [List.length_map, stays_len]
    refine ⟨_, rfl, _, _, rfl, .inl ⟨_, SqL.of hls2, rfl⟩, _, _, rfl, rfl, _, rfl, by omega, by rw [elen]; omega, ?_⟩
    refine for_range (fun i σ H' => (∃ v4, σ = [some v, some (.ref ls), some (.ref dp), some (.ref l), v4]) ∧ Keeps H H' ∧ H' ls = some (.lst ((stays c).map V.bl)) ∧ H' dp = some (.dK (kvs (putsOf c))) ∧ H' l = some (.lst (((List.range i).flatMap (atPlace c)).map Itm.v)))
      ⟨⟨_, rfl⟩, k2, hls2, hdp2, upd_same⟩ ?_ ?_
    · rintro i σ H2 hi ⟨⟨v4, rfl⟩, k3, h1, h2, h3⟩
      have hi2 : i < wanted c + 1 := by
        have : (((((stays c).map V.bl).length : Nat) : Int) + 1).toNat = wanted c + 1 := by rw [elen]; omega
        rw [this] at hi
        exact hi
      have nll : l ≠ ls := fun z => by rw [z, hls] at nl; cases nl
      have nld : l ≠ dp := fun z => by rw [z, hdp] at nl; cases nl
      have bound : (((List.range i).flatMap (atPlace c)).map Itm.v).length ≤ 4001 * 4001 := by
        rw [List.length_map]
        refine Nat.le_trans (made_len_take c i) (Nat.mul_le_mul (by omega) ?_)
        have := sm.2.1
        omega
      have hpl := put_len (c := c) i
      have hsz := sm.2.1
      have ez : (0 : Int) + (i : Int) = (i : Int) := Int.zero_add _
      rw [ez]
      refine ⟨_, rfl, .inl ⟨rfl, _, SqL.of h3⟩, _, rfl, dp, rfl, .inl ⟨_, .inl h2⟩, _, rfl, _, DGet.k (k := Sum.inl (i : Int)) h2, ?_⟩
      rw [valV_kvs]
      have eg : ((putAt (putsOf c) i).map fun s => V.str (S s)).getD (V.str "") = V.str (S (putT c i)) := by
        unfold putT
        cases putAt (putsOf c) i <;> rfl
      rw [eg]
      refine ⟨putT c i, rfl, Nat.le_of_lt (small (by omega)), fun p np => ?_⟩
      have k4 := k3.new (o := .lst ((putT c i).map fun c => V.str (S [c]))) np
      have h3' := keeps_new (o := .lst ((putT c i).map fun c => V.str (S [c]))) np _ _ h3
      refine ⟨l, p, _, _, rfl, rfl, h3', upd_same, ?_, ?_⟩
      · rw [List.length_map (as := putT c i)]
        have : sizeLine = 16777216 := sizeLine_eq
        omega
      have npls : ls ≠ l := nll.symm
      have npdp : dp ≠ l := nld.symm
      have h1' := keeps_new (o := .lst ((putT c i).map fun c => V.str (S [c]))) np _ _ h1
      have h2' := keeps_new (o := .lst ((putT c i).map fun c => V.str (S [c]))) np _ _ h2
      have k5 := k4.set (o := .lst (((List.range i).flatMap (atPlace c)).map Itm.v ++ (putT c i).map fun c => V.str (S [c]))) nl0
      have g1 : ∀ o, upd (upd H2 p (.lst ((putT c i).map fun c => V.str (S [c])))) l o ls = some (.lst ((stays c).map V.bl)) := fun o => by rw [upd_ne npls]; exact h1'
      have g2 : ∀ o, upd (upd H2 p (.lst ((putT c i).map fun c => V.str (S [c])))) l o dp = some (.dK (kvs (putsOf c))) := fun o => by rw [upd_ne npdp]; exact h2'
      have erange : ((List.range (i + 1)).flatMap (atPlace c)).map Itm.v = ((List.range i).flatMap (atPlace c)).map Itm.v ++ ((putT c i).map fun c => V.str (S [c])) ++ (if (stays c)[i]? = some true then [V.int (i : Int)] else []) := by
        rw [List.range_succ, List.flatMap_append, List.flatMap_cons, List.flatMap_nil, List.append_nil, List.map_append, List.append_assoc]
        unfold atPlace
        rw [List.map_append, List.map_map]
        congr 1
        congr 1
        split <;> rfl
      refine ⟨_, rfl, _, rfl, _, _, rfl, .inl ⟨_, SqL.of (g1 _), rfl⟩, _, _, rfl, rfl, _, rfl, ?_⟩
      rw [elen]
      by_cases hlt : i < wanted c
      · have hst : i < (stays c).length := by rw [stays_len]; exact hlt
        obtain ⟨b, hb⟩ : ∃ b, (stays c)[i]? = some b := ⟨_, List.getElem?_eq_getElem hst⟩
        refine ite2 (fun _ => ?_) (fun z => absurd (decide_eq_true (show (i : Int) < (wanted c : Int) by omega)) z)
        refine ⟨_, rfl, _, rfl, ls, _, (i : Int), .bl b, rfl, rfl, SqL.of (g1 _), at_of (j := i) rfl (by rw [List.getElem?_map, hb]; rfl), b, rfl, ?_⟩
        cases b with
        | true =>
          refine iteT ⟨_, rfl, .inl ⟨rfl, _, SqL.of upd_same⟩, _, rfl, l, _, _, rfl, rfl, upd_same, ?_, ?_⟩
          · rw [List.length_append, List.length_map (as := putT c i)]
            have : sizeLine = 16777216 := sizeLine_eq
            omega
          · refine ⟨⟨_, rfl⟩, k5.set nl0, ?_, ?_, ?_⟩
            · rw [upd_ne npls]; exact g1 _
            · rw [upd_ne npdp]; exact g2 _
            · rw [upd_same, erange, hb, if_pos rfl]
        | false =>
          refine iteF ⟨⟨_, rfl⟩, k5, g1 _, g2 _, ?_⟩
          rw [upd_same, erange, hb, if_neg (by intro z; cases z), List.append_nil]
      · refine ite2 (fun z => absurd (of_decide_eq_true z) (by omega)) (fun _ => ?_)
        refine iteF ⟨⟨_, rfl⟩, k5, g1 _, g2 _, ?_⟩
        have hn : (stays c)[i]? = none := List.getElem?_eq_none (by rw [stays_len]; omega)
        rw [upd_same, erange, hn, if_neg (by intro z; cases z), List.append_nil]
    · rintro σ H2 ⟨⟨v4, rfl⟩, k3, h1, h2, h3⟩
      have : (((((stays c).map V.bl).length : Nat) : Int) + 1).toNat = wanted c + 1 := by rw [elen]; omega
      rw [this] at h3
      exact ⟨_, rfl, q l H2 k3 nl0 h3⟩
end
end K78
set_option Elab.async false
set_option linter.all false
set_option maxRecDepth 100000
set_option maxHeartbeats 4000000
namespace K78
open PySem PySem.Spec PyProof.Rows L2 SX
section
variable {P : Program} {w : World} {K : PySem.W.Frag} {mg : Str → Option Value} {base : Heap} {fd : FuncData}
def behF (c1 : Ch) : Itm → Itm
  | .txt s => .txt s
  | .num j => ((made c1)[j]?).getD (.num 0)
def behI (c1 c2 : Ch) : List Itm := (made c2).map (behF c1)
theorem cons_of {α β : Type} (l : List α) (f : α → β) (i : Nat) {x : α} (h : l[i]? = some x) : (l.take (i + 1)).map f = (l.take i).map f ++ [f x] := by
  rw [List.take_succ, h, List.map_append]
  rfl

def sc_behindN : List Str := ["one", "other", "signs", "item"]
theorem sc_behind : FnScope sc_behindN ["one", "other"] (defScope s_behind) := ⟨rfl, rfl, rfl, by decide +kernel, rfl, by decide +kernel, by decide +kernel⟩
def sp_behind (K : PySem.W.Frag) : Sp := fun vs H Q _ => ∃ (v1 v2 : V) (c1 c2 : Ch), vs = [v1, v2] ∧ ChAt K H v1 c1 ∧ ChAt K H v2 c2 ∧ Sm c1 ∧ Sm c2 ∧ Fr c1 ∧ Fr c2 ∧ makes c1 = wanted c2 ∧ (∀ j, Itm.num j ∈ made c2 → j < (made c1).length) ∧ (made c2).length ≤ 100000 ∧ OkItems (wanted c1) (behI c1 c2) ∧
  ∀ v H1, Keeps H H1 → ChAt K H1 v (changeBy (wanted c1) (behI c1 c2)) → Q v H1
theorem ok_behind (F : FnP K d_behind fd) (T : Tx K mg) {fdM : FuncData} (FM : FnP K d_makes fdM) {fdW : FuncData} (FW : FnP K d_wanted fdW) {fdS : FuncData} (FS : FnP K d_spelt fdS) {fdO : FuncData} (FO : FnP K d_made_of fdO) {fdG : FuncData} (FG : FnP K d_grown fdG) {fdB : FuncData} (FB : FnP K d_change_by fdB) : FnOk P w K mg base CX0 3 (He.fAd K d_behind.at_) fd ["one", "other"] (sp_behind K) := by
  have GM : FnOk P w K mg base CX0 1 _ fdM ["change"] (sp_makes K) := ok_makes FM T
  have GW : FnOk P w K mg base CX0 1 _ fdW ["change"] (sp_wanted K) := ok_wanted FW T
  have GO : FnOk P w K mg base CX0 2 _ fdO ["change"] (sp_made_of K) := ok_made_of FO T FS
  have GB : FnOk P w K mg base CX0 2 _ fdB ["many", "items"] (sp_change_by K) := ok_change_by FB T FG
  have bM : Binds K fdM ["change"] [] := FM.bindsN fun _ _ _ _ _ _ us hl => match us, hl with | [_], _ => rfl
  have bW : Binds K fdW ["change"] [] := FW.bindsN fun _ _ _ _ _ _ us hl => match us, hl with | [_], _ => rfl
  have bO : Binds K fdO ["change"] [] := FO.bindsN fun _ _ _ _ _ _ us hl => match us, hl with | [_], _ => rfl
  have bB : Binds K fdB ["many", "items"] [] := FB.bindsN fun _ _ _ _ _ _ us hl => match us, hl with | [_, _], _ => rfl
  refine F.ok sc_behind (fun vs H Q E h => ?_) (fun cdv A outer s H vs Q E hr h => ?_)
  · obtain ⟨v1, v2, c1, c2, rfl, C1, C2, sm1, sm2, fr1, fr2, hm, hj, hl2, ok, q⟩ := h
    rfl
  · obtain ⟨v1, v2, c1, c2, rfl, C1, C2, sm1, sm2, fr1, fr2, hm, hj, hl2, ok, q⟩ := h
    have hr1 : Room 1 _ := hr.mono (by decide)
    refine ⟨_, PSs.nox (pss_cons (ps_if (pt_cmpR op_ne (pe_call GM hr1 (by rfl) T.glo FM.kp bM .nil pass0 (pa_cons (pv 0) pa_nil)) (pe_call GW hr1 (by rfl) T.glo FW.kp bW .nil pass0 (pa_cons (pv 1) pa_nil)) (nomark _)) (pss_one ps_never) pss_nil)
  (pss_cons (ps_set (i := 2) sc_behind.nd rfl (.inr rfl) (pe_call GO hr (by rfl) T.glo FO.kp bO .nil pass0 (pa_cons (pv 0) pa_nil)))
  (pss_one (ps_ret (pe_call GB hr (by rfl) T.glo FB.kp bB .nil pass0 (pa_cons (pe_call GW hr1 (by rfl) T.glo FW.kp bW .nil pass0 (pa_cons (pv 0) pa_nil)) (pa_cons (pe_lc (own := [("item", 3)]) (g := (gName 3)) (tt := tYes) rfl sc_behind.nd (pi_list (pe_call GO hr (by rfl) T.glo FO.kp bO .nil pass0 (pa_cons (pv 1) pa_nil))) (blkOk_by (N := sc_behindN) (sc := defScope s_behind) (by decide +kernel)) (fun _ _ _ _ _ => (pg_name (i := 3) sc_behind.nd rfl (.inl rfl))) (fun _ _ _ _ _ => pts_nil) (fun _ _ _ _ _ => (pe_ifExp (pt_val (pe_callB (show CallR _ (.builtin "isinstance") (rIsi K) from call_isi) (by rfl) T.free (by decide +kernel) (pa_cons (pv 3) (pa_cons (pe_bltn (v := .ty "str") (by rfl) T.free (by decide +kernel) rfl) pa_nil)))) (pv 3) (pe_ix (show IxR _ (rIxL K) from ix_list) (pv 2) (pv 3) (fun _ _ => rfl))))) pa_nil))))))), ?_⟩
    refine ⟨_, rfl, v1, c1, rfl, C1, sm1, fun H1 k1 => ⟨_, rfl, v2, c2, rfl, C2.im k1.im, sm2, fun H2 k2 => ⟨rfl, _, rfl, ne_no hm ?_⟩⟩⟩
    have k12 := k1.trans k2
    refine ⟨_, rfl, v1, c1, rfl, C1.im k12.im, sm1, fr1, fun l1 H3 k3 nl1 hl1 => ?_⟩
    have k13 := k12.trans k3
    refine ⟨_, rfl, v1, c1, rfl, C1.im k13.im, sm1, fun H4 k4 => ?_⟩
    have k14 := k13.trans k4
    refine ⟨_, rfl, v2, c2, rfl, C2.im k14.im, sm2, fr2, fun l2 H5 k5 nl2 hl2' => ?_⟩
    have k15 := k14.trans k5
    have hl1' : H5 l1 = some (.lst ((made c1).map Itm.v)) := k5 _ _ (k4 _ _ hl1)
    refine ⟨l2, rfl, ⟨_, SqL.of hl2'⟩, fun D nD => ?_⟩
    refine lc_list (xs := (made c2).map Itm.v) (fun i H' => KB D (upd H5 D (.lst [])) H' ∧ H' D = some (.lst (((behI c1 c2).take i).map Itm.v))) ⟨KB.refl _ _, upd_same⟩ (fun i H' _ z => SqL.of (z.1 _ _ (keeps_new nD _ _ hl2') (ne_of_none hl2' nD))) (fun i x H' hx z => ?_) (fun H' z => ?_)
    · obtain ⟨kb, hD⟩ := z
      rw [List.getElem?_map] at hx
      cases hit : (made c2)[i]? with
      | none => rw [hit] at hx; cases hx
      | some it =>
        rw [hit] at hx
        cases hx
        have hbi : (behI c1 c2)[i]? = some (behF c1 it) := by
          unfold behI
          rw [List.getElem?_map, hit]
          rfl
        have e := cons_of (behI c1 c2) Itm.v i hbi
        have len : (((behI c1 c2).take i).map Itm.v).length < sizeLine := by
          rw [List.length_map]
          refine small (Nat.le_trans (List.length_take_le' _ _) ?_)
          unfold behI
          rw [List.length_map]
          exact hl2
        refine ⟨rfl, ?_⟩
        cases it with
        | txt s =>
          refine ⟨_, rfl, _, _, _, _, true, rfl, .ty _, .base (.str _), kit_ty (by decide +kernel), _, rfl, iteT ⟨_, rfl, _, hD, len, kb.set, ?_⟩⟩
          rw [upd_same, e]
          rfl
        | num j =>
          have hjl := hj j (List.mem_of_getElem? hit)
          obtain ⟨y, hy⟩ : ∃ y, (made c1)[j]? = some y := ⟨_, List.getElem?_eq_getElem hjl⟩
          refine ⟨_, rfl, _, _, _, _, false, rfl, .ty _, .base (.int _), kit_ty (by decide +kernel), _, rfl, iteF ⟨_, rfl, _, rfl, l1, _, (j : Int), y.v, rfl, rfl, SqL.of (kb _ _ (keeps_new nD _ _ hl1') (ne_of_none hl1' nD)), at_of (j := j) rfl (by rw [List.getElem?_map, hy]; rfl), _, hD, len, kb.set, ?_⟩⟩
          have ev : behF c1 (.num j) = y := by
            show ((made c1)[j]?).getD (.num 0) = y
            rw [hy]
            rfl
          rw [upd_same, e, ev]
    · obtain ⟨kb, hD⟩ := z
      rw [List.length_map, show (made c2).length = (behI c1 c2).length from by unfold behI; rw [List.length_map], List.take_length] at hD
      have k16 : Keeps H H' := KB.keeps (k15.new nD) (k15.free nD) kb
      refine ⟨wanted c1, D, behI c1 c2, rfl, hD, ok, fun v H6 k6 C6 => q v H6 (k16.trans k6) C6⟩
def nums (a n : Nat) : List Itm := (List.range n).map fun i => Itm.num (a + i)
def plainI (at_ gone len : Nat) (come : List Nat) : List Itm := nums 0 at_ ++ [Itm.txt come] ++ nums (at_ + gone) (len - (at_ + gone))
theorem rg_nums (a b : Nat) (h : a ≤ b) : rgV (a : Int) (b : Int) = (nums a (b - a)).map Itm.v := by
  unfold rgV nums
  rw [List.map_map, show ((b : Int) - (a : Int)).toNat = b - a from by omega]
  refine List.map_congr_left fun i _ => ?_
  show V.int ((a : Int) + (i : Nat)) = V.int ((a + i : Nat) : Int)
  rw [Int.natCast_add]
theorem kbnN {x qual : Str} {params : Arguments} {body : List Stmt} {scope : Scope} {kws : List (Str × V)} {f : Addr} {fd : FuncData} {ps ks : List Str} {n : Nat} (F : FunD K x qual params body scope [] kws f fd)
    (h : ∀ (kV doc pm : Value) (an : Option Addr) (cdv ct : Value) (us ws : List Value), us.length = n → ws.length = ks.length → bindArgs (PySem.W.fnOf x qual params body scope .none kV doc pm an cdv ct) ⟨us, ks.zip ws⟩ = pure (ps.zip (us ++ ws))) : KBn K fd ps n ks (fun us ws => us ++ ws) (fun vs zs => vs ++ zs) := by
  obtain ⟨oc, od, dV, kV, doc, pm, an, cdv, ct, osl, rfl, lk, hcd, hD, hK⟩ := F.ex
  rcases hD with ⟨_, rfl⟩ | ⟨e, _⟩
  · exact ⟨fun s us ws _ l1 l2 => .of_eq (h kV doc pm an cdv ct us ws l1 l2), fun r1 r2 => r1.append r2⟩
  · exact absurd rfl e

def sc_plainN : List Str := ["text", "at", "gone", "come"]
theorem sc_plain : FnScope sc_plainN ["text", "at", "gone", "come"] (defScope s_plain) := ⟨rfl, rfl, rfl, by decide +kernel, rfl, by decide +kernel, by decide +kernel⟩
def sp_plain (K : PySem.W.Frag) : Sp := fun vs H Q _ => ∃ (t come : List Nat) (at_ gone : Nat), vs = [.str (S t), .int at_, .int gone, .str (S come)] ∧ at_ + gone ≤ t.length ∧ t.length ≤ 2000 ∧ OkItems t.length (plainI at_ gone t.length come) ∧
  ∀ v H1, Keeps H H1 → ChAt K H1 v (changeBy t.length (plainI at_ gone t.length come)) → Q v H1
theorem ok_plain (F : FnP K d_plain fd) (T : Tx K mg) {fdN : FuncData} (FN : FnP K d_is_number fdN) {fdG : FuncData} (FG : FnP K d_grown fdG) {fdB : FuncData} (FB : FnP K d_change_by fdB) : FnOk P w K mg base CX0 3 (He.fAd K d_plain.at_) fd ["text", "at", "gone", "come"] (sp_plain K) := by
  have GN : FnOk P w K mg base CX0 1 _ fdN ["thing", "least"] sp_is_number := ok_is_number FN T
  have GB : FnOk P w K mg base CX0 2 _ fdB ["many", "items"] (sp_change_by K) := ok_change_by FB T FG
  have bN : Binds K fdN ["thing", "least"] [] := FN.bindsN fun _ _ _ _ _ _ us hl => match us, hl with | [_, _], _ => rfl
  have bB : Binds K fdB ["many", "items"] [] := FB.bindsN fun _ _ _ _ _ _ us hl => match us, hl with | [_, _], _ => rfl
  refine F.ok sc_plain (fun vs H Q E h => ?_) (fun cdv A outer s H vs Q E hr h => ?_)
  · obtain ⟨t, come, a, g, rfl, hag, htl, ok, q⟩ := h
    rfl
  · obtain ⟨t, come, a, g, rfl, hag, htl, ok, q⟩ := h
    have hr1 : Room 1 _ := hr.mono (by decide)
    refine ⟨_, PSs.nox (pss_cons (ps_if (PW.pt (pw_or (pt_not (pt_val (pe_call GN hr1 (by rfl) T.glo FN.kp bN .nil pass0 (pa_cons (pv 1) (pa_cons pe_int pa_nil))))) (pw_or (pt_not (pt_val (pe_call GN hr1 (by rfl) T.glo FN.kp bN .nil pass0 (pa_cons (pv 2) (pa_cons pe_int pa_nil))))) (pw_or1 (pt_cmpR op_gt (pe_op op_add (pv 1) (pv 2)) (pe_callB call_len (by rfl) T.free (by decide +kernel) (pa_cons (pv 0) pa_nil)) (nomark _)))))) (pss_one ps_never) pss_nil)
  (pss_one (ps_ret (pe_call GB hr (by rfl) T.glo FB.kp bB .nil pass0 (pa_cons (pe_callB call_len (by rfl) T.free (by decide +kernel) (pa_cons (pv 0) pa_nil)) (pa_cons (pe_op op_cat (pe_op op_cat (pe_listRg rfl (by rfl) T.free (prg_1 (by rfl) T.free (pv 1))) (pe_lst (pa_cons (pv 3) pa_nil))) (pe_listRg rfl (by rfl) T.free (prg_2 (by rfl) T.free (pe_op op_add (pv 1) (pv 2)) (pe_callB call_len (by rfl) T.free (by decide +kernel) (pa_cons (pv 0) pa_nil))))) pa_nil)))))), ?_⟩
    have tr : ∀ n : Nat, decide ((0 : Int) ≤ (n : Int)) = true := fun n => decide_eq_true (by omega)
    refine ⟨_, rfl, _, _, rfl, _, rfl, ?_⟩
    rw [tr]
    refine iteF ⟨_, rfl, _, _, rfl, _, rfl, ?_⟩
    rw [tr]
    refine iteF ⟨_, rfl, _, rfl, _, _, rfl, rfl, _, rfl, _, _, rfl, ⟨by rw [S_len]; exact Nat.le_of_lt (small (by omega)), rfl⟩, _, _, rfl, rfl, _, rfl, ?_⟩
    rw [S_len]
    refine ite2 (fun z => absurd (of_decide_eq_true z) (by omega)) (fun _ => ?_)
    refine ⟨_, rfl, _, _, rfl, ⟨by rw [S_len]; exact Nat.le_of_lt (small (by omega)), rfl⟩, ?_⟩
    rw [S_len]
    refine ⟨_, rfl, _, rfl, ⟨by omega, by omega, by omega, by omega, by omega⟩, fun q1 n1 => ?_⟩
    have hlen : sizeLine = 16777216 := sizeLine_eq
    have l1 : (rgV 0 (a : Int)).length = a := by rw [rgV_length]; omega
    refine ⟨_, rfl, (by show 1 ≤ sizeLine; decide), fun q2 n2 => ⟨q1, q2, _, _, rfl, rfl, keeps_new n2 _ _ upd_same, upd_same, ?_, fun q3 n3 => ?_⟩⟩
    · rw [l1]
      show a + 1 ≤ sizeLine
      omega
    refine ⟨_, rfl, _, rfl, _, _, rfl, rfl, _, rfl, _, _, rfl, ⟨by rw [S_len]; exact Nat.le_of_lt (small (by omega)), rfl⟩, ?_⟩
    rw [S_len]
    refine ⟨_, _, rfl, rfl, ⟨by omega, by omega, by omega, by omega, by omega⟩, fun q4 n4 => ⟨q3, q4, _, _, rfl, rfl, keeps_new n4 _ _ upd_same, upd_same, ?_, fun q5 n5 => ?_⟩⟩
    · rw [rgV_length, List.length_append, l1]
      show a + 1 + _ ≤ sizeLine
      omega
    have eI : rgV 0 (a : Int) ++ [V.str (S come)] ++ rgV ((a : Int) + (g : Int)) (t.length : Int) = (plainI a g t.length come).map Itm.v := by
      have h1 := rg_nums 0 a (Nat.zero_le _)
      have h2 := rg_nums (a + g) t.length hag
      rw [Int.natCast_add] at h2
      unfold plainI
      rw [List.map_append, List.map_append, ← h2]
      show rgV ((0 : Nat) : Int) (a : Int) ++ _ ++ _ = _
      rw [h1]
      rfl
    refine ⟨t.length, q5, plainI a g t.length come, rfl, ?_, ok, fun v H1 k1 C1 => q v H1 ?_ C1⟩
    · rw [upd_same, eI]
    · exact (((((Keeps.refl H).new n1).new n2).new n3).new n4).new n5 |>.trans k1
end
end K78
set_option Elab.async false
set_option linter.all false
set_option maxRecDepth 100000
set_option maxHeartbeats 4000000
namespace K78
open PySem PySem.Spec PyProof.Rows L2 SX
section
variable {P : Program} {w : World} {K : PySem.W.Frag} {mg : Str → Option Value} {base : Heap} {fd : FuncData}
/-! ### led -/
/-- how many signs of the made text stand ahead of a place -/
def manyAt (c : Ch) : Nat → Nat
  | 0 => 0
  | i + 1 => manyAt c i + (putT c i).length + (if (stays c)[i]? = some true then 1 else 0)
def ownAt (c : Ch) (i : Nat) : List Itm := match putAt (putsOf c) i with
  | some s => [.txt s]
  | none => []
def ledAt (ahead : Bool) (c1 c2 : Ch) (i : Nat) : List Itm :=
  (if ahead = true then ownAt c1 i ++ nums (manyAt c2 i) (putT c2 i).length else nums (manyAt c2 i) (putT c2 i).length ++ ownAt c1 i) ++
  (if (stays c2)[i]? = some true ∧ (stays c1)[i]? = some true then [Itm.num (manyAt c2 i + (putT c2 i).length)] else [])
def ledI (ahead : Bool) (c1 c2 : Ch) : List Itm := (List.range (wanted c1 + 1)).flatMap (ledAt ahead c1 c2)
theorem manyAt_le (c : Ch) (i : Nat) : manyAt c i ≤ i * (1 + (c.map Pt.size).sum) := by
  induction i with
  | zero => exact Nat.zero_le _
  | succ i ih =>
    rw [Nat.succ_mul]
    show manyAt c i + (putT c i).length + (if (stays c)[i]? = some true then 1 else 0) ≤ _
    have := put_len (c := c) i
    split <;> omega
theorem led_len (ahead : Bool) (c1 c2 : Ch) (i : Nat) : ((List.range i).flatMap (ledAt ahead c1 c2)).length ≤ i * (2 + (c2.map Pt.size).sum) := by
  induction i with
  | zero => simp
  | succ i ih =>
    rw [List.range_succ, List.flatMap_append, List.length_append, Nat.succ_mul]
    have h1 : (([i] : List Nat).flatMap (ledAt ahead c1 c2)).length ≤ 2 + (c2.map Pt.size).sum := by
      rw [List.flatMap_cons, List.flatMap_nil, List.append_nil]
      have hp := put_len (c := c2) i
      have ho : (ownAt c1 i).length ≤ 1 := by
        unfold ownAt
        split <;> simp
      have hn : (nums (manyAt c2 i) (putT c2 i).length).length = (putT c2 i).length := by unfold nums; rw [List.length_map, List.length_range]
      unfold ledAt
      rw [List.length_append]
      have hl : (if ahead = true then ownAt c1 i ++ nums (manyAt c2 i) (putT c2 i).length else nums (manyAt c2 i) (putT c2 i).length ++ ownAt c1 i).length ≤ 1 + (putT c2 i).length := by
        split <;> rw [List.length_append, hn] <;> omega
      have hx : (if (stays c2)[i]? = some true ∧ (stays c1)[i]? = some true then [Itm.num (manyAt c2 i + (putT c2 i).length)] else []).length ≤ 1 := by split <;> simp
      omega
    omega

def sc_ledN : List Str := ["one", "other", "ahead", "stays", "puts", "past", "texts", "found", "many", "place", "own", "others", "kept"]
theorem sc_led : FnScope sc_ledN ["one", "other", "ahead"] (defScope s_led) := ⟨rfl, rfl, rfl, by decide +kernel, rfl, by decide +kernel, by decide +kernel⟩
def sp_led (K : PySem.W.Frag) : Sp := fun vs H Q _ => ∃ (v1 v2 : V) (ah : Bool) (c1 c2 : Ch), vs = [v1, v2, .bl ah] ∧ ChAt K H v1 c1 ∧ ChAt K H v2 c2 ∧ Sm c1 ∧ Sm c2 ∧ Fr c1 ∧ Fr c2 ∧ wanted c1 = wanted c2 ∧ wanted c1 ≤ 1000 ∧ OkItems (manyAt c2 (wanted c1 + 1)) (ledI ah c1 c2) ∧
  ∀ v H1, Keeps H H1 → ChAt K H1 v (changeBy (manyAt c2 (wanted c1 + 1)) (ledI ah c1 c2)) → Q v H1
theorem ok_led (F : FnP K d_led fd) (T : Tx K mg) {fdS : FuncData} (FS : FnP K d_spelt fdS) {fdG : FuncData} (FG : FnP K d_grown fdG) {fdB : FuncData} (FB : FnP K d_change_by fdB) : FnOk P w K mg base CX0 3 (He.fAd K d_led.at_) fd ["one", "other", "ahead"] (sp_led K) := by
  have GS : FnOk P w K mg base CX0 1 _ fdS ["change"] (sp_spelt K) := ok_spelt FS T
  have GB : FnOk P w K mg base CX0 2 _ fdB ["many", "items"] (sp_change_by K) := ok_change_by FB T FG
  have bS : Binds K fdS ["change"] [] := FS.bindsN fun _ _ _ _ _ _ us hl => match us, hl with | [_], _ => rfl
  have bB : Binds K fdB ["many", "items"] [] := FB.bindsN fun _ _ _ _ _ _ us hl => match us, hl with | [_, _], _ => rfl
  refine F.ok sc_led (fun vs H Q E h => ?_) (fun cdv A outer s H vs Q E hr h => ?_)
  · obtain ⟨v1, v2, ah, c1, c2, rfl, C1, C2, sm1, sm2, fr1, fr2, hm, hw, ok, q⟩ := h
    rfl
  · obtain ⟨v1, v2, ah, c1, c2, rfl, C1, C2, sm1, sm2, fr1, fr2, hm, hw, ok, q⟩ := h
    have hr1 : Room 1 _ := hr.mono (by decide)
    refine ⟨_, PSs.nox (pss_cons (ps_asg (pe_call GS hr1 (by rfl) T.glo FS.kp bS .nil pass0 (pa_cons (pv 0) pa_nil)) (pg_tup rfl (pgs_cons (pg_name (i := 3) sc_led.nd rfl (.inl rfl)) (pgs_cons (pg_name (i := 4) sc_led.nd rfl (.inl rfl)) pgs_nil))))
  (pss_cons (ps_asg (pe_call GS hr1 (by rfl) T.glo FS.kp bS .nil pass0 (pa_cons (pv 1) pa_nil)) (pg_tup rfl (pgs_cons (pg_name (i := 5) sc_led.nd rfl (.inl rfl)) (pgs_cons (pg_name (i := 6) sc_led.nd rfl (.inl rfl)) pgs_nil))))
  (pss_cons (ps_set (i := 7) sc_led.nd rfl (.inl rfl) (pe_lst pa_nil))
  (pss_cons (ps_set (i := 8) sc_led.nd rfl (.inl rfl) pe_int)
  (pss_cons (ps_for PassesOwn.never rfl (pi_range1 (by rfl) T.free (pa_cons (pe_op op_add (pe_callB call_len (by rfl) T.free (by decide +kernel) (pa_cons (pv 3) pa_nil)) pe_int) pa_nil)) (pg_name (i := 9) sc_led.nd rfl (.inl rfl)) (pss_cons (ps_par (i := 10) (j := 11) rfl sc_led.nd rfl rfl (by decide) rfl rfl (pa_cons (pe_ifExp (pt_cmp (pc_din (hu_of hr) (pv 9) (pv 4))) (pe_lst (pa_cons (pe_dget (hu_of hr) (pv 4) (pv 9) (fun _ _ => rfl)) pa_nil)) (pe_lst pa_nil)) (pa_cons (pe_callB call_len (by rfl) T.free (by decide +kernel) (pa_cons (pe_dget2 (hu_of hr) (pv 6) (pv 9) pe_str ⟨rfl, rfl, rfl, rfl⟩) pa_nil)) pa_nil)) (by rfl))
  (pss_cons (ps_set (i := 12) sc_led.nd rfl (.inl rfl) (pe_listRg rfl (by rfl) T.free (prg_2 (by rfl) T.free (pv 8) (pe_op op_add (pv 8) (pv 11)))))
  (pss_cons (ps_expr (pe_bm PySem.F.plainAttrs_list PySem.F.slot_list_extend PySem.F.type_list_extend mt_extend (pv 7) (pa_cons (pe_ifExp (pt_val (pv 2)) (pe_op op_cat (pv 10) (pv 12)) (pe_op op_cat (pv 12) (pv 10))) pa_nil)))
  (pss_cons (ps_aug (i := 8) sc_led.nd rfl (.inl rfl) (pv 11) ip_add)
  (pss_one (ps_if (PW.pt (pw_and (pt_cmpR op_lt (pv 9) (pe_callB call_len (by rfl) T.free (by decide +kernel) (pa_cons (pv 3) pa_nil)) (nomark _)) (pw_and1 (pt_val (pe_ix ix_list (pv 5) (pv 9) (fun _ _ => rfl)))))) (pss_cons (ps_if (pt_val (pe_ix ix_list (pv 3) (pv 9) (fun _ _ => rfl))) (pss_one (ps_expr (pe_bm PySem.F.plainAttrs_list PySem.F.slot_list_append PySem.F.type_list_append mt_append (pv 7) (pa_cons (pv 8) pa_nil)))) pss_nil)
  (pss_one (ps_aug (i := 8) sc_led.nd rfl (.inl rfl) pe_int ip_add))) pss_nil)))))))
  (pss_one (ps_ret (pe_call GB hr (by rfl) T.glo FB.kp bB .nil pass0 (pa_cons (pv 8) (pa_cons (pv 7) pa_nil)))))))))), ?_⟩
    have hsize : sizeLine = 16777216 := sizeLine_eq
    refine ⟨_, rfl, v1, c1, rfl, C1, sm1, fr1, fun t1 l1 p1 H1 k1 nl1 np1 ht1 hl1 hp1 => ?_⟩
    refine ⟨t1, _, rfl, SqT.of ht1, rfl, _, _, rfl, _, _, rfl, rfl, ?_⟩
    refine ⟨_, rfl, v2, c2, rfl, C2.im k1.im, sm2, fr2, fun t2 l2 p2 H2 k2 nl2 np2 ht2 hl2 hp2 => ?_⟩
    refine ⟨t2, _, rfl, SqT.of ht2, rfl, _, _, rfl, _, _, rfl, rfl, ?_⟩
    refine ⟨(by show 0 ≤ sizeLine; decide), fun l nl => ?_⟩
    have k12 := k1.trans k2
    have nl0 := k12.free nl
    have hl1' := keeps_new (o := .lst []) nl _ _ (k2 _ _ hl1)
    have hp1' := keeps_new (o := .lst []) nl _ _ (k2 _ _ hp1)
    have hl2' := keeps_new (o := .lst []) nl _ _ hl2
    have hp2' := keeps_new (o := .lst []) nl _ _ hp2
    have e1 : ((stays c1).map V.bl).length = wanted c1 := by rw [List.length_map, stays_len]
    have e2 : ((stays c2).map V.bl).length = wanted c2 := by rw [List.length_map, stays_len]
    refine ⟨_, rfl, _, _, rfl, .inl ⟨_, SqL.of hl1', rfl⟩, _, _, rfl, rfl, _, rfl, by omega, by rw [e1]; omega, ?_⟩
    refine for_range (fun i σ H' => (∃ w9 w10 w11 w12, σ = [some v1, some v2, some (.bl ah), some (.ref l1), some (.ref p1), some (.ref l2), some (.ref p2), some (.ref l), some (.int (manyAt c2 i)), w9, w10, w11, w12]) ∧ KB l (upd H2 l (.lst [])) H' ∧ H' l = some (.lst (((List.range i).flatMap (ledAt ah c1 c2)).map Itm.v)))
      ⟨⟨_, _, _, _, rfl⟩, KB.refl _ _, upd_same⟩ ?_ ?_
    · rintro i σ H3 hi ⟨⟨w9, w10, w11, w12, rfl⟩, kb, hl⟩
      have hi2 : i < wanted c1 + 1 := by
        have : (((((stays c1).map V.bl).length : Nat) : Int) + 1).toNat = wanted c1 + 1 := by rw [e1]; omega
        rw [this] at hi
        exact hi
      have n1 : l1 ≠ l := ne_of_none (k2 _ _ hl1) nl
      have n2' : p1 ≠ l := ne_of_none (k2 _ _ hp1) nl
      have n3' : l2 ≠ l := ne_of_none hl2 nl
      have n4 : p2 ≠ l := ne_of_none hp2 nl
      have g1 := kb _ _ hl1' n1
      have g2 := kb _ _ hp1' n2'
      have g3 := kb _ _ hl2' n3'
      have g4 := kb _ _ hp2' n4
      have ez : (0 : Int) + (i : Int) = (i : Int) := Int.zero_add _
      rw [ez]
      have hpl := put_len (c := c2) i
      have hsz := sm2.2.1
      have hml := manyAt_le c2 i
      have hmb : manyAt c2 i ≤ 1001 * 4001 := Nat.le_trans hml (Nat.mul_le_mul (by omega) (by omega))
      have hlb := led_len ah c1 c2 i
      have hlb2 : ((List.range i).flatMap (ledAt ah c1 c2)).length ≤ 1001 * 4002 := Nat.le_trans hlb (Nat.mul_le_mul (by omega) (by omega))
      have eg : ((putAt (putsOf c2) i).map fun s => V.str (S s)).getD (V.str "") = V.str (S (putT c2 i)) := by
        unfold putT
        cases putAt (putsOf c2) i <;> rfl
      have erT : (stays c2)[i]? = some true → (stays c1)[i]? = some true → ((List.range (i + 1)).flatMap (ledAt ah c1 c2)).map Itm.v = ((List.range i).flatMap (ledAt ah c1 c2)).map Itm.v ++ (if ah = true then ownAt c1 i ++ nums (manyAt c2 i) (putT c2 i).length else nums (manyAt c2 i) (putT c2 i).length ++ ownAt c1 i).map Itm.v ++ [V.int ((manyAt c2 i + (putT c2 i).length : Nat) : Int)] := fun h2 h1 => by
        rw [List.range_succ, List.flatMap_append, List.flatMap_cons, List.flatMap_nil, List.append_nil, List.map_append, List.append_assoc]
        congr 1
        have z : (if (stays c2)[i]? = some true ∧ (stays c1)[i]? = some true then [Itm.num (manyAt c2 i + (putT c2 i).length)] else []) = [Itm.num (manyAt c2 i + (putT c2 i).length)] := if_pos ⟨h2, h1⟩
        unfold ledAt
        rw [z, List.map_append]
        rfl
      have erF : ¬ ((stays c2)[i]? = some true ∧ (stays c1)[i]? = some true) → ((List.range (i + 1)).flatMap (ledAt ah c1 c2)).map Itm.v = ((List.range i).flatMap (ledAt ah c1 c2)).map Itm.v ++ (if ah = true then ownAt c1 i ++ nums (manyAt c2 i) (putT c2 i).length else nums (manyAt c2 i) (putT c2 i).length ++ ownAt c1 i).map Itm.v := fun h => by
        rw [List.range_succ, List.flatMap_append, List.flatMap_cons, List.flatMap_nil, List.append_nil, List.map_append]
        congr 1
        have z : (if (stays c2)[i]? = some true ∧ (stays c1)[i]? = some true then [Itm.num (manyAt c2 i + (putT c2 i).length)] else []) = [] := if_neg h
        unfold ledAt
        rw [z, List.append_nil]
      refine ⟨_, rfl, _, rfl, p1, _, rfl, DGet.k (k := Sum.inl (i : Int)) g2, _, rfl, ?_⟩
      rw [valV_kvs]
      cases hpa : putAt (putsOf c1) i with
      | none =>
        have eow : ([] : List V) = (ownAt c1 i).map Itm.v := by unfold ownAt; rw [hpa]; rfl
        refine iteF ⟨(by show 0 ≤ sizeLine; decide), fun qo nqo => ?_⟩
        refine ⟨_, rfl, p2, rfl, .inl ⟨_, .inl (keeps_new nqo _ _ g4)⟩, _, rfl, _, DGet.k (k := Sum.inl (i : Int)) (keeps_new nqo _ _ g4), ?_⟩
        rw [valV_kvs, eg]
        refine ⟨_, _, rfl, ⟨by rw [S_len]; omega, rfl⟩, _, _, rfl, ?_⟩
        rw [S_len]
        refine ⟨_, rfl, _, rfl, _, rfl, _, _, rfl, rfl, _, _, rfl, rfl, ⟨by omega, by omega, by omega, by omega, by omega⟩, fun q2 n2 => ?_⟩
        have hq : upd (upd H3 qo (.lst [])) q2 (.lst (rgV (manyAt c2 i : Int) ((manyAt c2 i : Int) + ((putT c2 i).length : Int)))) qo = some (.lst []) := keeps_new n2 _ _ upd_same
        have hrg : (rgV (manyAt c2 i : Int) ((manyAt c2 i : Int) + ((putT c2 i).length : Int))).length = (putT c2 i).length := by rw [rgV_length]; omega
        have erg : rgV (manyAt c2 i : Int) ((manyAt c2 i : Int) + ((putT c2 i).length : Int)) = (nums (manyAt c2 i) (putT c2 i).length).map Itm.v := by
          have h := rg_nums (manyAt c2 i) (manyAt c2 i + (putT c2 i).length) (Nat.le_add_right _ _)
          rw [Int.natCast_add, Nat.add_sub_cancel_left] at h
          exact h
        have hlq : upd (upd H3 qo (.lst [])) q2 (.lst (rgV (manyAt c2 i : Int) ((manyAt c2 i : Int) + ((putT c2 i).length : Int)))) l = some (.lst (((List.range i).flatMap (ledAt ah c1 c2)).map Itm.v)) := keeps_new n2 _ _ (keeps_new nqo _ _ hl)
        refine ⟨_, rfl, .inl ⟨rfl, _, SqL.of hlq⟩, _, rfl, _, rfl, ?_⟩
        cases hah : ah with
        | true =>
          subst hah
          refine iteT ⟨_, rfl, _, rfl, qo, q2, _, _, rfl, rfl, hq, upd_same, by rw [hrg]; show 0 + _ ≤ sizeLine; omega, fun q3 n3 => ?_⟩
          refine ⟨l, q3, _, _, rfl, rfl, keeps_new n3 _ _ hlq, upd_same, by rw [List.length_append, hrg, List.length_map]; show _ + (0 + _) ≤ sizeLine; omega, ?_⟩
          have emid : [] ++ rgV (manyAt c2 i : Int) ((manyAt c2 i : Int) + ((putT c2 i).length : Int)) = (if true = true then ownAt c1 i ++ nums (manyAt c2 i) (putT c2 i).length else nums (manyAt c2 i) (putT c2 i).length ++ ownAt c1 i).map Itm.v := by
            rw [if_pos rfl, List.map_append, eow, erg]
          have emidlen : ([] ++ rgV (manyAt c2 i : Int) ((manyAt c2 i : Int) + ((putT c2 i).length : Int))).length = 0 + (putT c2 i).length := by rw [List.length_append, hrg]; rfl
          have kb5 : KB l (upd H2 l (.lst [])) (upd (upd (upd (upd H3 qo (.lst [])) q2 (.lst (rgV (manyAt c2 i : Int) ((manyAt c2 i : Int) + ((putT c2 i).length : Int))))) q3 (.lst ([] ++ rgV (manyAt c2 i : Int) ((manyAt c2 i : Int) + ((putT c2 i).length : Int))))) l (.lst ((((List.range i).flatMap (ledAt true c1 c2)).map Itm.v) ++ ([] ++ rgV (manyAt c2 i : Int) ((manyAt c2 i : Int) + ((putT c2 i).length : Int)))))) := (((KB.trans kb (KB.trans (KB.refl l H3) (KB.new (KB.refl l H3) nqo))).new n2).new n3).set
          have g1' := kb5 _ _ hl1' n1
          have g2' := kb5 _ _ hp1' n2'
          have g3' := kb5 _ _ hl2' n3'
          have hl5 : (upd (upd (upd (upd H3 qo (.lst [])) q2 (.lst (rgV (manyAt c2 i : Int) ((manyAt c2 i : Int) + ((putT c2 i).length : Int))))) q3 (.lst ([] ++ rgV (manyAt c2 i : Int) ((manyAt c2 i : Int) + ((putT c2 i).length : Int))))) l (.lst ((((List.range i).flatMap (ledAt true c1 c2)).map Itm.v) ++ ([] ++ rgV (manyAt c2 i : Int) ((manyAt c2 i : Int) + ((putT c2 i).length : Int)))))) l = some (.lst ((((List.range i).flatMap (ledAt true c1 c2)).map Itm.v) ++ ([] ++ rgV (manyAt c2 i : Int) ((manyAt c2 i : Int) + ((putT c2 i).length : Int))))) := upd_same
          refine ⟨_, rfl, _, rfl, _, _, rfl, rfl, ?_⟩
          have emany : (manyAt c2 i : Int) + ((putT c2 i).length : Int) = ((manyAt c2 i + (putT c2 i).length : Nat) : Int) := by omega
          refine ⟨_, rfl, _, rfl, _, _, rfl, .inl ⟨_, SqL.of g1', rfl⟩, _, _, rfl, rfl, _, rfl, ?_⟩
          rw [e1]
          by_cases hlt : i < wanted c1
          · have hst1 : i < (stays c1).length := by rw [stays_len]; exact hlt
            have hst2 : i < (stays c2).length := by rw [stays_len, ← hm]; exact hlt
            obtain ⟨b1, hb1⟩ : ∃ b, (stays c1)[i]? = some b := ⟨_, List.getElem?_eq_getElem hst1⟩
            obtain ⟨b2, hb2⟩ : ∃ b, (stays c2)[i]? = some b := ⟨_, List.getElem?_eq_getElem hst2⟩
            refine ite2 (fun _ => ?_) (fun z => absurd (decide_eq_true (show (i : Int) < (wanted c1 : Int) by omega)) z)
            refine ⟨_, rfl, _, rfl, l2, _, (i : Int), .bl b2, rfl, rfl, SqL.of g3', at_of (j := i) rfl (by rw [List.getElem?_map, hb2]; rfl), b2, rfl, ?_⟩
            cases b2 with
            | true =>
              refine iteT ⟨_, rfl, _, rfl, l1, _, (i : Int), .bl b1, rfl, rfl, SqL.of g1', at_of (j := i) rfl (by rw [List.getElem?_map, hb1]; rfl), b1, rfl, ?_⟩
              have emn : (manyAt c2 i : Int) + ((putT c2 i).length : Int) + 1 = (manyAt c2 (i + 1) : Int) := by
                show _ = ((manyAt c2 i + (putT c2 i).length + (if (stays c2)[i]? = some true then 1 else 0) : Nat) : Int)
                rw [hb2, if_pos rfl]
                omega
              cases b1 with
              | true =>
                refine iteT ⟨_, rfl, .inl ⟨rfl, _, SqL.of hl5⟩, _, rfl, l, _, _, rfl, rfl, hl5, ?_, ?_⟩
                · rw [List.length_append, emidlen, List.length_map]
                  omega
                · refine ⟨_, rfl, _, _, rfl, rfl, ⟨some (.int (i : Int)), some (.ref qo), some (.int ((putT c2 i).length : Int)), some (.ref q2), ?_⟩, kb5.set, ?_⟩
                  · rw [← emn]
                    rfl
                  · rw [erT hb2 hb1, ← emid, ← emany]
                    exact upd_same
              | false =>
                refine iteF ⟨_, rfl, _, _, rfl, rfl, ⟨some (.int (i : Int)), some (.ref qo), some (.int ((putT c2 i).length : Int)), some (.ref q2), ?_⟩, kb5, ?_⟩
                · rw [← emn]
                  rfl
                · rw [hl5, erF (fun z => by rw [hb1] at z; cases z.2), ← emid]
            | false =>
              have emn : (manyAt c2 i : Int) + ((putT c2 i).length : Int) = (manyAt c2 (i + 1) : Int) := by
                show _ = ((manyAt c2 i + (putT c2 i).length + (if (stays c2)[i]? = some true then 1 else 0) : Nat) : Int)
                rw [hb2, if_neg (fun z => nomatch z)]
                omega
              refine iteF ⟨⟨some (.int (i : Int)), some (.ref qo), some (.int ((putT c2 i).length : Int)), some (.ref q2), ?_⟩, kb5, ?_⟩
              · rw [← emn]
                rfl
              · rw [hl5, erF (fun z => by rw [hb2] at z; cases z.1), ← emid]
          · refine ite2 (fun z => absurd (of_decide_eq_true z) (by omega)) (fun _ => ?_)
            have hn2 : (stays c2)[i]? = none := List.getElem?_eq_none (by rw [stays_len, ← hm]; omega)
            have emn : (manyAt c2 i : Int) + ((putT c2 i).length : Int) = (manyAt c2 (i + 1) : Int) := by
              show _ = ((manyAt c2 i + (putT c2 i).length + (if (stays c2)[i]? = some true then 1 else 0) : Nat) : Int)
              rw [hn2, if_neg (fun z => nomatch z)]
              omega
            refine iteF ⟨⟨some (.int (i : Int)), some (.ref qo), some (.int ((putT c2 i).length : Int)), some (.ref q2), ?_⟩, kb5, ?_⟩
            · rw [← emn]
              rfl
            · rw [hl5, erF (fun z => by rw [hn2] at z; cases z.1), ← emid]
        | false =>
          subst hah
          refine iteF ⟨_, rfl, _, rfl, q2, qo, _, _, rfl, rfl, upd_same, hq, by rw [hrg]; show _ + 0 ≤ sizeLine; omega, fun q3 n3 => ?_⟩
          refine ⟨l, q3, _, _, rfl, rfl, keeps_new n3 _ _ hlq, upd_same, by rw [List.length_append, hrg, List.length_map]; show _ + (_ + 0) ≤ sizeLine; omega, ?_⟩
          have emid : rgV (manyAt c2 i : Int) ((manyAt c2 i : Int) + ((putT c2 i).length : Int)) ++ [] = (if false = true then ownAt c1 i ++ nums (manyAt c2 i) (putT c2 i).length else nums (manyAt c2 i) (putT c2 i).length ++ ownAt c1 i).map Itm.v := by
            rw [if_neg Bool.false_ne_true, List.map_append, eow, erg]
          have emidlen : (rgV (manyAt c2 i : Int) ((manyAt c2 i : Int) + ((putT c2 i).length : Int)) ++ []).length = (putT c2 i).length + 0 := by rw [List.length_append, hrg]; rfl
          have kb5 : KB l (upd H2 l (.lst [])) (upd (upd (upd (upd H3 qo (.lst [])) q2 (.lst (rgV (manyAt c2 i : Int) ((manyAt c2 i : Int) + ((putT c2 i).length : Int))))) q3 (.lst (rgV (manyAt c2 i : Int) ((manyAt c2 i : Int) + ((putT c2 i).length : Int)) ++ []))) l (.lst ((((List.range i).flatMap (ledAt false c1 c2)).map Itm.v) ++ (rgV (manyAt c2 i : Int) ((manyAt c2 i : Int) + ((putT c2 i).length : Int)) ++ [])))) := (((KB.trans kb (KB.trans (KB.refl l H3) (KB.new (KB.refl l H3) nqo))).new n2).new n3).set
          have g1' := kb5 _ _ hl1' n1
          have g2' := kb5 _ _ hp1' n2'
          have g3' := kb5 _ _ hl2' n3'
          have hl5 : (upd (upd (upd (upd H3 qo (.lst [])) q2 (.lst (rgV (manyAt c2 i : Int) ((manyAt c2 i : Int) + ((putT c2 i).length : Int))))) q3 (.lst (rgV (manyAt c2 i : Int) ((manyAt c2 i : Int) + ((putT c2 i).length : Int)) ++ []))) l (.lst ((((List.range i).flatMap (ledAt false c1 c2)).map Itm.v) ++ (rgV (manyAt c2 i : Int) ((manyAt c2 i : Int) + ((putT c2 i).length : Int)) ++ [])))) l = some (.lst ((((List.range i).flatMap (ledAt false c1 c2)).map Itm.v) ++ (rgV (manyAt c2 i : Int) ((manyAt c2 i : Int) + ((putT c2 i).length : Int)) ++ []))) := upd_same
          refine ⟨_, rfl, _, rfl, _, _, rfl, rfl, ?_⟩
          have emany : (manyAt c2 i : Int) + ((putT c2 i).length : Int) = ((manyAt c2 i + (putT c2 i).length : Nat) : Int) := by omega
          refine ⟨_, rfl, _, rfl, _, _, rfl, .inl ⟨_, SqL.of g1', rfl⟩, _, _, rfl, rfl, _, rfl, ?_⟩
          rw [e1]
          by_cases hlt : i < wanted c1
          · have hst1 : i < (stays c1).length := by rw [stays_len]; exact hlt
            have hst2 : i < (stays c2).length := by rw [stays_len, ← hm]; exact hlt
            obtain ⟨b1, hb1⟩ : ∃ b, (stays c1)[i]? = some b := ⟨_, List.getElem?_eq_getElem hst1⟩
            obtain ⟨b2, hb2⟩ : ∃ b, (stays c2)[i]? = some b := ⟨_, List.getElem?_eq_getElem hst2⟩
            refine ite2 (fun _ => ?_) (fun z => absurd (decide_eq_true (show (i : Int) < (wanted c1 : Int) by omega)) z)
            refine ⟨_, rfl, _, rfl, l2, _, (i : Int), .bl b2, rfl, rfl, SqL.of g3', at_of (j := i) rfl (by rw [List.getElem?_map, hb2]; rfl), b2, rfl, ?_⟩
            cases b2 with
            | true =>
              refine iteT ⟨_, rfl, _, rfl, l1, _, (i : Int), .bl b1, rfl, rfl, SqL.of g1', at_of (j := i) rfl (by rw [List.getElem?_map, hb1]; rfl), b1, rfl, ?_⟩
              have emn : (manyAt c2 i : Int) + ((putT c2 i).length : Int) + 1 = (manyAt c2 (i + 1) : Int) := by
                show _ = ((manyAt c2 i + (putT c2 i).length + (if (stays c2)[i]? = some true then 1 else 0) : Nat) : Int)
                rw [hb2, if_pos rfl]
                omega
              cases b1 with
              | true =>
                refine iteT ⟨_, rfl, .inl ⟨rfl, _, SqL.of hl5⟩, _, rfl, l, _, _, rfl, rfl, hl5, ?_, ?_⟩
                · rw [List.length_append, emidlen, List.length_map]
                  omega
                · refine ⟨_, rfl, _, _, rfl, rfl, ⟨some (.int (i : Int)), some (.ref qo), some (.int ((putT c2 i).length : Int)), some (.ref q2), ?_⟩, kb5.set, ?_⟩
                  · rw [← emn]
                    rfl
                  · rw [erT hb2 hb1, ← emid, ← emany]
                    exact upd_same
              | false =>
                refine iteF ⟨_, rfl, _, _, rfl, rfl, ⟨some (.int (i : Int)), some (.ref qo), some (.int ((putT c2 i).length : Int)), some (.ref q2), ?_⟩, kb5, ?_⟩
                · rw [← emn]
                  rfl
                · rw [hl5, erF (fun z => by rw [hb1] at z; cases z.2), ← emid]
            | false =>
              have emn : (manyAt c2 i : Int) + ((putT c2 i).length : Int) = (manyAt c2 (i + 1) : Int) := by
                show _ = ((manyAt c2 i + (putT c2 i).length + (if (stays c2)[i]? = some true then 1 else 0) : Nat) : Int)
                rw [hb2, if_neg (fun z => nomatch z)]
                omega
              refine iteF ⟨⟨some (.int (i : Int)), some (.ref qo), some (.int ((putT c2 i).length : Int)), some (.ref q2), ?_⟩, kb5, ?_⟩
              · rw [← emn]
                rfl
              · rw [hl5, erF (fun z => by rw [hb2] at z; cases z.1), ← emid]
          · refine ite2 (fun z => absurd (of_decide_eq_true z) (by omega)) (fun _ => ?_)
            have hn2 : (stays c2)[i]? = none := List.getElem?_eq_none (by rw [stays_len, ← hm]; omega)
            have emn : (manyAt c2 i : Int) + ((putT c2 i).length : Int) = (manyAt c2 (i + 1) : Int) := by
              show _ = ((manyAt c2 i + (putT c2 i).length + (if (stays c2)[i]? = some true then 1 else 0) : Nat) : Int)
              rw [hn2, if_neg (fun z => nomatch z)]
              omega
            refine iteF ⟨⟨some (.int (i : Int)), some (.ref qo), some (.int ((putT c2 i).length : Int)), some (.ref q2), ?_⟩, kb5, ?_⟩
            · rw [← emn]
              rfl
            · rw [hl5, erF (fun z => by rw [hn2] at z; cases z.1), ← emid]
      | some so =>
        have eow : ([V.str (S so)] : List V) = (ownAt c1 i).map Itm.v := by unfold ownAt; rw [hpa]; rfl
        refine iteT ⟨_, rfl, _, rfl, p1, V.str (S so), rfl, ?_, (by show 1 ≤ sizeLine; decide), fun qo nqo => ?_⟩
        · have z := DGet.k (k := Sum.inl (i : Int)) g2
          rw [valV_kvs, hpa] at z
          exact z
        refine ⟨_, rfl, p2, rfl, .inl ⟨_, .inl (keeps_new nqo _ _ g4)⟩, _, rfl, _, DGet.k (k := Sum.inl (i : Int)) (keeps_new nqo _ _ g4), ?_⟩
        rw [valV_kvs, eg]
        refine ⟨_, _, rfl, ⟨by rw [S_len]; omega, rfl⟩, _, _, rfl, ?_⟩
        rw [S_len]
        refine ⟨_, rfl, _, rfl, _, rfl, _, _, rfl, rfl, _, _, rfl, rfl, ⟨by omega, by omega, by omega, by omega, by omega⟩, fun q2 n2 => ?_⟩
        have hq : upd (upd H3 qo (.lst [V.str (S so)])) q2 (.lst (rgV (manyAt c2 i : Int) ((manyAt c2 i : Int) + ((putT c2 i).length : Int)))) qo = some (.lst [V.str (S so)]) := keeps_new n2 _ _ upd_same
        have hrg : (rgV (manyAt c2 i : Int) ((manyAt c2 i : Int) + ((putT c2 i).length : Int))).length = (putT c2 i).length := by rw [rgV_length]; omega
        have erg : rgV (manyAt c2 i : Int) ((manyAt c2 i : Int) + ((putT c2 i).length : Int)) = (nums (manyAt c2 i) (putT c2 i).length).map Itm.v := by
          have h := rg_nums (manyAt c2 i) (manyAt c2 i + (putT c2 i).length) (Nat.le_add_right _ _)
          rw [Int.natCast_add, Nat.add_sub_cancel_left] at h
          exact h
        have hlq : upd (upd H3 qo (.lst [V.str (S so)])) q2 (.lst (rgV (manyAt c2 i : Int) ((manyAt c2 i : Int) + ((putT c2 i).length : Int)))) l = some (.lst (((List.range i).flatMap (ledAt ah c1 c2)).map Itm.v)) := keeps_new n2 _ _ (keeps_new nqo _ _ hl)
        refine ⟨_, rfl, .inl ⟨rfl, _, SqL.of hlq⟩, _, rfl, _, rfl, ?_⟩
        cases hah : ah with
        | true =>
          subst hah
          refine iteT ⟨_, rfl, _, rfl, qo, q2, _, _, rfl, rfl, hq, upd_same, by rw [hrg]; show 1 + _ ≤ sizeLine; omega, fun q3 n3 => ?_⟩
          refine ⟨l, q3, _, _, rfl, rfl, keeps_new n3 _ _ hlq, upd_same, by rw [List.length_append, hrg, List.length_map]; show _ + (1 + _) ≤ sizeLine; omega, ?_⟩
          have emid : [V.str (S so)] ++ rgV (manyAt c2 i : Int) ((manyAt c2 i : Int) + ((putT c2 i).length : Int)) = (if true = true then ownAt c1 i ++ nums (manyAt c2 i) (putT c2 i).length else nums (manyAt c2 i) (putT c2 i).length ++ ownAt c1 i).map Itm.v := by
            rw [if_pos rfl, List.map_append, eow, erg]
          have emidlen : ([V.str (S so)] ++ rgV (manyAt c2 i : Int) ((manyAt c2 i : Int) + ((putT c2 i).length : Int))).length = 1 + (putT c2 i).length := by rw [List.length_append, hrg]; rfl
          have kb5 : KB l (upd H2 l (.lst [])) (upd (upd (upd (upd H3 qo (.lst [V.str (S so)])) q2 (.lst (rgV (manyAt c2 i : Int) ((manyAt c2 i : Int) + ((putT c2 i).length : Int))))) q3 (.lst ([V.str (S so)] ++ rgV (manyAt c2 i : Int) ((manyAt c2 i : Int) + ((putT c2 i).length : Int))))) l (.lst ((((List.range i).flatMap (ledAt true c1 c2)).map Itm.v) ++ ([V.str (S so)] ++ rgV (manyAt c2 i : Int) ((manyAt c2 i : Int) + ((putT c2 i).length : Int)))))) := (((KB.trans kb (KB.trans (KB.refl l H3) (KB.new (KB.refl l H3) nqo))).new n2).new n3).set
          have g1' := kb5 _ _ hl1' n1
          have g2' := kb5 _ _ hp1' n2'
          have g3' := kb5 _ _ hl2' n3'
          have hl5 : (upd (upd (upd (upd H3 qo (.lst [V.str (S so)])) q2 (.lst (rgV (manyAt c2 i : Int) ((manyAt c2 i : Int) + ((putT c2 i).length : Int))))) q3 (.lst ([V.str (S so)] ++ rgV (manyAt c2 i : Int) ((manyAt c2 i : Int) + ((putT c2 i).length : Int))))) l (.lst ((((List.range i).flatMap (ledAt true c1 c2)).map Itm.v) ++ ([V.str (S so)] ++ rgV (manyAt c2 i : Int) ((manyAt c2 i : Int) + ((putT c2 i).length : Int)))))) l = some (.lst ((((List.range i).flatMap (ledAt true c1 c2)).map Itm.v) ++ ([V.str (S so)] ++ rgV (manyAt c2 i : Int) ((manyAt c2 i : Int) + ((putT c2 i).length : Int))))) := upd_same
          refine ⟨_, rfl, _, rfl, _, _, rfl, rfl, ?_⟩
          have emany : (manyAt c2 i : Int) + ((putT c2 i).length : Int) = ((manyAt c2 i + (putT c2 i).length : Nat) : Int) := by omega
          refine ⟨_, rfl, _, rfl, _, _, rfl, .inl ⟨_, SqL.of g1', rfl⟩, _, _, rfl, rfl, _, rfl, ?_⟩
          rw [e1]
          by_cases hlt : i < wanted c1
          · have hst1 : i < (stays c1).length := by rw [stays_len]; exact hlt
            have hst2 : i < (stays c2).length := by rw [stays_len, ← hm]; exact hlt
            obtain ⟨b1, hb1⟩ : ∃ b, (stays c1)[i]? = some b := ⟨_, List.getElem?_eq_getElem hst1⟩
            obtain ⟨b2, hb2⟩ : ∃ b, (stays c2)[i]? = some b := ⟨_, List.getElem?_eq_getElem hst2⟩
            refine ite2 (fun _ => ?_) (fun z => absurd (decide_eq_true (show (i : Int) < (wanted c1 : Int) by omega)) z)
            refine ⟨_, rfl, _, rfl, l2, _, (i : Int), .bl b2, rfl, rfl, SqL.of g3', at_of (j := i) rfl (by rw [List.getElem?_map, hb2]; rfl), b2, rfl, ?_⟩
            cases b2 with
            | true =>
              refine iteT ⟨_, rfl, _, rfl, l1, _, (i : Int), .bl b1, rfl, rfl, SqL.of g1', at_of (j := i) rfl (by rw [List.getElem?_map, hb1]; rfl), b1, rfl, ?_⟩
              have emn : (manyAt c2 i : Int) + ((putT c2 i).length : Int) + 1 = (manyAt c2 (i + 1) : Int) := by
                show _ = ((manyAt c2 i + (putT c2 i).length + (if (stays c2)[i]? = some true then 1 else 0) : Nat) : Int)
                rw [hb2, if_pos rfl]
                omega
              cases b1 with
              | true =>
                refine iteT ⟨_, rfl, .inl ⟨rfl, _, SqL.of hl5⟩, _, rfl, l, _, _, rfl, rfl, hl5, ?_, ?_⟩
                · rw [List.length_append, emidlen, List.length_map]
                  omega
                · refine ⟨_, rfl, _, _, rfl, rfl, ⟨some (.int (i : Int)), some (.ref qo), some (.int ((putT c2 i).length : Int)), some (.ref q2), ?_⟩, kb5.set, ?_⟩
                  · rw [← emn]
                    rfl
                  · rw [erT hb2 hb1, ← emid, ← emany]
                    exact upd_same
              | false =>
                refine iteF ⟨_, rfl, _, _, rfl, rfl, ⟨some (.int (i : Int)), some (.ref qo), some (.int ((putT c2 i).length : Int)), some (.ref q2), ?_⟩, kb5, ?_⟩
                · rw [← emn]
                  rfl
                · rw [hl5, erF (fun z => by rw [hb1] at z; cases z.2), ← emid]
            | false =>
              have emn : (manyAt c2 i : Int) + ((putT c2 i).length : Int) = (manyAt c2 (i + 1) : Int) := by
                show _ = ((manyAt c2 i + (putT c2 i).length + (if (stays c2)[i]? = some true then 1 else 0) : Nat) : Int)
                rw [hb2, if_neg (fun z => nomatch z)]
                omega
              refine iteF ⟨⟨some (.int (i : Int)), some (.ref qo), some (.int ((putT c2 i).length : Int)), some (.ref q2), ?_⟩, kb5, ?_⟩
              · rw [← emn]
                rfl
              · rw [hl5, erF (fun z => by rw [hb2] at z; cases z.1), ← emid]
          · refine ite2 (fun z => absurd (of_decide_eq_true z) (by omega)) (fun _ => ?_)
            have hn2 : (stays c2)[i]? = none := List.getElem?_eq_none (by rw [stays_len, ← hm]; omega)
            have emn : (manyAt c2 i : Int) + ((putT c2 i).length : Int) = (manyAt c2 (i + 1) : Int) := by
              show _ = ((manyAt c2 i + (putT c2 i).length + (if (stays c2)[i]? = some true then 1 else 0) : Nat) : Int)
              rw [hn2, if_neg (fun z => nomatch z)]
              omega
            refine iteF ⟨⟨some (.int (i : Int)), some (.ref qo), some (.int ((putT c2 i).length : Int)), some (.ref q2), ?_⟩, kb5, ?_⟩
            · rw [← emn]
              rfl
            · rw [hl5, erF (fun z => by rw [hn2] at z; cases z.1), ← emid]
        | false =>
          subst hah
          refine iteF ⟨_, rfl, _, rfl, q2, qo, _, _, rfl, rfl, upd_same, hq, by rw [hrg]; show _ + 1 ≤ sizeLine; omega, fun q3 n3 => ?_⟩
          refine ⟨l, q3, _, _, rfl, rfl, keeps_new n3 _ _ hlq, upd_same, by rw [List.length_append, hrg, List.length_map]; show _ + (_ + 1) ≤ sizeLine; omega, ?_⟩
          have emid : rgV (manyAt c2 i : Int) ((manyAt c2 i : Int) + ((putT c2 i).length : Int)) ++ [V.str (S so)] = (if false = true then ownAt c1 i ++ nums (manyAt c2 i) (putT c2 i).length else nums (manyAt c2 i) (putT c2 i).length ++ ownAt c1 i).map Itm.v := by
            rw [if_neg Bool.false_ne_true, List.map_append, eow, erg]
          have emidlen : (rgV (manyAt c2 i : Int) ((manyAt c2 i : Int) + ((putT c2 i).length : Int)) ++ [V.str (S so)]).length = (putT c2 i).length + 1 := by rw [List.length_append, hrg]; rfl
          have kb5 : KB l (upd H2 l (.lst [])) (upd (upd (upd (upd H3 qo (.lst [V.str (S so)])) q2 (.lst (rgV (manyAt c2 i : Int) ((manyAt c2 i : Int) + ((putT c2 i).length : Int))))) q3 (.lst (rgV (manyAt c2 i : Int) ((manyAt c2 i : Int) + ((putT c2 i).length : Int)) ++ [V.str (S so)]))) l (.lst ((((List.range i).flatMap (ledAt false c1 c2)).map Itm.v) ++ (rgV (manyAt c2 i : Int) ((manyAt c2 i : Int) + ((putT c2 i).length : Int)) ++ [V.str (S so)])))) := (((KB.trans kb (KB.trans (KB.refl l H3) (KB.new (KB.refl l H3) nqo))).new n2).new n3).set
          have g1' := kb5 _ _ hl1' n1
          have g2' := kb5 _ _ hp1' n2'
          have g3' := kb5 _ _ hl2' n3'
          have hl5 : (upd (upd (upd (upd H3 qo (.lst [V.str (S so)])) q2 (.lst (rgV (manyAt c2 i : Int) ((manyAt c2 i : Int) + ((putT c2 i).length : Int))))) q3 (.lst (rgV (manyAt c2 i : Int) ((manyAt c2 i : Int) + ((putT c2 i).length : Int)) ++ [V.str (S so)]))) l (.lst ((((List.range i).flatMap (ledAt false c1 c2)).map Itm.v) ++ (rgV (manyAt c2 i : Int) ((manyAt c2 i : Int) + ((putT c2 i).length : Int)) ++ [V.str (S so)])))) l = some (.lst ((((List.range i).flatMap (ledAt false c1 c2)).map Itm.v) ++ (rgV (manyAt c2 i : Int) ((manyAt c2 i : Int) + ((putT c2 i).length : Int)) ++ [V.str (S so)]))) := upd_same
          refine ⟨_, rfl, _, rfl, _, _, rfl, rfl, ?_⟩
          have emany : (manyAt c2 i : Int) + ((putT c2 i).length : Int) = ((manyAt c2 i + (putT c2 i).length : Nat) : Int) := by omega
          refine ⟨_, rfl, _, rfl, _, _, rfl, .inl ⟨_, SqL.of g1', rfl⟩, _, _, rfl, rfl, _, rfl, ?_⟩
          rw [e1]
          by_cases hlt : i < wanted c1
          · have hst1 : i < (stays c1).length := by rw [stays_len]; exact hlt
            have hst2 : i < (stays c2).length := by rw [stays_len, ← hm]; exact hlt
            obtain ⟨b1, hb1⟩ : ∃ b, (stays c1)[i]? = some b := ⟨_, List.getElem?_eq_getElem hst1⟩
            obtain ⟨b2, hb2⟩ : ∃ b, (stays c2)[i]? = some b := ⟨_, List.getElem?_eq_getElem hst2⟩
            refine ite2 (fun _ => ?_) (fun z => absurd (decide_eq_true (show (i : Int) < (wanted c1 : Int) by omega)) z)
            refine ⟨_, rfl, _, rfl, l2, _, (i : Int), .bl b2, rfl, rfl, SqL.of g3', at_of (j := i) rfl (by rw [List.getElem?_map, hb2]; rfl), b2, rfl, ?_⟩
            cases b2 with
            | true =>
              refine iteT ⟨_, rfl, _, rfl, l1, _, (i : Int), .bl b1, rfl, rfl, SqL.of g1', at_of (j := i) rfl (by rw [List.getElem?_map, hb1]; rfl), b1, rfl, ?_⟩
              have emn : (manyAt c2 i : Int) + ((putT c2 i).length : Int) + 1 = (manyAt c2 (i + 1) : Int) := by
                show _ = ((manyAt c2 i + (putT c2 i).length + (if (stays c2)[i]? = some true then 1 else 0) : Nat) : Int)
                rw [hb2, if_pos rfl]
                omega
              cases b1 with
              | true =>
                refine iteT ⟨_, rfl, .inl ⟨rfl, _, SqL.of hl5⟩, _, rfl, l, _, _, rfl, rfl, hl5, ?_, ?_⟩
                · rw [List.length_append, emidlen, List.length_map]
                  omega
                · refine ⟨_, rfl, _, _, rfl, rfl, ⟨some (.int (i : Int)), some (.ref qo), some (.int ((putT c2 i).length : Int)), some (.ref q2), ?_⟩, kb5.set, ?_⟩
                  · rw [← emn]
                    rfl
                  · rw [erT hb2 hb1, ← emid, ← emany]
                    exact upd_same
              | false =>
                refine iteF ⟨_, rfl, _, _, rfl, rfl, ⟨some (.int (i : Int)), some (.ref qo), some (.int ((putT c2 i).length : Int)), some (.ref q2), ?_⟩, kb5, ?_⟩
                · rw [← emn]
                  rfl
                · rw [hl5, erF (fun z => by rw [hb1] at z; cases z.2), ← emid]
            | false =>
              have emn : (manyAt c2 i : Int) + ((putT c2 i).length : Int) = (manyAt c2 (i + 1) : Int) := by
                show _ = ((manyAt c2 i + (putT c2 i).length + (if (stays c2)[i]? = some true then 1 else 0) : Nat) : Int)
                rw [hb2, if_neg (fun z => nomatch z)]
                omega
              refine iteF ⟨⟨some (.int (i : Int)), some (.ref qo), some (.int ((putT c2 i).length : Int)), some (.ref q2), ?_⟩, kb5, ?_⟩
              · rw [← emn]
                rfl
              · rw [hl5, erF (fun z => by rw [hb2] at z; cases z.1), ← emid]
          · refine ite2 (fun z => absurd (of_decide_eq_true z) (by omega)) (fun _ => ?_)
            have hn2 : (stays c2)[i]? = none := List.getElem?_eq_none (by rw [stays_len, ← hm]; omega)
            have emn : (manyAt c2 i : Int) + ((putT c2 i).length : Int) = (manyAt c2 (i + 1) : Int) := by
              show _ = ((manyAt c2 i + (putT c2 i).length + (if (stays c2)[i]? = some true then 1 else 0) : Nat) : Int)
              rw [hn2, if_neg (fun z => nomatch z)]
              omega
            refine iteF ⟨⟨some (.int (i : Int)), some (.ref qo), some (.int ((putT c2 i).length : Int)), some (.ref q2), ?_⟩, kb5, ?_⟩
            · rw [← emn]
              rfl
            · rw [hl5, erF (fun z => by rw [hn2] at z; cases z.1), ← emid]
    · rintro σ H3 ⟨⟨w9, w10, w11, w12, rfl⟩, kb, hl⟩
      have : (((((stays c1).map V.bl).length : Nat) : Int) + 1).toNat = wanted c1 + 1 := by rw [e1]; omega
      rw [this] at hl ⊢
      refine ⟨_, rfl, _, rfl, _, l, _, rfl, hl, ok, fun v H4 k4 C4 => q v H4 ((KB.keeps (k12.new nl) nl0 kb).trans k4) C4⟩
end
end K78
set_option Elab.async false
set_option linter.all false
set_option maxRecDepth 100000
set_option maxHeartbeats 4000000
namespace K78
open PySem PySem.Spec PyProof.Rows L2 SX
section
variable {P : Program} {w : World} {K : PySem.W.Frag} {mg : Str → Option Value} {base : Heap} {fd : FuncData}
def sc_besideN : List Str := ["one", "other"]
theorem sc_beside : FnScope sc_besideN ["one", "other"] (defScope s_beside) := ⟨rfl, rfl, rfl, by decide +kernel, rfl, by decide +kernel, by decide +kernel⟩
/-- the one beside the other -/
def OkLed (ah : Bool) (c1 c2 : Ch) : Prop := wanted c1 = wanted c2 ∧ wanted c1 ≤ 1000 ∧ OkItems (manyAt c2 (wanted c1 + 1)) (ledI ah c1 c2)
def ledC (ah : Bool) (c1 c2 : Ch) : Ch := changeBy (manyAt c2 (wanted c1 + 1)) (ledI ah c1 c2)
def sp_beside (K : PySem.W.Frag) : Sp := fun vs H Q _ => ∃ (v1 v2 : V) (c1 c2 : Ch), vs = [v1, v2] ∧ ChAt K H v1 c1 ∧ ChAt K H v2 c2 ∧ Sm c1 ∧ Sm c2 ∧ Fr c1 ∧ Fr c2 ∧ OkLed false c2 c1 ∧ OkLed true c1 c2 ∧
  ∀ t u1 u2 H1, Keeps H H1 → H1 t = some (.tup [u1, u2]) → ChAt K H1 u1 (ledC false c2 c1) → ChAt K H1 u2 (ledC true c1 c2) → Q (.ref t) H1
theorem ok_beside (F : FnP K d_beside fd) (T : Tx K mg) {fdW : FuncData} (FW : FnP K d_wanted fdW) {fdS : FuncData} (FS : FnP K d_spelt fdS) {fdG : FuncData} (FG : FnP K d_grown fdG) {fdB : FuncData} (FB : FnP K d_change_by fdB) {fdL : FuncData} (FL : FnP K d_led fdL) : FnOk P w K mg base CX0 4 (He.fAd K d_beside.at_) fd ["one", "other"] (sp_beside K) := by
  have GW : FnOk P w K mg base CX0 1 _ fdW ["change"] (sp_wanted K) := ok_wanted FW T
  have GL : FnOk P w K mg base CX0 3 _ fdL ["one", "other", "ahead"] (sp_led K) := ok_led FL T FS FG FB
  have bL : KBn K fdL ["one", "other", "ahead"] 2 ["ahead"] (fun us ws => us ++ ws) (fun vs zs => vs ++ zs) := kbnN FL fun _ _ _ _ _ _ us ws h1 h2 => match us, ws, h1, h2 with | [_, _], [_], _, _ => rfl
  have bW : Binds K fdW ["change"] [] := FW.bindsN fun _ _ _ _ _ _ us hl => match us, hl with | [_], _ => rfl
  refine F.ok sc_beside (fun vs H Q E h => ?_) (fun cdv A outer s H vs Q E hr h => ?_)
  · obtain ⟨v1, v2, c1, c2, rfl, C1, C2, sm1, sm2, fr1, fr2, ok1, ok2, q⟩ := h
    rfl
  · obtain ⟨v1, v2, c1, c2, rfl, C1, C2, sm1, sm2, fr1, fr2, ok1, ok2, q⟩ := h
    have hr1 : Room 1 _ := hr.mono (by decide)
    refine ⟨_, PSs.nox (pss_cons (ps_if (pt_cmpR op_ne (pe_call GW hr1 (by rfl) T.glo FW.kp bW .nil pass0 (pa_cons (pv 0) pa_nil)) (pe_call GW hr1 (by rfl) T.glo FW.kp bW .nil pass0 (pa_cons (pv 1) pa_nil)) (nomark _)) (pss_one ps_never) pss_nil)
  (pss_one (ps_ret (pe_tup (pa_cons (pe_callN GL hr (by rfl) T.glo FL.kp bL pass0 (pa_cons (pv 1) (pa_cons (pv 0) pa_nil)) (pk_cons pe_bl pk_nil)) (pa_cons (pe_callN GL hr (by rfl) T.glo FL.kp bL pass0 (pa_cons (pv 0) (pa_cons (pv 1) pa_nil)) (pk_cons pe_bl pk_nil)) pa_nil)))))), ?_⟩
    refine ⟨_, rfl, v1, c1, rfl, C1, sm1, fun H1 k1 => ⟨_, rfl, v2, c2, rfl, C2.im k1.im, sm2, fun H2 k2 => ⟨rfl, _, rfl, ne_no ok2.1 ?_⟩⟩⟩
    have k12 := k1.trans k2
    refine ⟨_, rfl, _, rfl, rfl, rfl, v2, v1, false, c2, c1, rfl, C2.im k12.im, C1.im k12.im, sm2, sm1, fr2, fr1, ok1.1, ok1.2.1, ok1.2.2, fun u1 H3 k3 D1 => ?_⟩
    have k13 := k12.trans k3
    refine ⟨_, rfl, _, rfl, rfl, rfl, v1, v2, true, c1, c2, rfl, C1.im k13.im, C2.im k13.im, sm1, sm2, fr1, fr2, ok2.1, ok2.2.1, ok2.2.2, fun u2 H4 k4 D2 => ?_⟩
    refine ⟨(by show 2 ≤ sizeLine; decide), fun t nt => q t u1 u2 _ ((k13.trans k4).new nt) upd_same (D1.im (k4.trans (keeps_new nt)).im) (D2.im (keeps_new nt).im)⟩
def sc_change_of_nothingN : List Str := ["text"]
theorem sc_change_of_nothing : FnScope sc_change_of_nothingN ["text"] (defScope s_change_of_nothing) := ⟨rfl, rfl, rfl, by decide +kernel, rfl, by decide +kernel, by decide +kernel⟩
def nothing (n : Nat) : Ch := if n = 0 then [] else [.keep n]
def sp_change_of_nothing (K : PySem.W.Frag) : Sp := fun vs H Q _ => ∃ t : List Nat, vs = [.str (S t)] ∧ t.length ≤ 4000 ∧ ∀ v H1, Keeps H H1 → ChAt K H1 v (nothing t.length) → Q v H1
theorem ok_change_of_nothing (F : FnP K d_change_of_nothing fd) (T : Tx K mg) : FnOk P w K mg base CX0 1 (He.fAd K d_change_of_nothing.at_) fd ["text"] (sp_change_of_nothing K) := by
  refine F.ok sc_change_of_nothing (fun vs H Q E h => ?_) (fun cdv A outer s H vs Q E hr h => ?_)
  · obtain ⟨t, rfl, htl, q⟩ := h
    rfl
  · obtain ⟨t, rfl, htl, q⟩ := h
    refine ⟨_, PSs.nox (pss_one (ps_ret (pe_ifExp (pt_cmpR op_ne (pv 0) pe_str (nomark _)) (pe_tup (pa_cons (pe_tup (pa_cons pe_str (pa_cons (pe_callB call_len (by rfl) T.free (by decide +kernel) (pa_cons (pv 0) pa_nil)) pa_nil))) pa_nil)) (pe_tup pa_nil)))), ?_⟩
    refine ⟨_, rfl, rfl, _, rfl, ?_⟩
    cases t with
    | nil =>
      refine iteF ⟨(by show 0 ≤ sizeLine; decide), fun p np => q _ _ ((Keeps.refl H).new np) ⟨p, [], rfl, SqT.of upd_same, .nil⟩⟩
    | cons x r =>
      have e : decide (V.str (S (x :: r)) = V.str "") = false := decide_eq_false fun z => by
        have z2 := V.str.inj z
        have z3 := congrArg (fun q : Str => q.cps.toList) z2
        cases z3
      show if (!decide (V.str (S (x :: r)) = V.str "")) = true then _ else _
      rw [e]
      refine iteT ⟨_, rfl, _, _, rfl, ⟨by rw [S_len]; exact Nat.le_of_lt (small (by omega)), rfl⟩, (by show 2 ≤ sizeLine; decide), fun b nb => ⟨(by show 1 ≤ sizeLine; decide), fun p np => ?_⟩⟩
      refine q _ _ (((Keeps.refl H).new nb).new np) ⟨p, [.ref b], rfl, SqT.of upd_same, ?_⟩
      show PtsAt K _ [.ref b] [.keep (x :: r).length]
      refine .cons ⟨b, rfl, SqT.of ?_⟩ .nil
      rw [keeps_new np _ _ upd_same, S_len]
      rfl
theorem kvs_sum (c : Ch) (k : Nat) : ((putsGo k c).map fun q => q.2.length).sum ≤ makes c := by
  induction c generalizing k with
  | nil => exact Nat.le_refl _
  | cons p c ih =>
    show _ ≤ p.make + makes c
    cases p with
    | keep n => exact Nat.le_trans (ih (k + n)) (Nat.le_add_left _ _)
    | drop n => exact Nat.le_trans (ih (k + n)) (Nat.le_add_left _ _)
    | put s =>
      show s.length + ((putsGo k c).map fun q => q.2.length).sum ≤ s.length + makes c
      exact Nat.add_le_add_left (ih k) _

end
end K78
set_option Elab.async false
set_option linter.all false
set_option maxRecDepth 100000
set_option maxHeartbeats 4000000
namespace K78
open PySem PySem.Spec PyProof.Rows L2 SX
section
variable {P : Program} {w : World} {K : PySem.W.Frag} {mg : Str → Option Value} {base : Heap} {fd : FuncData}
/-! ### moved -/
theorem flags_count (p : Pt) : p.flags.count true = (match p with | .keep n => n | _ => 0) := by
  cases p with
  | keep n => exact List.count_replicate_self
  | drop n =>
    show (List.replicate n false).count true = 0
    rw [List.count_replicate]
    rfl
  | put s => rfl
theorem makes_split (c : Ch) (k : Nat) : (stays c).count true + ((putsGo k c).map fun q => q.2.length).sum = makes c := by
  induction c generalizing k with
  | nil => rfl
  | cons p c ih =>
    have e : stays (p :: c) = p.flags ++ stays c := rfl
    have e2 : makes (p :: c) = p.make + makes c := rfl
    rw [e, e2, List.count_append, flags_count]
    cases p with
    | keep n => have := ih (k + n); show n + _ + ((putsGo (k + n) c).map fun q => q.2.length).sum = n + makes c; omega
    | drop n => have := ih (k + n); show 0 + _ + ((putsGo (k + n) c).map fun q => q.2.length).sum = 0 + makes c; omega
    | put s => have := ih k; show 0 + _ + (s.length + ((putsGo k c).map fun q => q.2.length).sum) = s.length + makes c; omega
theorem filter_sum (f : Nat × List Nat → Nat) (g : Nat × List Nat → Bool) (l : List (Nat × List Nat)) : ((l.filter g).map f).sum ≤ (l.map f).sum := by
  induction l with
  | nil => exact Nat.le_refl _
  | cons x l ih =>
    rw [List.filter_cons]
    split
    · rw [List.map_cons, List.sum_cons, List.map_cons, List.sum_cons]; omega
    · rw [List.map_cons, List.sum_cons]; omega
theorem filter_true_le (l : List Bool) (p : Nat) : ((l.take p).filter id).length ≤ l.count true := by
  have h : ((l.take p).filter id).length ≤ (l.filter id).length := by
    conv => rhs; rw [← List.take_append_drop p l, List.filter_append, List.length_append]
    omega
  have h2 : (l.filter id).length = l.count true := by
    rw [List.count_eq_length_filter]
    congr 1
    exact List.filter_congr fun x _ => by cases x <;> rfl
  omega
theorem cut_take (xs : List V) (p : Nat) : cutV xs none (some (p : Int)) = xs.take (min p xs.length) := by
  unfold cutV
  rw [HT.sIx_nat, HT.sIx_none, List.drop_zero, Nat.sub_zero]
theorem makes_le (c : Ch) : makes c ≤ (c.map Pt.size).sum := by
  induction c with
  | nil => exact Nat.le_refl _
  | cons p c ih =>
    show p.make + makes c ≤ p.size + (c.map Pt.size).sum
    have : p.make ≤ p.size := by cases p <;> simp [Pt.make, Pt.size]
    omega
def movC (p : Nat) (late : Bool) (q : Nat × List Nat) : Bool := decide (q.1 < p) || (late && decide (q.1 = p))
theorem takeF {α : Type} (l : List α) (g : α → Bool) (i : Nat) {x : α} (h : l[i]? = some x) : (l.take (i + 1)).filter g = (l.take i).filter g ++ (if g x = true then [x] else []) := by
  rw [List.take_succ, h, List.filter_append]
  congr 1
  show (List.filter g [x]) = _
  rw [List.filter_cons]
  rfl
theorem put_bound (c : Ch) (k : Nat) : ∀ q ∈ putsGo k c, q.2.length ≤ makes c := fun q hq => by
  have h1 := makes_split c k
  have h2 : q.2.length ≤ ((putsGo k c).map fun q => q.2.length).sum := by
    have : ∀ l : List (Nat × List Nat), q ∈ l → q.2.length ≤ (l.map fun q => q.2.length).sum := fun l => by
      induction l with
      | nil => intro h; cases h
      | cons x l ih =>
        intro h
        rw [List.map_cons, List.sum_cons]
        rcases List.mem_cons.mp h with rfl | h
        · omega
        · have := ih h; omega
    exact this _ hq
  omega

def sc_movedN : List Str := ["place", "change", "late", "stays", "puts", "texts", "spot", "text", "stay"]
theorem sc_moved : FnScope sc_movedN ["place", "change", "late"] (defScope s_moved) := ⟨rfl, rfl, rfl, by decide +kernel, rfl, by decide +kernel, by decide +kernel⟩
def sp_moved (K : PySem.W.Frag) : Sp := fun vs H Q _ => ∃ (p : Nat) (v : V) (late : Bool) (c : Ch), vs = [.int p, v, .bl late] ∧ ChAt K H v c ∧ Sm c ∧ Fr c ∧ p ≤ wanted c ∧
  ∀ (r : Nat) H1, Keeps H H1 → r ≤ makes c → Q (.int r) H1
theorem ok_moved (F : FnP K d_moved fd) (T : Tx K mg) {fdS : FuncData} (FS : FnP K d_spelt fdS) {fdN : FuncData} (FN : FnP K d_is_number fdN) : FnOk P w K mg base CX0 2 (He.fAd K d_moved.at_) fd ["place", "change", "late"] (sp_moved K) := by
  have GS : FnOk P w K mg base CX0 1 _ fdS ["change"] (sp_spelt K) := ok_spelt FS T
  have GN : FnOk P w K mg base CX0 1 _ fdN ["thing", "least"] sp_is_number := ok_is_number FN T
  have bS : Binds K fdS ["change"] [] := FS.bindsN fun _ _ _ _ _ _ us hl => match us, hl with | [_], _ => rfl
  have bN : Binds K fdN ["thing", "least"] [] := FN.bindsN fun _ _ _ _ _ _ us hl => match us, hl with | [_, _], _ => rfl
  refine F.ok sc_moved (fun vs H Q E h => ?_) (fun cdv A outer s H vs Q E hr h => ?_)
  · obtain ⟨p, v, late, c, rfl, C, sm, fr, hp, q⟩ := h
    rfl
  · obtain ⟨p, v, late, c, rfl, C, sm, fr, hp, q⟩ := h
    refine ⟨_, PSs.nox (pss_cons (ps_asg (pe_call GS hr (by rfl) T.glo FS.kp bS .nil pass0 (pa_cons (pv 1) pa_nil)) (pg_tup rfl (pgs_cons (pg_name (i := 3) sc_moved.nd rfl (.inl rfl)) (pgs_cons (pg_name (i := 4) sc_moved.nd rfl (.inl rfl)) pgs_nil))))
  (pss_cons (ps_if (PW.pt (pw_or (pt_not (pt_val (pe_call GN hr (by rfl) T.glo FN.kp bN .nil pass0 (pa_cons (pv 0) (pa_cons pe_int pa_nil))))) (pw_or1 (pt_cmpR op_gt (pv 0) (pe_callB call_len (by rfl) T.free (by decide +kernel) (pa_cons (pv 3) pa_nil)) (nomark _))))) (pss_one ps_never) pss_nil)
  (pss_cons (ps_lock (ps_setLc (i := 5) (own := [("spot", 6), ("text", 7)]) (g := (gTup K 2 (gCons (gName 6) (gCons (gName 7) gNil)))) rfl sc_moved.nd rfl rfl (sw_true rfl rfl rfl (by decide +kernel)) (pi_items (pv 4)) (blkOk_by (N := sc_movedN) (sc := defScope s_moved) (by decide +kernel)) (fun _ _ _ _ _ => (pg_tup rfl (pgs_cons (pg_name (i := 6) sc_moved.nd rfl (.inl rfl)) (pgs_cons (pg_name (i := 7) sc_moved.nd rfl (.inl rfl)) pgs_nil)))) (fun _ _ _ _ _ => (pts_one (PW.pt (pw_or (pt_cmpR op_lt (pv 6) (pv 0) (nomark _)) (pw_or1 (PW.pt (pw_and (pt_val (pv 2)) (pw_and1 (pt_cmpR op_eq (pv 6) (pv 0) (nomark _)))))))))) (fun _ _ _ _ _ => (pv 7))))
  (pss_one (ps_ret (pe_op op_add (pe_callB call_len (by rfl) T.free (by decide +kernel) (pa_cons (pe_lc (own := [("stay", 8)]) (g := (gName 8)) rfl sc_moved.nd (pi_list (pe_slice sl_list (pv 3) po_none (po_some (pv 0)))) (blkOk_by (N := sc_movedN) (sc := defScope s_moved) (by decide +kernel)) (fun _ _ _ _ _ => (pg_name (i := 8) sc_moved.nd rfl (.inl rfl))) (fun _ _ _ _ _ => (pts_one (pt_val (pv 8)))) (fun _ _ _ _ _ => (pv 8))) pa_nil)) (pe_callB (cr_sum rfl) (by rfl) T.free (by decide +kernel) (pa_cons (pe_lc (own := [("text", 7)]) (g := (gName 7)) (tt := tYes) rfl sc_moved.nd (pi_list (pv 5)) (blkOk_by (N := sc_movedN) (sc := defScope s_moved) (by decide +kernel)) (fun _ _ _ _ _ => (pg_name (i := 7) sc_moved.nd rfl (.inl rfl))) (fun _ _ _ _ _ => pts_nil) (fun _ _ _ _ _ => (pe_callB (show CallR _ (.builtin "len") (fun xs H Q => ∃ x n, xs = [x] ∧ LenV K x H n ∧ Q (.int n) H) from call_len) (by rfl) T.free (by decide +kernel) (pa_cons (pv 7) pa_nil)))) pa_nil)))))))), ?_⟩
    have hsize : sizeLine = 16777216 := sizeLine_eq
    refine ⟨_, rfl, v, c, rfl, C, sm, fr, fun t ls dp H1 k1 nls ndp ht hls hdp => ?_⟩
    refine ⟨t, _, rfl, SqT.of ht, rfl, _, _, rfl, _, _, rfl, rfl, ?_⟩
    have e1 : ((stays c).map V.bl).length = wanted c := by rw [List.length_map, stays_len]
    refine ⟨_, rfl, _, _, rfl, _, rfl, ?_⟩
    rw [decide_eq_true (show (0 : Int) ≤ (p : Int) by omega)]
    refine iteF ⟨_, rfl, _, rfl, _, _, rfl, .inl ⟨_, SqL.of hls, rfl⟩, _, _, rfl, rfl, _, rfl, ?_⟩
    rw [e1]
    refine ite2 (fun z => absurd (of_decide_eq_true z) (by omega)) (fun _ => ?_)
    -- the texts ahead
    refine ⟨dp, _, hdp, trivial, fun od => ?_⟩
    have hf : upd H1 dp (.frz od (.dK (kvs (putsOf c)))) dp = some (.frz od (.dK (kvs (putsOf c)))) := upd_same
    have kf : Keeps H (upd H1 dp (.frz od (.dK (kvs (putsOf c))))) := k1.set ndp
    have hlsf : upd H1 dp (.frz od (.dK (kvs (putsOf c)))) ls = some (.lst ((stays c).map V.bl)) := by
      rw [upd_ne (fun z => by rw [z, hdp] at hls; cases hls)]
      exact hls
    generalize hHf : upd H1 dp (.frz od (.dK (kvs (putsOf c)))) = Hf at hf kf hlsf ⊢
    refine ⟨_, rfl, dp, od, _, rfl, hf, fun D nD => ?_⟩
    have nD0 : H D = none := kf.free nD
    have ndpD : dp ≠ D := ne_of_none hf nD
    have nlsD : ls ≠ D := ne_of_none hlsf nD
    have ekl : (kvs (putsOf c)).length = (putsOf c).length := List.length_map _
    refine lc_it walk_items (fun i H' => KB D (upd Hf D (.lst [])) H' ∧ H' D = some (.lst ((((putsOf c).take i).filter (movC p late)).map fun q => V.str (S q.2)))) ⟨KB.refl _ _, upd_same⟩ (fun i H' _ z => z.1 _ _ (keeps_new nD _ _ hf) ndpD) ?_ ?_
    · rintro i x H2 H3 hi ⟨kb, hD⟩ ⟨tp, kx, vx, rfl, ntp, rfl, ek, ev⟩
      rw [ekl] at hi
      obtain ⟨e, he⟩ : ∃ e, (putsOf c)[i]? = some e := ⟨_, List.getElem?_eq_getElem hi⟩
      have hk : (kvs (putsOf c))[i]? = some (Sum.inl (e.1 : Int), V.str (S e.2)) := by
        unfold kvs
        rw [List.getElem?_map, he]
        rfl
      have ek : ((kvs (putsOf c))[i]?.map fun kv => kV kv.1) = some kx := ek
      have ev : ((kvs (putsOf c))[i]?.map Prod.snd) = some vx := ev
      rw [hk] at ek ev
      cases ek
      cases ev
      have eT := takeF (putsOf c) (movC p late) i he
      have kb2 : KB D (upd Hf D (.lst [])) (upd H2 tp (.tup [.int (e.1 : Int), .str (S e.2)])) := kb.new ntp
      have hD2 := keeps_new (o := .tup [.int (e.1 : Int), .str (S e.2)]) ntp _ _ hD
      have hlen : ((((putsOf c).take i).filter (movC p late)).map fun q => V.str (S q.2)).length < sizeLine := by
        rw [List.length_map]
        refine small (Nat.le_trans (List.length_filter_le _ _) (Nat.le_trans (List.length_take_le' _ _) (Nat.le_trans (putsGo_len _ _) (Nat.le_trans sm.1 (by decide)))))
      have fin1 : movC p late e = true → KB D (upd Hf D (.lst [])) (upd (upd H2 tp (.tup [.int (e.1 : Int), .str (S e.2)])) D (.lst (((((putsOf c).take i).filter (movC p late)).map fun q => V.str (S q.2)) ++ [V.str (S e.2)]))) ∧ upd (upd H2 tp (.tup [.int (e.1 : Int), .str (S e.2)])) D (.lst (((((putsOf c).take i).filter (movC p late)).map fun q => V.str (S q.2)) ++ [V.str (S e.2)])) D = some (.lst ((((putsOf c).take (i + 1)).filter (movC p late)).map fun q => V.str (S q.2))) := fun h => by
        refine ⟨kb2.set, ?_⟩
        rw [upd_same, eT, if_pos h, List.map_append]
        rfl
      have fin0 : movC p late e = false → KB D (upd Hf D (.lst [])) (upd H2 tp (.tup [.int (e.1 : Int), .str (S e.2)])) ∧ upd H2 tp (.tup [.int (e.1 : Int), .str (S e.2)]) D = some (.lst ((((putsOf c).take (i + 1)).filter (movC p late)).map fun q => V.str (S q.2))) := fun h => by
        refine ⟨kb2, ?_⟩
        rw [hD2, eT, if_neg (by rw [h]; exact Bool.false_ne_true), List.append_nil]
      refine ⟨tp, _, rfl, SqT.of upd_same, rfl, _, _, rfl, _, _, rfl, rfl, rfl, ?_⟩
      refine ⟨_, rfl, _, rfl, _, _, rfl, rfl, _, rfl, ?_⟩
      by_cases h1 : e.1 < p
      · refine ite2 (fun _ => ?_) (fun z => absurd (decide_eq_true (show (e.1 : Int) < (p : Int) by omega)) z)
        exact iteT ⟨_, rfl, _, hD2, hlen, fin1 (by unfold movC; rw [decide_eq_true h1]; rfl)⟩
      · refine ite2 (fun z => absurd (of_decide_eq_true z) (by omega)) (fun _ => ?_)
        refine ⟨_, rfl, late, rfl, ?_⟩
        cases late with
        | false => exact iteF (iteF (fin0 (by unfold movC; rw [decide_eq_false h1]; rfl)))
        | true =>
          refine iteT ⟨_, rfl, _, rfl, rfl, _, rfl, ?_⟩
          by_cases h2 : e.1 = p
          · refine ite2 (fun _ => ?_) (fun z => absurd (decide_eq_true (show V.int (e.1 : Int) = V.int (p : Int) by rw [h2])) z)
            exact ⟨_, rfl, _, hD2, hlen, fin1 (by unfold movC; rw [decide_eq_true h2, decide_eq_false h1]; rfl)⟩
          · refine ite2 (fun z => absurd (of_decide_eq_true z) (fun z => h2 (by have := V.int.inj z; omega))) (fun _ => ?_)
            exact fin0 (by unfold movC; rw [decide_eq_false h2, decide_eq_false h1]; rfl)
    · rintro H2 ⟨kb, hD⟩
      rw [ekl, List.take_length] at hD
      have hdp2 : H2 dp = some (.frz od (.dK (kvs (putsOf c)))) := kb _ _ (keeps_new nD _ _ hf) ndpD
      have hls2 : H2 ls = some (.lst ((stays c).map V.bl)) := kb _ _ (keeps_new nD _ _ hlsf) nlsD
      refine ⟨hdp2, ?_⟩
      have k2 : Keeps H (upd H2 dp (.dK (kvs (putsOf c)))) := (KB.keeps (kf.new nD) nD0 kb).set ndp
      have hls3 : upd H2 dp (.dK (kvs (putsOf c))) ls = some (.lst ((stays c).map V.bl)) := by
        rw [upd_ne (fun z => by rw [z, hdp2] at hls2; cases hls2)]
        exact hls2
      have hD3 : upd H2 dp (.dK (kvs (putsOf c))) D = some (.lst (((putsOf c).filter (movC p late)).map fun q => V.str (S q.2))) := by
        rw [upd_ne ndpD.symm]
        exact hD
      generalize hH3 : upd H2 dp (.dK (kvs (putsOf c))) = H3 at k2 hls3 hD3 ⊢
      -- those that stay ahead
      have ecut : cutV ((stays c).map V.bl) none (some (p : Int)) = ((stays c).take p).map V.bl := by
        rw [cut_take, e1, Nat.min_eq_left hp, List.map_take]
      refine ⟨_, rfl, _, rfl, (p : Int), rfl, ls, _, rfl, SqL.of hls3, fun q1 n1 => ?_⟩
      rw [ecut]
      refine ⟨q1, rfl, ⟨_, SqL.of upd_same⟩, fun D2 nD2 => ?_⟩
      have nD2q : q1 ≠ D2 := fun z => by rw [← z, upd_same] at nD2; cases nD2
      have hc4 : (stays c).length ≤ 4000 := by rw [stays_len]; exact Nat.le_trans (wanted_le c) sm.2.1
      have k3 := (k2.new (o := .lst (((stays c).take p).map V.bl)) n1)
      have hD4 := keeps_new (o := .lst (((stays c).take p).map V.bl)) n1 _ _ hD3
      refine lc_list (xs := ((stays c).take p).map V.bl) (fun i H' => KB D2 (upd (upd H3 q1 (.lst (((stays c).take p).map V.bl))) D2 (.lst [])) H' ∧ H' D2 = some (.lst (((((stays c).take p).take i).filter id).map V.bl))) ⟨KB.refl _ _, upd_same⟩ (fun i H' _ z => SqL.of (z.1 _ _ (keeps_new nD2 _ _ upd_same) nD2q)) (fun i x H4 hx z => ?_) (fun H4 z => ?_)
      · obtain ⟨kb4, hD5⟩ := z
        rw [List.getElem?_map] at hx
        cases hb : ((stays c).take p)[i]? with
        | none => rw [hb] at hx; cases hx
        | some b =>
          rw [hb] at hx
          cases hx
          have eT := takeF ((stays c).take p) id i hb
          refine ⟨rfl, _, rfl, b, rfl, ?_⟩
          cases b with
          | true =>
            refine iteT ⟨_, rfl, _, hD5, ?_, kb4.set, ?_⟩
            · rw [List.length_map]
              exact small (Nat.le_trans (List.length_filter_le _ _) (Nat.le_trans (List.length_take_le' _ _) (Nat.le_trans (List.length_take_le' _ _) (by omega))))
            · rw [upd_same, eT, if_pos (show id true = true from rfl), List.map_append]
              rfl
          | false =>
            refine iteF ⟨kb4, ?_⟩
            rw [hD5, eT, if_neg (show ¬ id false = true from fun z => nomatch z), List.append_nil]
      · obtain ⟨kb4, hD5⟩ := z
        rw [List.length_map, List.take_length] at hD5
        refine ⟨_, _, rfl, .inl ⟨_, SqL.of hD5, rfl⟩, ?_⟩
        have nDD2 : D ≠ D2 := ne_of_none hD4 nD2
        have hD6 : H4 D = some (.lst ((((putsOf c).filter (movC p late)).map fun q => V.str (S q.2)))) := kb4 _ _ (keeps_new nD2 _ _ hD4) nDD2
        have k4 : Keeps H H4 := KB.keeps (k3.new nD2) (k3.free nD2) kb4
        refine ⟨_, rfl, D, rfl, ⟨_, SqL.of hD6⟩, fun D3 nD3 => ?_⟩
        refine lc_list (xs := ((putsOf c).filter (movC p late)).map fun q => V.str (S q.2)) (fun i H' => KB D3 (upd H4 D3 (.lst [])) H' ∧ H' D3 = some (.lst (((((putsOf c).filter (movC p late)).take i).map fun q => (q.2.length : Int)).map V.int))) ⟨KB.refl _ _, upd_same⟩ (fun i H' _ z => SqL.of (z.1 _ _ (keeps_new nD3 _ _ hD6) (ne_of_none hD6 nD3))) (fun i x H5 hx z => ?_) (fun H5 z => ?_)
        · obtain ⟨kb5, hD7⟩ := z
          rw [List.getElem?_map] at hx
          cases hb : ((putsOf c).filter (movC p late))[i]? with
          | none => rw [hb] at hx; cases hx
          | some e =>
            rw [hb] at hx
            cases hx
            have em := put_bound c 0 e (List.mem_filter.mp (List.mem_of_getElem? hb)).1
            have hmk : makes c ≤ 4000 := Nat.le_trans (makes_le c) sm.2.1
            refine ⟨rfl, _, rfl, _, _, rfl, ⟨by rw [S_len]; omega, rfl⟩, _, hD7, ?_, kb5.set, ?_⟩
            · rw [List.length_map, List.length_map]
              exact small (Nat.le_trans (List.length_take_le' _ _) (Nat.le_trans (List.length_filter_le _ _) (Nat.le_trans (putsGo_len _ _) (Nat.le_trans sm.1 (by decide)))))
            · rw [upd_same, List.take_succ, hb, List.map_append, List.map_append, S_len]
              rfl
        · obtain ⟨kb5, hD7⟩ := z
          rw [List.length_map, List.take_length] at hD7
          refine ⟨D3, _, rfl, SqL.of hD7, _, _, rfl, rfl, ?_⟩
          have es : (((putsOf c).filter (movC p late)).map fun q => (q.2.length : Int)).sum = (((((putsOf c).filter (movC p late)).map fun q => q.2.length).sum : Nat) : Int) := by
            generalize (putsOf c).filter (movC p late) = l
            induction l with
            | nil => rfl
            | cons x l ih => rw [List.map_cons, List.sum_cons, List.map_cons, List.sum_cons, ih]; omega
          have hz := filter_sum (fun q => q.2.length) (movC p late) (putsOf c)
          have hz2 : (stays c).count true + ((putsOf c).map fun q => q.2.length).sum = makes c := makes_split c 0
          have hz3 := filter_true_le (stays c) p
          have fin := q ((((stays c).take p).filter id).length + (((putsOf c).filter (movC p late)).map fun q => q.2.length).sum) H5 (KB.keeps (k4.new nD3) (k4.free nD3) kb5) (by omega)
          rw [es, List.length_map]
          rw [Int.natCast_add] at fin
          exact fin
end
end K78
set_option Elab.async false
set_option linter.all false
set_option maxRecDepth 100000
set_option maxHeartbeats 4000000
namespace K78
open PySem PySem.Spec PyProof.Rows L2 SX
section
variable {P : Program} {w : World} {K : PySem.W.Frag} {mg : Str → Option Value} {base : Heap} {fd : FuncData}
theorem tyx_tup {H : Hp} {a : Addr} {xs : List V} (h : SqT K H a xs) : TyX K H (.ref a) (.type "tuple") := by
  rcases h with (h | ⟨o, h⟩) | ⟨o, its, n, h1, h2, _⟩
  · exact .base (.tup h)
  · exact .fTuple h
  · exact .kTuple h1 h2
def wordVs : List V := [.str "keep", .str "drop", .str "put"]
theorem words_eq : words.map (He.Dv.v K) = wordVs := rfl
theorem in_words (p : Pt) : inV (.str p.w) wordVs = true := by
  have a : inV (.str "keep") wordVs = true := by decide +kernel
  have b : inV (.str "drop") wordVs = true := by decide +kernel
  have c : inV (.str "put") wordVs = true := by decide +kernel
  cases p
  · exact a
  · exact b
  · exact c

def sc_is_partN : List Str := ["thing"]
theorem sc_is_part : FnScope sc_is_partN ["thing"] (defScope s_is_part) := ⟨rfl, rfl, rfl, by decide +kernel, rfl, by decide +kernel, by decide +kernel⟩
def sp_is_part (K : PySem.W.Frag) : Sp := fun vs H Q _ => ∃ (t : V) (p : Pt), vs = [t] ∧ PtAt K H t p ∧ 0 < p.size ∧ Q (.bl true) H
theorem ok_is_part (F : FnP K d_is_part fd) (T : Tx K mg) {fdN : FuncData} (FN : FnP K d_is_number fdN) : FnOk P w K mg base CX0 2 (He.fAd K d_is_part.at_) fd ["thing"] (sp_is_part K) := by
  have GN : FnOk P w K mg base CX0 1 _ fdN ["thing", "least"] sp_is_number := ok_is_number FN T
  have bN : Binds K fdN ["thing", "least"] [] := FN.bindsN fun _ _ _ _ _ _ us hl => match us, hl with | [_, _], _ => rfl
  refine F.ok sc_is_part (fun vs H Q E h => ?_) (fun cdv A outer s H vs Q E hr h => ?_)
  · obtain ⟨t, p, rfl, ⟨b, rfl, hb⟩, hp, q⟩ := h
    rfl
  · obtain ⟨t, p, rfl, ⟨b, rfl, hb⟩, hp, q⟩ := h
    refine ⟨_, PSs.nox (pss_cons (ps_if (PW.pt (pw_or (pt_not (pt_val (pe_callB call_isi (by rfl) T.free (by decide +kernel) (pa_cons (pv 0) (pa_cons (pe_bltn (v := .ty "tuple") (by rfl) T.free (by decide +kernel) rfl) pa_nil))))) (pw_or (pt_cmpR op_ne (pe_callB call_len (by rfl) T.free (by decide +kernel) (pa_cons (pv 0) pa_nil)) pe_int (nomark _)) (pw_or (pt_not (pt_val (pe_callB call_isi (by rfl) T.free (by decide +kernel) (pa_cons (pe_ix ix_tup (pv 0) pe_int (fun _ _ => rfl)) (pa_cons (pe_bltn (v := .ty "str") (by rfl) T.free (by decide +kernel) rfl) pa_nil))))) (pw_or1 (pt_cmpR op_notIn_seq (pe_ix ix_tup (pv 0) pe_int (fun _ _ => rfl)) (pe_glob (v := .ref (He.ga K "WORDS")) (by rfl) T.glo rfl) (by rfl))))))) (pss_one (ps_ret pe_bl)) pss_nil)
  (pss_cons (ps_if (pt_cmpR op_eq (pe_ix ix_tup (pv 0) pe_int (fun _ _ => rfl)) pe_str (nomark _)) (pss_one (ps_ret (pe_and (pe_callB call_isi (by rfl) T.free (by decide +kernel) (pa_cons (pe_ix ix_tup (pv 0) pe_int (fun _ _ => rfl)) (pa_cons (pe_bltn (v := .ty "str") (by rfl) T.free (by decide +kernel) rfl) pa_nil))) (pe_one (pe_cmpR op_ne (pe_ix ix_tup (pv 0) pe_int (fun _ _ => rfl)) pe_str (nomark _)))))) pss_nil)
  (pss_one (ps_ret (pe_call GN hr (by rfl) T.glo FN.kp bN .nil pass0 (pa_cons (pe_ix ix_tup (pv 0) pe_int (fun _ _ => rfl)) (pa_cons pe_int pa_nil))))))), ?_⟩
    refine ⟨_, rfl, _, _, _, _, true, rfl, .ty _, tyx_tup hb, kit_ty (by decide +kernel), _, rfl, iteF ?_⟩
    refine ⟨_, rfl, _, _, rfl, .inr ⟨_, hb, rfl⟩, rfl, _, rfl, iteF ?_⟩
    refine ⟨_, rfl, b, _, 0, _, rfl, rfl, hb, atI_nat (j := 0) rfl, _, _, _, _, true, rfl, .ty _, .base (.str _), kit_ty (by decide +kernel), _, rfl, iteF ?_⟩
    refine ⟨_, rfl, b, _, 0, _, rfl, rfl, hb, atI_nat (j := 0) rfl, He.ga K "WORDS", wordVs, rfl, .inr (T.words H), rfl, by decide +kernel, _, rfl, ?_⟩
    show if (!inV (.str p.w) wordVs) = true then _ else _
    rw [in_words]
    refine iteF ⟨_, rfl, b, _, 0, _, rfl, rfl, hb, atI_nat (j := 0) rfl, scal_w p "put", _, rfl, ?_⟩
    show if decide (V.str p.w = V.str "put") = true then _ else _
    rw [w_put]
    cases p with
    | put s =>
      refine iteT ⟨_, rfl, b, _, 1, _, rfl, rfl, hb, atI_nat (j := 1) rfl, _, _, _, _, true, rfl, .ty _, .base (.str _), kit_ty (by decide +kernel), true, rfl, iteT ?_⟩
      refine ⟨_, rfl, b, _, 1, _, rfl, rfl, hb, atI_nat (j := 1) rfl, rfl, ?_⟩
      have e : decide (V.str (S s) = V.str "") = false := decide_eq_false fun z => by
        have z3 := congrArg (fun q : Str => q.cps.toList) (V.str.inj z)
        have z4 : s = [] := z3
        rw [z4] at hp
        exact Nat.lt_irrefl _ hp
      show Q (.bl (!decide (V.str (S s) = V.str ""))) H
      rw [e]
      exact q
    | keep n =>
      refine iteF ⟨_, rfl, b, _, 1, _, rfl, rfl, hb, atI_nat (j := 1) rfl, (n : Int), 1, rfl, ?_⟩
      rw [decide_eq_true (show (1 : Int) ≤ (n : Int) by have : 0 < n := hp; omega)]
      exact q
    | drop n =>
      refine iteF ⟨_, rfl, b, _, 1, _, rfl, rfl, hb, atI_nat (j := 1) rfl, (n : Int), 1, rfl, ?_⟩
      rw [decide_eq_true (show (1 : Int) ≤ (n : Int) by have : 0 < n := hp; omega)]
      exact q
/-! ### is_change -/
def okAdj (p q : Pt) : Bool := !(p.same q) && !(p.isDrop && q.isPut)
def adj : Ch → Bool
  | p :: q :: r => okAdj p q && adj (q :: r)
  | _ => true
def Good (c : Ch) : Prop := (∀ p ∈ c, 0 < p.size) ∧ adj c = true
theorem adj_at : ∀ {c : Ch} {i : Nat} {p q : Pt}, adj c = true → c[i]? = some p → c[i + 1]? = some q → okAdj p q = true
  | [], _, _, _, _, h, _ => by cases h
  | [x], 0, _, _, _, _, h => by cases h
  | [x], i + 1, _, _, _, h, _ => by cases h
  | x :: y :: r, 0, p, q, h, h1, h2 => by
    cases h1
    cases h2
    exact (Bool.and_eq_true_iff.mp h).1
  | x :: y :: r, i + 1, p, q, h, h1, h2 => adj_at (c := y :: r) (i := i) (Bool.and_eq_true_iff.mp h).2 h1 h2
theorem two_eq (p q : Pt) : PyData.eqv (.tuple [.str p.w, .str q.w]) (.tuple [.str "drop", .str "put"]) = (p.isDrop && q.isPut) := by
  have h : ∀ (p : Pt) (x : Str), PyData.eqv (.str p.w) (.str x) = (p.w == x) := fun p x => rfl
  show (PyData.eqv (.str p.w) (.str "drop") && (PyData.eqv (.str q.w) (.str "put") && true)) = _
  rw [h, h, Bool.and_true]
  have d1 : (("keep" : Str) == "drop") = false := by decide +kernel
  have d2 : (("drop" : Str) == "drop") = true := by decide +kernel
  have d3 : (("put" : Str) == "drop") = false := by decide +kernel
  have u1 : (("keep" : Str) == "put") = false := by decide +kernel
  have u2 : (("drop" : Str) == "put") = false := by decide +kernel
  have u3 : (("put" : Str) == "put") = true := by decide +kernel
  have d : (p.w == ("drop" : Str)) = p.isDrop := by
    cases p
    · exact d1
    · exact d2
    · exact d3
  have u : (q.w == ("put" : Str)) = q.isPut := by
    cases q
    · exact u1
    · exact u2
    · exact u3
  rw [d, u]
theorem can_w (p : Pt) : PyData.canLay0 (.str p.w) = true := by
  have a : PyData.canLay0 (.str "keep") = true := by decide +kernel
  have b : PyData.canLay0 (.str "drop") = true := by decide +kernel
  have c : PyData.canLay0 (.str "put") = true := by decide +kernel
  cases p
  · exact a
  · exact b
  · exact c
theorem shaped_2 (p q : Pt) : SeqAt.shaped (.tuple [.str p.w, .str q.w]) = true := by
  show ((PyData.canLay0 (.str p.w) && (PyData.canLay0 (.str q.w) && true)) && _) = true
  rw [can_w, can_w]
  rfl
theorem shaped_dp : SeqAt.shaped (.tuple [.str "drop", .str "put"]) = true := shaped_2 (.drop 0) (.put [])

def sc_is_changeN : List Str := ["thing", "words", "part", "word", "what", "one", "other"]
theorem sc_is_change : FnScope sc_is_changeN ["thing"] (defScope s_is_change) := ⟨rfl, rfl, rfl, by decide +kernel, rfl, by decide +kernel, by decide +kernel⟩
def sp_is_change (K : PySem.W.Frag) : Sp := fun vs H Q _ => ∃ (v : V) (c : Ch), vs = [v] ∧ ChAt K H v c ∧ Sm c ∧ Good c ∧ ∀ H1, Keeps H H1 → Q (.bl true) H1
theorem ok_is_change (F : FnP K d_is_change fd) (T : Tx K mg) {fdN : FuncData} (FN : FnP K d_is_number fdN) {fdP : FuncData} (FP : FnP K d_is_part fdP) : FnOk P w K mg base CX0 3 (He.fAd K d_is_change.at_) fd ["thing"] (sp_is_change K) := by
  have GP : FnOk P w K mg base CX0 2 _ fdP ["thing"] (sp_is_part K) := ok_is_part FP T FN
  have bP : Binds K fdP ["thing"] [] := FP.bindsN fun _ _ _ _ _ _ us hl => match us, hl with | [_], _ => rfl
  refine F.ok sc_is_change (fun vs H Q E h => ?_) (fun cdv A outer s H vs Q E hr h => ?_)
  · obtain ⟨v, c, rfl, ⟨a, ts, rfl, hT, hP⟩, sm, gd, q⟩ := h
    rfl
  · obtain ⟨v, c, rfl, ⟨a, ts, rfl, hT, hP⟩, sm, gd, q⟩ := h
    refine ⟨_, PSs.nox (pss_cons (ps_if (PW.pt (pw_or (pt_not (pt_val (pe_callB call_isi (by rfl) T.free (by decide +kernel) (pa_cons (pv 0) (pa_cons (pe_bltn (v := .ty "tuple") (by rfl) T.free (by decide +kernel) rfl) pa_nil))))) (pw_or1 (pt_not (pt_val (pe_callB (cr_all rfl) (by rfl) T.free (by decide +kernel) (pa_cons (pe_lc (own := [("part", 2)]) (g := (gName 2)) (tt := tYes) rfl sc_is_change.nd (pi_tup (pv 0)) (blkOk_by (N := sc_is_changeN) (sc := defScope s_is_change) (by decide +kernel)) (fun _ _ _ _ _ => (pg_name (i := 2) sc_is_change.nd rfl (.inl rfl))) (fun _ _ _ _ _ => pts_nil) (fun _ _ _ _ _ => (pe_call GP hr (by rfl) T.glo FP.kp bP .nil pass0 (pa_cons (pv 2) pa_nil)))) pa_nil))))))) (pss_one (ps_ret pe_bl)) pss_nil)
  (pss_cons (ps_setLc (i := 1) (own := [("word", 3), ("what", 4)]) (g := (gTup K 2 (gCons (gName 3) (gCons (gName 4) gNil)))) (tt := tYes) rfl sc_is_change.nd rfl rfl (sw_true rfl rfl rfl (by decide +kernel)) (pi_tup (pv 0)) (blkOk_by (N := sc_is_changeN) (sc := defScope s_is_change) (by decide +kernel)) (fun _ _ _ _ _ => (pg_tup rfl (pgs_cons (pg_name (i := 3) sc_is_change.nd rfl (.inl rfl)) (pgs_cons (pg_name (i := 4) sc_is_change.nd rfl (.inl rfl)) pgs_nil)))) (fun _ _ _ _ _ => pts_nil) (fun _ _ _ _ _ => (pv 3)))
  (pss_one (ps_ret (pe_not (pe_callB (cr_any rfl) (by rfl) T.free (by decide +kernel) (pa_cons (pe_lc (own := [("one", 5), ("other", 6)]) (g := (gTup K 2 (gCons (gName 5) (gCons (gName 6) gNil)))) (tt := tYes) rfl sc_is_change.nd (pi_zip (by rfl) T.free (pa_cons (pv 1) (pa_cons (pe_slice sl_list (pv 1) (po_some pe_int) po_none) pa_nil))) (blkOk_by (N := sc_is_changeN) (sc := defScope s_is_change) (by decide +kernel)) (fun _ _ _ _ _ => (pg_tup rfl (pgs_cons (pg_name (i := 5) sc_is_change.nd rfl (.inl rfl)) (pgs_cons (pg_name (i := 6) sc_is_change.nd rfl (.inl rfl)) pgs_nil)))) (fun _ _ _ _ _ => pts_nil) (fun _ _ _ _ _ => (pe_or (pe_cmpR op_eq (pv 5) (pv 6) (nomark _)) (pe_one (pe_cmpR (show OpR _ (compareOp .Eq) (rEqD K) from op_eqD hr.units) (pe_tup (pa_cons (pv 5) (pa_cons (pv 6) pa_nil))) (pe_tup (pa_cons pe_str (pa_cons pe_str pa_nil))) (nomark _)))))) pa_nil))))))), ?_⟩
    have hl4 := sm.1
    refine ⟨_, rfl, _, _, _, _, true, rfl, .ty _, tyx_tup hT, kit_ty (by decide +kernel), _, rfl, iteF ?_⟩
    refine ⟨_, rfl, a, rfl, ⟨_, hT⟩, fun D nD => lc_it walk_tup (fun i H' => KB D (upd H D (.lst [])) H' ∧ H' D = some (.lst ((List.replicate i true).map V.bl))) ⟨KB.refl _ _, upd_same⟩ (fun i H' _ z => sqT_im (KB.keeps ((Keeps.refl H).new nD) nD z.1).im hT) ?_ ?_⟩
    · rintro i x H1 H2 hi ⟨kb, hD⟩ ⟨rfl, hx⟩
      obtain ⟨p, hp, hpt⟩ := hP.get hx
      have im : Im H H2 := (KB.keeps ((Keeps.refl H).new nD) nD kb).im
      have hi4 : i < 4001 := by rw [hP.length] at hi; omega
      refine ⟨rfl, _, rfl, x, p, rfl, hpt.im im, gd.1 p (List.mem_of_getElem? hp), _, hD, ?_, kb.set, ?_⟩
      · rw [List.length_map, List.length_replicate]
        exact small (by omega)
      · rw [upd_same, List.replicate_succ', List.map_append]
        rfl
    · rintro H1 ⟨kb, hD⟩
      have k1 : Keeps H H1 := KB.keeps ((Keeps.refl H).new nD) nD kb
      refine ⟨D, _, rfl, SqL.of hD, true, ?_, iteF ?_⟩
      · have : (List.replicate ts.length true).all id = true := List.all_eq_true.mpr fun x hx => by rw [(List.mem_replicate.mp hx).2]; rfl
        rw [this]
      refine ⟨_, rfl, a, rfl, ⟨_, sqT_im k1.im hT⟩, fun D2 nD2 => lc_it walk_tup (fun i H' => KB D2 (upd H1 D2 (.lst [])) H' ∧ H' D2 = some (.lst ((c.take i).map fun p => V.str p.w))) ⟨KB.refl _ _, upd_same⟩ (fun i H' _ z => sqT_im (k1.trans (KB.keeps ((Keeps.refl H1).new nD2) nD2 z.1)).im hT) ?_ ?_⟩
      · rintro i x H2 H3 hi ⟨kb2, hD2⟩ ⟨rfl, hx⟩
        obtain ⟨p, hp, b, rfl, hb⟩ := hP.get hx
        have im : Im H H3 := (k1.trans (KB.keeps ((Keeps.refl H1).new nD2) nD2 kb2)).im
        refine ⟨b, _, rfl, sqT_im im hb, rfl, _, _, rfl, _, _, rfl, rfl, rfl, _, rfl, _, hD2, ?_, kb2.set, ?_⟩
        · rw [List.length_map]
          exact small (Nat.le_trans (List.length_take_le' _ _) (by omega))
        · rw [upd_same, cons_of c _ i hp]
      · rintro H2 ⟨kb2, hD2⟩
        rw [hP.length, List.take_length] at hD2
        have k2 : Keeps H H2 := k1.trans (KB.keeps ((Keeps.refl H1).new nD2) nD2 kb2)
        refine ⟨_, rfl, _, rfl, 1, rfl, D2, _, rfl, SqL.of hD2, fun q1 n1 => ?_⟩
        have ecut : cutV (c.map fun p => V.str p.w) (some 1) none = (c.drop 1).map fun p => V.str p.w := by
          unfold cutV
          rw [HT.sIx_none, show (some (1 : Int)) = some ((1 : Nat) : Int) from rfl, HT.sIx_nat, List.length_map, ← List.map_drop]
          cases c with
          | nil => rfl
          | cons x r =>
            rw [Nat.min_eq_left (by simp)]
            exact List.take_of_length_le (by simp)
        rw [ecut]
        have hDq := keeps_new (o := .lst ((c.drop 1).map fun p => V.str p.w)) n1 _ _ hD2
        have k3 := k2.new (o := .lst ((c.drop 1).map fun p => V.str p.w)) n1
        refine ⟨D2, q1, _, _, rfl, SqL.of hDq, SqL.of upd_same, fun D3 nD3 => ?_⟩
        have nq1 : q1 ≠ D3 := fun z => by rw [← z, upd_same] at nD3; cases nD3
        have nD23 : D2 ≠ D3 := ne_of_none hDq nD3
        have k4 := k3.new (o := .lst []) nD3
        have hmin : (c.drop 1).length = min (c.map fun p => V.str p.w).length ((c.drop 1).map fun p => V.str p.w).length := by rw [List.length_map, List.length_map, List.length_drop]; omega
        have gq : ∀ H', KB D3 (upd (upd H2 q1 (.lst ((c.drop 1).map fun p => V.str p.w))) D3 (.lst [])) H' → SqL K H' D2 (c.map fun p => V.str p.w) ∧ SqL K H' q1 ((c.drop 1).map fun p => V.str p.w) := fun H' z => ⟨SqL.of (z _ _ (keeps_new nD3 _ _ hDq) nD23), SqL.of (z _ _ (keeps_new nD3 _ _ upd_same) nq1)⟩
        refine lc_it (walk_zip hmin) (fun i H' => KB D3 (upd (upd H2 q1 (.lst ((c.drop 1).map fun p => V.str p.w))) D3 (.lst [])) H' ∧ H' D3 = some (.lst ((List.replicate i false).map V.bl))) ⟨KB.refl _ _, upd_same⟩ (fun i H' _ z => gq H' z.1) ?_ ?_
        · rintro i x H4 H5 hi ⟨kb4, hD4⟩ ⟨tp, x1, x2, rfl, ntp, rfl, ex1, ex2⟩
          rw [List.length_drop] at hi
          obtain ⟨p1, hp1⟩ : ∃ p, c[i]? = some p := ⟨_, List.getElem?_eq_getElem (by omega)⟩
          obtain ⟨p2, hp2⟩ : ∃ p, c[i + 1]? = some p := ⟨_, List.getElem?_eq_getElem (by omega)⟩
          have ex1 : (c.map fun p => V.str p.w)[i]? = some x1 := ex1
          have ex2 : ((c.drop 1).map fun p => V.str p.w)[i]? = some x2 := ex2
          rw [List.getElem?_map, hp1] at ex1
          rw [List.getElem?_map, List.getElem?_drop, Nat.add_comm, hp2] at ex2
          cases ex1
          cases ex2
          have ok := adj_at gd.2 hp1 hp2
          have ok' : (!(p1.same p2) && !(p1.isDrop && p2.isPut)) = true := ok
          have o1 : p1.same p2 = false := by
            cases z : p1.same p2 with
            | false => rfl
            | true => rw [z] at ok'; cases ok'
          have o2 : (p1.isDrop && p2.isPut) = false := by
            cases z : (p1.isDrop && p2.isPut) with
            | false => rfl
            | true => rw [z, o1] at ok'; cases ok'
          have kb5 := kb4.new (o := .tup [.str p1.w, .str p2.w]) ntp
          have hD5 := keeps_new (o := .tup [.str p1.w, .str p2.w]) ntp _ _ hD4
          refine ⟨tp, _, rfl, SqT.of upd_same, rfl, _, _, rfl, _, _, rfl, rfl, rfl, ?_⟩
          refine ⟨_, rfl, _, rfl, rfl, false, congrArg V.bl ((same_v p1 p2).trans o1), iteF ?_⟩
          refine ⟨_, rfl, _, rfl, (by show 2 ≤ sizeLine; decide), fun t1 nt1 => ⟨(by show 2 ≤ sizeLine; decide), fun t2 nt2 => ?_⟩⟩
          have nt12 : t1 ≠ t2 := fun z => by rw [← z, upd_same] at nt2; cases nt2
          refine ⟨.tuple [.str p1.w, .str p2.w], .tuple [.str "drop", .str "put"], .tup (.inl (.inl (keeps_new nt2 _ _ upd_same))) (.cons (.str _) (.cons (.str _) .nil)), .tup (.inl (.inl upd_same)) (.cons (.str _) (.cons (.str _) .nil)), shaped_2 p1 p2, shaped_dp, ?_⟩
          rw [two_eq, o2]
          have hD6 := keeps_new (o := .tup [.str "drop", .str "put"]) nt2 _ _ (keeps_new (o := .tup [.str p1.w, .str p2.w]) nt1 _ _ hD5)
          refine ⟨_, hD6, ?_, ((kb5.new nt1).new nt2).set, ?_⟩
          · rw [List.length_map, List.length_replicate]
            exact small (by omega)
          · rw [upd_same, List.replicate_succ', List.map_append]
            rfl
        · rintro H4 ⟨kb4, hD4⟩
          refine ⟨D3, _, rfl, SqL.of hD4, false, ?_, ?_⟩
          · have : (List.replicate (c.drop 1).length false).any id = false := by
              cases z : (List.replicate (c.drop 1).length false).any id with
              | false => rfl
              | true =>
                obtain ⟨x, hx, hy⟩ := List.any_eq_true.mp z
                rw [(List.mem_replicate.mp hx).2] at hy
                cases hy
            rw [this]
          · exact q H4 (KB.keeps k4 (k3.free nD3) kb4)
/-! ### is_name -/
def pieceVs : List V := pieceWords.map fun d => d.v []
theorem pieceVs_eq : pieceWords.map (He.Dv.v K) = pieceVs := rfl
def okName (x : Str) : Bool := decide (1 ≤ x.length) && decide (x.length ≤ 8) && !inV (.str x) pieceVs && x.cps.toList.all fun n => decide (n ∈ (Str.ofString "abcdefghijklmnopqrstuvwxyz").cps.toList)

def sc_is_nameN : List Str := ["thing", "sign"]
theorem sc_is_name : FnScope sc_is_nameN ["thing"] (defScope s_is_name) := ⟨rfl, rfl, rfl, by decide +kernel, rfl, by decide +kernel, by decide +kernel⟩
def sp_is_name : Sp := fun vs H Q _ => ∃ x : Str, vs = [.str x] ∧ okName x = true ∧ ∀ H1, Keeps H H1 → Q (.bl true) H1
theorem ok_is_name (F : FnP K d_is_name fd) (T : Tx K mg) : FnOk P w K mg base CX0 1 (He.fAd K d_is_name.at_) fd ["thing"] (sp_is_name) := by
  obtain ⟨tsm, hsm⟩ := T.s_SMALL
  obtain ⟨tmn, hmn⟩ := T.i_MOST_NAME
  refine F.ok sc_is_name (fun vs H Q E h => ?_) (fun cdv A outer s H vs Q E hr h => ?_)
  · obtain ⟨x, rfl, ok, q⟩ := h
    rfl
  · obtain ⟨x, rfl, ok, q⟩ := h
    refine ⟨_, PSs.nox (pss_cons (ps_if (PW.pt (pw_or (pt_not (pt_val (pe_callB call_isi (by rfl) T.free (by decide +kernel) (pa_cons (pv 0) (pa_cons (pe_bltn (v := .ty "str") (by rfl) T.free (by decide +kernel) rfl) pa_nil))))) (pw_or (pt_not (pt_chain op_le op_le pe_int (pe_callB call_len (by rfl) T.free (by decide +kernel) (pa_cons (pv 0) pa_nil)) (pe_glob (v := .int 8) (by rfl) hmn ⟨_, rfl⟩))) (pw_or1 (pt_cmpR op_in_seq (pv 0) (pe_glob (v := .ref (He.ga K "PIECE_WORDS")) (by rfl) T.glo rfl) (by rfl)))))) (pss_one (ps_ret pe_bl)) pss_nil)
  (pss_one (ps_ret (pe_callB (cr_all rfl) (by rfl) T.free (by decide +kernel) (pa_cons (pe_lc (own := [("sign", 1)]) (g := (gName 1)) (tt := tYes) rfl sc_is_name.nd (pi_str (pv 0)) (blkOk_by (N := sc_is_nameN) (sc := defScope s_is_name) (by decide +kernel)) (fun _ _ _ _ _ => (pg_name (i := 1) sc_is_name.nd rfl (.inl rfl))) (fun _ _ _ _ _ => pts_nil) (fun _ _ _ _ _ => (pe_cmpR op_in_sign (pv 1) (pe_glob (v := .str "abcdefghijklmnopqrstuvwxyz") (by rfl) hsm ⟨_, rfl⟩) (by rfl)))) pa_nil))))), ?_⟩
    obtain ⟨ok, o4⟩ := He.ba ok
    obtain ⟨ok, o3⟩ := He.ba ok
    obtain ⟨o1, o2⟩ := He.ba ok
    have o1 := of_decide_eq_true o1
    have o2 := of_decide_eq_true o2
    have o3 : inV (.str x) pieceVs = false := by
      cases z : inV (.str x) pieceVs with
      | false => rfl
      | true => rw [z] at o3; cases o3
    refine ⟨_, rfl, _, _, _, _, true, rfl, .ty _, .base (.str _), kit_ty (by decide +kernel), _, rfl, iteF ?_⟩
    refine ⟨_, rfl, _, _, rfl, ⟨Nat.le_of_lt (small (by omega)), rfl⟩, _, _, rfl, rfl, true, ?_, iteT ⟨_, _, rfl, rfl, ?_⟩⟩
    · show V.bl (decide ((1 : Int) ≤ (x.length : Int))) = V.bl true
      rw [decide_eq_true (show (1 : Int) ≤ (x.length : Int) by omega)]
    refine ⟨true, ?_, iteF ?_⟩
    · show V.bl (decide ((x.length : Int) ≤ 8)) = V.bl true
      rw [decide_eq_true (show (x.length : Int) ≤ (8 : Int) by omega)]
    refine ⟨_, rfl, He.ga K "PIECE_WORDS", pieceVs, rfl, .inr (T.pieceWords H), rfl, by decide +kernel, _, rfl, ?_⟩
    show if inV (.str x) pieceVs = true then _ else _
    rw [o3]
    refine iteF ⟨_, rfl, x, rfl, fun D nD => lc_it walk_str (fun i H' => KB D (upd H D (.lst [])) H' ∧ H' D = some (.lst ((List.replicate i true).map V.bl))) ⟨KB.refl _ _, upd_same⟩ (fun _ _ _ _ => trivial) ?_ ?_⟩
    · rintro i y H1 H2 hi ⟨kb, hD⟩ ⟨rfl, cc, hcc, rfl⟩
      have hm : cc ∈ x.cps.toList := by
        rw [← Array.getElem?_toList] at hcc
        exact List.mem_of_getElem? hcc
      have hin := of_decide_eq_true (List.all_eq_true.mp o4 cc hm)
      refine ⟨rfl, _, rfl, cc, _, rfl, rfl, _, hD, ?_, kb.set, ?_⟩
      · rw [List.length_map, List.length_replicate]
        have : x.cps.size = x.length := rfl
        exact small (by omega)
      · rw [upd_same, List.replicate_succ', List.map_append, decide_eq_true hin]
        rfl
    · rintro H1 ⟨kb, hD⟩
      refine ⟨D, _, rfl, SqL.of hD, ?_⟩
      have : (List.replicate x.cps.size true).all id = true := List.all_eq_true.mpr fun x hx => by rw [(List.mem_replicate.mp hx).2]; rfl
      rw [this]
      exact q H1 (KB.keeps ((Keeps.refl H).new nD) nD kb)
end
end K78
set_option Elab.async false
set_option linter.all false
set_option maxRecDepth 100000
set_option maxHeartbeats 1000000
namespace K78
open PySem PySem.Spec PyProof.Rows L2 SX
/-! ### changes, sign by sign -/
inductive U where
  | K | D | P (c : Nat)
def Pt.us : Pt → List U
  | .keep n => List.replicate n .K
  | .drop n => List.replicate n .D
  | .put s => s.map .P
def us (c : Ch) : List U := c.flatMap Pt.us
theorem us_append (a b : Ch) : us (a ++ b) = us a ++ us b := List.flatMap_append
theorem us_one (p : Pt) : us [p] = p.us := by simp [us]
theorem us_zero {p : Pt} (h : p.size = 0) : p.us = [] := by
  cases p with
  | keep n => have h : n = 0 := h; subst h; rfl
  | drop n => have h : n = 0 := h; subst h; rfl
  | put s => have h : s = [] := List.length_eq_zero_iff.mp h; subst h; rfl
theorem us_plus {p q : Pt} (h : p.same q = true) : (p.plus q).us = p.us ++ q.us := by
  rcases same_or h with ⟨a, b, rfl, rfl⟩ | ⟨a, b, rfl, rfl⟩ | ⟨a, b, rfl, rfl⟩
  · exact List.replicate_append_replicate.symm
  · exact List.replicate_append_replicate.symm
  · exact List.map_append
theorem us_grow (c : Ch) (p : Pt) : us (grow c p) = us c ++ p.us := by
  rcases List.eq_nil_or_concat c with rfl | ⟨c0, q, rfl⟩
  · rw [grow_nil]
    split
    · rename_i h; rw [us_zero h]; rfl
    · rw [us_one]; rfl
  · rw [List.concat_eq_append, grow_snoc]
    split
    · rename_i h
      rw [us_append, us_append, us_one, us_one, us_plus h, List.append_assoc]
    · split
      · rename_i h; rw [us_zero h, List.append_nil]
      · rw [us_append, us_one]
def runU : List U → List Nat → List Nat
  | [], _ => []
  | .P c :: r, t => c :: runU r t
  | .K :: r, [] => runU r []
  | .K :: r, x :: t => x :: runU r t
  | .D :: r, [] => runU r []
  | .D :: r, _ :: t => runU r t
theorem runU_K (n : Nat) (r : List U) (t : List Nat) : runU (List.replicate n .K ++ r) t = t.take n ++ runU r (t.drop n) := by
  induction n generalizing t with
  | zero => rfl
  | succ n ih =>
    cases t with
    | nil =>
      show runU (List.replicate n .K ++ r) [] = _
      rw [ih]
      simp
    | cons x t =>
      show x :: runU (List.replicate n .K ++ r) t = _
      rw [ih]
      rfl
theorem runU_D (n : Nat) (r : List U) (t : List Nat) : runU (List.replicate n .D ++ r) t = runU r (t.drop n) := by
  induction n generalizing t with
  | zero => rfl
  | succ n ih =>
    cases t with
    | nil =>
      show runU (List.replicate n .D ++ r) [] = _
      rw [ih]
      simp
    | cons x t =>
      show runU (List.replicate n .D ++ r) t = _
      rw [ih]
      rfl
theorem runU_P (s : List Nat) (r : List U) (t : List Nat) : runU (s.map .P ++ r) t = s ++ runU r t := by
  induction s with
  | nil => rfl
  | cons x s ih =>
    show x :: runU (s.map .P ++ r) t = _
    rw [ih]
    rfl
theorem run_us (c : Ch) (t : List Nat) : runC c t = runU (us c) t := by
  induction c generalizing t with
  | nil => rfl
  | cons p c ih =>
    have e : us (p :: c) = p.us ++ us c := rfl
    rw [e]
    cases p with
    | keep n => rw [show (Pt.keep n).us = List.replicate n .K from rfl, runU_K, ← ih]; rfl
    | drop n => rw [show (Pt.drop n).us = List.replicate n .D from rfl, runU_D, ← ih]; rfl
    | put s => rw [show (Pt.put s).us = s.map .P from rfl, runU_P, ← ih]; rfl
def wantU : List U → Nat
  | [] => 0
  | .P _ :: r => wantU r
  | .K :: r => wantU r + 1
  | .D :: r => wantU r + 1
theorem wantU_append (a b : List U) : wantU (a ++ b) = wantU a + wantU b := by
  induction a with
  | nil => simp [wantU]
  | cons x a ih => cases x <;> simp [wantU, ih] <;> omega
theorem wantU_pt (p : Pt) : wantU p.us = p.want := by
  cases p with
  | keep n =>
    show wantU (List.replicate n .K) = n
    induction n with
    | zero => rfl
    | succ n ih => rw [List.replicate_succ]; show wantU (List.replicate n .K) + 1 = n + 1; rw [ih]
  | drop n =>
    show wantU (List.replicate n .D) = n
    induction n with
    | zero => rfl
    | succ n ih => rw [List.replicate_succ]; show wantU (List.replicate n .D) + 1 = n + 1; rw [ih]
  | put s =>
    show wantU (s.map .P) = 0
    induction s with
    | nil => rfl
    | cons x s ih => exact ih
theorem wanted_us (c : Ch) : wanted c = wantU (us c) := by
  induction c with
  | nil => rfl
  | cons p c ih =>
    show p.want + wanted c = wantU (p.us ++ us c)
    rw [wantU_append, wantU_pt, ih]
/-! ### change_by, sign by sign -/
def uItems (m : Nat) : Nat → List Itm → List U
  | _, [] => []
  | past, .txt s :: r => s.map .P ++ uItems m past r
  | past, .num i :: r => List.replicate (i - past) .D ++ ((if i < m then [U.K] else []) ++ uItems m (i + 1) r)
theorem cb_us (m : Nat) : ∀ (items : List Itm) (st : CB), us (cbRun m st items).parts ++ (cbRun m st items).come.map U.P = us st.parts ++ (st.come.map U.P ++ uItems m st.past items)
  | [], st => by
    show us st.parts ++ st.come.map U.P = us st.parts ++ (st.come.map U.P ++ [])
    rw [List.append_nil]
  | .txt s :: r, st => by
    have h := cb_us m r (cbStep m st (.txt s))
    show us (cbRun m (cbStep m st (.txt s)) r).parts ++ (cbRun m (cbStep m st (.txt s)) r).come.map U.P = _
    rw [h]
    show us st.parts ++ ((st.come ++ s).map U.P ++ uItems m st.past r) = us st.parts ++ (st.come.map U.P ++ (s.map U.P ++ uItems m st.past r))
    rw [List.map_append, List.append_assoc]
  | .num i :: r, st => by
    have h := cb_us m r (cbStep m st (.num i))
    show us (cbRun m (cbStep m st (.num i)) r).parts ++ (cbRun m (cbStep m st (.num i)) r).come.map U.P = _
    rw [h]
    show us (grow (grow (grow st.parts (.put st.come)) (.drop (i - st.past))) (.keep (if i < m then 1 else 0))) ++ ([] ++ uItems m (i + 1) r) = us st.parts ++ (st.come.map U.P ++ (List.replicate (i - st.past) .D ++ ((if i < m then [U.K] else []) ++ uItems m (i + 1) r)))
    rw [us_grow, us_grow, us_grow]
    have e : (Pt.keep (if i < m then 1 else 0)).us = if i < m then [U.K] else [] := by split <;> rfl
    rw [e]
    show us st.parts ++ st.come.map U.P ++ List.replicate (i - st.past) .D ++ (if i < m then [U.K] else []) ++ ([] ++ uItems m (i + 1) r) = _
    simp only [List.append_assoc, List.nil_append]
theorem cb_come (m : Nat) (st : CB) (items : List Itm) : (cbRun m st (items ++ [Itm.num m])).come = [] := by
  rw [cbRun_snoc]
  rfl
theorem us_changeBy (m : Nat) (items : List Itm) : us (changeBy m items) = uItems m 0 (items ++ [Itm.num m]) := by
  have h := cb_us m (items ++ [Itm.num m]) ⟨[], [], 0⟩
  rw [cb_come] at h
  have h : us (changeBy m items) ++ [] = uItems m 0 (items ++ [Itm.num m]) := h
  rw [List.append_nil] at h
  exact h
theorem want_items (m : Nat) : ∀ (items : List Itm) (past : Nat), asc past m items → wantU (uItems m past (items ++ [Itm.num m])) = m - past
  | [], past, h => by
    show wantU (List.replicate (m - past) .D ++ ((if m < m then [U.K] else []) ++ [])) = m - past
    rw [if_neg (Nat.lt_irrefl _), List.append_nil, List.append_nil]
    exact wantU_pt (.drop (m - past))
  | .txt s :: r, past, h => by
    show wantU (s.map .P ++ uItems m past (r ++ [Itm.num m])) = m - past
    rw [wantU_append, want_items m r past h]
    have := wantU_pt (.put s)
    show wantU (Pt.put s).us + _ = _
    rw [this]
    exact Nat.zero_add _
  | .num i :: r, past, h => by
    have h1 : past ≤ i := h.1
    have h2 : i < m := h.2.1
    show wantU (List.replicate (i - past) .D ++ ((if i < m then [U.K] else []) ++ uItems m (i + 1) (r ++ [Itm.num m]))) = m - past
    rw [wantU_append, wantU_append, want_items m r (i + 1) h.2.2, if_pos h2]
    have := wantU_pt (.drop (i - past))
    show wantU (Pt.drop (i - past)).us + (1 + _) = _
    rw [this]
    show (i - past) + (1 + (m - (i + 1))) = m - past
    omega
theorem wanted_changeBy {m : Nat} {items : List Itm} (h : asc 0 m items) : wanted (changeBy m items) = m := by
  rw [wanted_us, us_changeBy, want_items m items 0 h, Nat.sub_zero]
/-- the items' text over a text -/
def Itm.on (t : List Nat) : Itm → List Nat
  | .num i => t[i]?.toList
  | .txt s => s
def onAll (t : List Nat) (items : List Itm) : List Nat := items.flatMap (Itm.on t)
theorem run_items (t : List Nat) : ∀ (items : List Itm) (past : Nat), asc past t.length items → runU (uItems t.length past (items ++ [Itm.num t.length])) (t.drop past) = onAll t items
  | [], past, h => by
    show runU (List.replicate (t.length - past) .D ++ ((if t.length < t.length then [U.K] else []) ++ [])) (t.drop past) = []
    rw [runU_D, if_neg (Nat.lt_irrefl _)]
    rfl
  | .txt s :: r, past, h => by
    show runU (s.map .P ++ uItems t.length past (r ++ [Itm.num t.length])) (t.drop past) = s ++ onAll t r
    rw [runU_P, run_items t r past h]
  | .num i :: r, past, h => by
    have h1 : past ≤ i := h.1
    have h2 : i < t.length := h.2.1
    show runU (List.replicate (i - past) .D ++ ((if i < t.length then [U.K] else []) ++ uItems t.length (i + 1) (r ++ [Itm.num t.length]))) (t.drop past) = t[i]?.toList ++ onAll t r
    rw [runU_D, if_pos h2, List.drop_drop, show past + (i - past) = i by omega, List.drop_eq_getElem_cons h2]
    show t[i] :: runU (uItems t.length (i + 1) (r ++ [Itm.num t.length])) (t.drop (i + 1)) = _
    rw [run_items t r (i + 1) h.2.2, List.getElem?_eq_getElem h2]
    rfl
theorem run_changeBy {t : List Nat} {items : List Itm} (h : asc 0 t.length items) : runC (changeBy t.length items) t = onAll t items := by
  rw [run_us, us_changeBy]
  exact run_items t items 0 h
/-! ### change_by makes good changes -/
def lastKeep (c : Ch) : Prop := ∀ q, c.getLast? = some q → q.isKeep = true
theorem adj_snoc {c : Ch} {q : Pt} : adj (c ++ [q]) = true ↔ adj c = true ∧ ∀ l, c.getLast? = some l → okAdj l q = true := by
  induction c with
  | nil => simp [adj]
  | cons x c ih =>
    cases c with
    | nil => simp [adj]
    | cons y r =>
      have e : adj (x :: y :: r ++ [q]) = (okAdj x y && adj (y :: r ++ [q])) := rfl
      have e2 : adj (x :: y :: r) = (okAdj x y && adj (y :: r)) := rfl
      rw [e, e2, Bool.and_eq_true, Bool.and_eq_true, ih, List.getLast?_cons_cons, and_assoc]
theorem plus_word {p q : Pt} (h : p.same q = true) : (p.plus q).w = p.w ∧ (p.plus q).isDrop = p.isDrop ∧ (p.plus q).isPut = p.isPut ∧ (p.plus q).isKeep = p.isKeep := by
  rcases same_or h with ⟨a, b, rfl, rfl⟩ | ⟨a, b, rfl, rfl⟩ | ⟨a, b, rfl, rfl⟩ <;> exact ⟨rfl, rfl, rfl, rfl⟩
theorem plus_size {p q : Pt} (h : p.same q = true) : (p.plus q).size = p.size + q.size := by
  rcases same_or h with ⟨a, b, rfl, rfl⟩ | ⟨a, b, rfl, rfl⟩ | ⟨a, b, rfl, rfl⟩
  · rfl
  · rfl
  · exact List.length_append
theorem grow_good {c : Ch} {p : Pt} (h : Good c) (hp : ∀ q, c.getLast? = some q → (q.isDrop && p.isPut) = false) : Good (grow c p) := by
  rcases List.eq_nil_or_concat c with rfl | ⟨c0, q, rfl⟩
  · rw [grow_nil]
    split
    · exact h
    · rename_i hz
      refine ⟨fun x hx => ?_, rfl⟩
      rw [List.mem_singleton.mp hx]
      omega
  · rw [List.concat_eq_append] at h hp ⊢
    rw [grow_snoc]
    have hq := hp q (by simp)
    have h0 := h.1 q (List.mem_append_right _ (List.mem_singleton.mpr rfl))
    split
    · rename_i hs
      obtain ⟨w1, w2, w3, _⟩ := plus_word hs
      refine ⟨fun x hx => ?_, ?_⟩
      · rcases List.mem_append.mp hx with hx | hx
        · exact h.1 x (List.mem_append_left _ hx)
        · rw [List.mem_singleton.mp hx, plus_size hs]
          omega
      · obtain ⟨a1, a2⟩ := adj_snoc.mp h.2
        refine adj_snoc.mpr ⟨a1, fun l hl => ?_⟩
        have := a2 l hl
        unfold okAdj Pt.same at this ⊢
        rw [w1, w3]
        exact this
    · split
      · exact h
      · rename_i hs hz
        refine ⟨fun x hx => ?_, ?_⟩
        · rcases List.mem_append.mp hx with hx | hx
          · exact h.1 x hx
          · rw [List.mem_singleton.mp hx]
            omega
        · refine adj_snoc.mpr ⟨h.2, fun l hl => ?_⟩
          rw [List.getLast?_concat] at hl
          cases hl
          unfold okAdj
          rw [hq]
          cases z : q.same p with
          | false => rfl
          | true => exact absurd z hs
theorem grow_last (c : Ch) (p : Pt) : ∀ q, (grow c p).getLast? = some q → (q.isDrop = true → p.isDrop = true ∨ ∃ l, c.getLast? = some l ∧ l.isDrop = true) ∧ (q.isKeep = true ∨ (p.isKeep = false ∨ p.size = 0)) := by
  rcases List.eq_nil_or_concat c with rfl | ⟨c0, l, rfl⟩
  · rw [grow_nil]
    intro q hq
    split at hq
    · cases hq
    · rename_i hz
      cases hq
      refine ⟨fun h => .inl h, ?_⟩
      show p.isKeep = true ∨ _
      cases z : p.isKeep with
      | true => exact .inl rfl
      | false => exact .inr (.inl rfl)
  · rw [List.concat_eq_append, grow_snoc]
    intro q hq
    split at hq
    · rename_i hs
      rw [List.getLast?_concat] at hq
      cases hq
      obtain ⟨w1, w2, w3, w4⟩ := plus_word hs
      refine ⟨fun h => .inr ⟨l, by simp, by rw [← w2]; exact h⟩, ?_⟩
      rcases same_or hs with ⟨a, b, rfl, rfl⟩ | ⟨a, b, rfl, rfl⟩ | ⟨a, b, rfl, rfl⟩
      · exact .inl rfl
      · exact .inr (.inl rfl)
      · exact .inr (.inl rfl)
    · split at hq
      · rename_i hz
        rw [List.getLast?_concat] at hq
        cases hq
        exact ⟨fun h => .inr ⟨l, by simp, h⟩, .inr (.inr hz)⟩
      · rw [List.getLast?_concat] at hq
        cases hq
        refine ⟨fun h => .inl h, ?_⟩
        cases z : p.isKeep with
        | true => exact .inl rfl
        | false => exact .inr (.inl rfl)
theorem step_good {m i : Nat} {st : CB} (h : Good st.parts) (hk : lastKeep st.parts) : Good (cbStep m st (.num i)).parts ∧ (i < m → lastKeep (cbStep m st (.num i)).parts) := by
  have g1 : Good (grow st.parts (.put st.come)) := grow_good h fun q hq => by
    have := hk q hq
    cases q <;> first | rfl | cases this
  have g2 : Good (grow (grow st.parts (.put st.come)) (.drop (i - st.past))) := grow_good g1 fun q hq => Bool.and_false _
  have g3 : Good (grow (grow (grow st.parts (.put st.come)) (.drop (i - st.past))) (.keep (if i < m then 1 else 0))) := grow_good g2 fun q hq => Bool.and_false _
  refine ⟨g3, fun hlt q hq => ?_⟩
  rcases (grow_last _ _ q hq).2 with h | h | h
  · exact h
  · cases h
  · rw [if_pos hlt] at h
    cases h
theorem good_loop (m : Nat) : ∀ (items : List Itm) (past : Nat) (st : CB), asc past m items → Good st.parts → lastKeep st.parts → Good (cbRun m st (items ++ [Itm.num m])).parts
  | [], past, st, _, h, hk => (step_good h hk).1
  | .txt s :: r, past, st, ha, h, hk => good_loop m r past (cbStep m st (.txt s)) ha h hk
  | .num i :: r, past, st, ha, h, hk => good_loop m r (i + 1) (cbStep m st (.num i)) ha.2.2 (step_good h hk).1 ((step_good h hk).2 ha.2.1)
theorem good_changeBy {m : Nat} {items : List Itm} (h : asc 0 m items) : Good (changeBy m items) :=
  good_loop m items 0 ⟨[], [], 0⟩ h ⟨fun _ z => (List.not_mem_nil z).elim, rfl⟩ fun q z => by cases z
theorem sizes_changeBy {m : Nat} {items : List Itm} (h : OkItems m items) : ((changeBy m items).map Pt.size).sum ≤ m + 1 + txts items ∧ okC (changeBy m items) := by
  have key : ∀ i, i ≤ (items ++ [Itm.num m]).length → ∃ st, Loop m items i st := fun i => by
    induction i with
    | zero => exact fun _ => ⟨_, loop0 h⟩
    | succ i ih =>
      intro hi
      obtain ⟨st, L⟩ := ih (Nat.le_of_succ_le hi)
      have hlt : i < (items ++ [Itm.num m]).length := hi
      cases e : (items ++ [Itm.num m])[i]? with
      | none => rw [List.getElem?_eq_none_iff] at e; omega
      | some it =>
        cases it with
        | txt s => exact ⟨_, loop_txt h L e⟩
        | num k => exact ⟨_, loop_num h L e⟩
  obtain ⟨st, l1, l2, l3, l4, l5, _⟩ := key _ (Nat.le_refl _)
  rw [List.take_length] at l1 l3
  have e : changeBy m items = st.parts := by rw [l1]; rfl
  rw [e]
  refine ⟨?_, l5⟩
  rw [txts_append] at l3
  have : txts [Itm.num m] = 0 := rfl
  omega
end K78
set_option Elab.async false
set_option linter.all false
set_option maxRecDepth 100000
set_option maxHeartbeats 1000000
namespace K78
open PySem PySem.Spec PyProof.Rows L2 SX
/-! ### a change by places -/
theorem keys_ge (c : Ch) (k : Nat) : ∀ q ∈ putsGo k c, k ≤ q.1 := by
  induction c generalizing k with
  | nil => exact fun q h => (List.not_mem_nil h).elim
  | cons p c ih =>
    cases p with
    | keep n => exact fun q h => Nat.le_trans (Nat.le_add_right _ _) (ih (k + n) q h)
    | drop n => exact fun q h => Nat.le_trans (Nat.le_add_right _ _) (ih (k + n) q h)
    | put s =>
      intro q h
      rcases List.mem_cons.mp h with rfl | h
      · exact Nat.le_refl _
      · exact ih k q h
theorem keys_le (c : Ch) (k : Nat) : ∀ q ∈ putsGo k c, q.1 ≤ k + wanted c := by
  induction c generalizing k with
  | nil => exact fun q h => (List.not_mem_nil h).elim
  | cons p c ih =>
    cases p with
    | keep n =>
      intro q h
      have := ih (k + n) q h
      show q.1 ≤ k + (n + wanted c)
      omega
    | drop n =>
      intro q h
      have := ih (k + n) q h
      show q.1 ≤ k + (n + wanted c)
      omega
    | put s =>
      intro q h
      show q.1 ≤ k + (0 + wanted c)
      rcases List.mem_cons.mp h with rfl | h
      · exact Nat.le_add_right _ _
      · have := ih k q h; omega
theorem putAt_none {ps : List (Nat × List Nat)} {k : Nat} (h : ∀ q ∈ ps, q.1 ≠ k) : putAt ps k = none := by
  unfold putAt
  have e : (ps.find? fun q => decide (q.1 = k)) = none := List.find?_eq_none.mpr fun q hq => by
    rw [decide_eq_false (h q hq)]
    exact Bool.false_ne_true
  rw [e]
  rfl
def plc (k : Nat) (c : Ch) (t : List Nat) (i : Nat) : List Nat := (putAt (putsGo k c) (k + i)).getD [] ++ (if (stays c)[i]? = some true then t[i]?.toList else [])
def wv (k : Nat) (c : Ch) (t : List Nat) : List Nat := (List.range (wanted c + 1)).flatMap (plc k c t)
theorem range_split (a b : Nat) (f : Nat → List Nat) : (List.range (a + b)).flatMap f = (List.range a).flatMap f ++ (List.range b).flatMap fun j => f (a + j) := by
  rw [List.range_add, List.flatMap_append, List.flatMap_map]
theorem flat_take (t : List Nat) : ∀ n, n ≤ t.length → (List.range n).flatMap (fun i => t[i]?.toList) = t.take n
  | 0, _ => rfl
  | n + 1, h => by
    rw [List.range_succ, List.flatMap_append, flat_take t n (Nat.le_of_succ_le h), List.take_succ]
    simp
theorem flat_none (n : Nat) (f : Nat → List Nat) (h : ∀ i, i < n → f i = []) : (List.range n).flatMap f = [] := by
  rw [List.flatMap_eq_nil_iff]
  exact fun i hi => h i (List.mem_range.mp hi)
theorem flat_congr (n : Nat) {f g : Nat → List Nat} (h : ∀ i, i < n → f i = g i) : (List.range n).flatMap f = (List.range n).flatMap g := by
  rw [List.flatMap_def, List.flatMap_def]
  congr 1
  exact List.map_congr_left fun i hi => h i (List.mem_range.mp hi)
theorem good_tail {p : Pt} {c : Ch} (h : Good (p :: c)) : Good c := by
  refine ⟨fun q hq => h.1 q (List.mem_cons_of_mem _ hq), ?_⟩
  cases c with
  | nil => rfl
  | cons q r => exact (Bool.and_eq_true_iff.mp h.2).2
/-- behind a put nothing is put at once -/
theorem no_key {s : List Nat} {c : Ch} (h : Good (.put s :: c)) (k : Nat) : ∀ q ∈ putsGo k c, q.1 ≠ k := by
  cases c with
  | nil => exact fun q hq => (List.not_mem_nil hq).elim
  | cons p r =>
    have a : okAdj (.put s) p = true := (Bool.and_eq_true_iff.mp h.2).1
    have z := h.1 p (List.mem_cons_of_mem _ List.mem_cons_self)
    cases p with
    | keep n =>
      intro q hq
      have := keys_ge r (k + n) q hq
      have z : 0 < n := z
      omega
    | drop n =>
      intro q hq
      have := keys_ge r (k + n) q hq
      have z : 0 < n := z
      omega
    | put s2 => cases a
theorem wv_run : ∀ (c : Ch) (k : Nat) (t : List Nat), Good c → t.length = wanted c → wv k c t = runC c t
  | [], k, t, _, _ => rfl
  | .keep n :: r, k, t, h, hl => by
    have hl : t.length = n + wanted r := hl
    have ih := wv_run r (k + n) (t.drop n) (good_tail h) (by rw [List.length_drop]; omega)
    show (List.range (n + wanted r + 1)).flatMap (plc k (.keep n :: r) t) = t.take n ++ runC r (t.drop n)
    rw [← ih, Nat.add_assoc, range_split]
    congr 1
    · rw [← flat_take t n (by omega)]
      refine flat_congr n fun i hi => ?_
      unfold plc
      have e1 : putAt (putsGo k (.keep n :: r)) (k + i) = none := putAt_none fun q hq => by
        have := keys_ge r (k + n) q hq
        omega
      have e2 : (stays (.keep n :: r))[i]? = some true := by
        show (List.replicate n true ++ stays r)[i]? = some true
        rw [List.getElem?_append_left (by rw [List.length_replicate]; exact hi), List.getElem?_replicate, if_pos hi]
      rw [e1, e2, if_pos rfl]
      rfl
    · refine flat_congr _ fun i hi => ?_
      unfold plc
      have e1 : putAt (putsGo k (.keep n :: r)) (k + (n + i)) = putAt (putsGo (k + n) r) (k + n + i) := by rw [Nat.add_assoc]; rfl
      have e2 : (stays (.keep n :: r))[n + i]? = (stays r)[i]? := by
        show (List.replicate n true ++ stays r)[n + i]? = _
        rw [List.getElem?_append_right (by rw [List.length_replicate]; omega), List.length_replicate, Nat.add_sub_cancel_left]
      rw [e1, e2, List.getElem?_drop]
  | .drop n :: r, k, t, h, hl => by
    have hl : t.length = n + wanted r := hl
    have ih := wv_run r (k + n) (t.drop n) (good_tail h) (by rw [List.length_drop]; omega)
    show (List.range (n + wanted r + 1)).flatMap (plc k (.drop n :: r) t) = runC r (t.drop n)
    rw [← ih, Nat.add_assoc, range_split]
    have z : (List.range n).flatMap (plc k (.drop n :: r) t) = [] := flat_none n _ fun i hi => by
      unfold plc
      have e1 : putAt (putsGo k (.drop n :: r)) (k + i) = none := putAt_none fun q hq => by
        have := keys_ge r (k + n) q hq
        omega
      have e2 : (stays (.drop n :: r))[i]? = some false := by
        show (List.replicate n false ++ stays r)[i]? = some false
        rw [List.getElem?_append_left (by rw [List.length_replicate]; exact hi), List.getElem?_replicate, if_pos hi]
      rw [e1, e2, if_neg (by intro z; cases z)]
      rfl
    rw [z, List.nil_append]
    refine flat_congr _ fun i hi => ?_
    unfold plc
    have e1 : putAt (putsGo k (.drop n :: r)) (k + (n + i)) = putAt (putsGo (k + n) r) (k + n + i) := by rw [Nat.add_assoc]; rfl
    have e2 : (stays (.drop n :: r))[n + i]? = (stays r)[i]? := by
      show (List.replicate n false ++ stays r)[n + i]? = _
      rw [List.getElem?_append_right (by rw [List.length_replicate]; omega), List.length_replicate, Nat.add_sub_cancel_left]
    rw [e1, e2, List.getElem?_drop]
  | .put s :: r, k, t, h, hl => by
    have hl : t.length = wanted r := hl.trans (Nat.zero_add _)
    have ih := wv_run r k t (good_tail h) hl
    have ew : wanted (.put s :: r) = wanted r := Nat.zero_add _
    show (List.range (wanted (.put s :: r) + 1)).flatMap (plc k (.put s :: r) t) = s ++ runC r t
    rw [← ih, ew]
    unfold wv
    rw [show wanted r + 1 = 1 + wanted r from Nat.add_comm _ _, range_split, range_split]
    have z0 : (List.range 1).flatMap (plc k (.put s :: r) t) = s ++ (List.range 1).flatMap (plc k r t) := by
      show plc k (.put s :: r) t 0 ++ [] = s ++ (plc k r t 0 ++ [])
      rw [List.append_nil, List.append_nil]
      unfold plc
      have e1 : putAt (putsGo k (.put s :: r)) (k + 0) = some s := by
        show (((k, s) :: putsGo k r).find? fun q => decide (q.1 = k + 0)).map (·.2) = some s
        rw [List.find?_cons, decide_eq_true (show k = k + 0 from rfl)]
        rfl
      have e2 : putAt (putsGo k r) (k + 0) = none := putAt_none (no_key h k)
      rw [e1, e2]
      rfl
    rw [z0, List.append_assoc]
    congr 2
    refine flat_congr _ fun i hi => ?_
    unfold plc
    have e1 : putAt (putsGo k (.put s :: r)) (k + (1 + i)) = putAt (putsGo k r) (k + (1 + i)) := by
      show (((k, s) :: putsGo k r).find? fun q => decide (q.1 = k + (1 + i))).map (·.2) = _
      rw [List.find?_cons, decide_eq_false (show ¬ k = k + (1 + i) by omega)]
      rfl
    rw [e1]
    rfl
/-- the text at a place -/
def plT (c : Ch) (t : List Nat) (i : Nat) : List Nat := putT c i ++ (if (stays c)[i]? = some true then t[i]?.toList else [])
theorem run_places {c : Ch} {t : List Nat} (h : Good c) (hl : t.length = wanted c) : runC c t = (List.range (wanted c + 1)).flatMap (plT c t) := by
  rw [← wv_run c 0 t h hl]
  refine flat_congr _ fun i _ => ?_
  unfold plc plT putT
  rw [Nat.zero_add]
theorem fr_of {c : Ch} (h : Good c) : Fr c := by
  intro i s hi q hq
  cases i with
  | zero => exact (List.not_mem_nil hq).elim
  | succ i =>
    have hlt := (List.getElem?_eq_some_iff.mp hi).1
    obtain ⟨p, hp⟩ : ∃ p, c[i]? = some p := ⟨_, List.getElem?_eq_getElem (by omega)⟩
    have ad := adj_at h.2 hp hi
    have hz := h.1 p (List.mem_of_getElem? hp)
    have e := tk c i hp
    rw [e] at hq ⊢
    rw [wanted_snoc]
    have hq : q ∈ putsGo 0 (c.take i ++ [p]) := hq
    rw [putsGo_snoc] at hq
    cases p with
    | keep n =>
      have hq : q ∈ putsGo 0 (c.take i) ++ [] := hq
      rw [List.append_nil] at hq
      have := keys_le (c.take i) 0 q hq
      have hz : 0 < n := hz
      show q.1 < wanted (c.take i) + n
      omega
    | drop n => cases ad
    | put s => cases ad
theorem len_of {c : Ch} (h : ∀ p ∈ c, 0 < p.size) : c.length ≤ (c.map Pt.size).sum := by
  induction c with
  | nil => exact Nat.le_refl _
  | cons p c ih =>
    have h1 := h p List.mem_cons_self
    have h2 := ih fun q hq => h q (List.mem_cons_of_mem _ hq)
    show c.length + 1 ≤ p.size + (c.map Pt.size).sum
    omega
theorem run_len : ∀ (c : Ch) (t : List Nat), t.length = wanted c → (runC c t).length = makes c
  | [], t, _ => rfl
  | .keep n :: r, t, h => by
    have h : t.length = n + wanted r := h
    show (t.take n ++ runC r (t.drop n)).length = n + makes r
    rw [List.length_append, run_len r (t.drop n) (by rw [List.length_drop]; omega), List.length_take]
    omega
  | .drop n :: r, t, h => by
    have h : t.length = n + wanted r := h
    show (runC r (t.drop n)).length = 0 + makes r
    rw [run_len r (t.drop n) (by rw [List.length_drop]; omega)]
    omega
  | .put s :: r, t, h => by
    have h : t.length = 0 + wanted r := h
    show (s ++ runC r t).length = s.length + makes r
    rw [List.length_append, run_len r t (by omega)]
theorem plT_len {c : Ch} {t : List Nat} (hl : t.length = wanted c) (i : Nat) : ((List.range i).flatMap (plT c t)).length = manyAt c i := by
  induction i with
  | zero => rfl
  | succ i ih =>
    rw [List.range_succ, List.flatMap_append, List.length_append, ih, List.flatMap_cons, List.flatMap_nil, List.append_nil]
    unfold plT
    rw [List.length_append]
    show _ = manyAt c i + (putT c i).length + (if (stays c)[i]? = some true then 1 else 0)
    have e : (if (stays c)[i]? = some true then t[i]?.toList else []).length = (if (stays c)[i]? = some true then 1 else 0) := by
      split
      · rename_i h
        have hi : i < t.length := by rw [hl, ← stays_len]; exact (List.getElem?_eq_some_iff.mp h).1
        rw [List.getElem?_eq_getElem hi]
        rfl
      · rfl
    rw [e]
    omega
theorem many_makes {c : Ch} (h : Good c) : manyAt c (wanted c + 1) = makes c := by
  have hl : (List.replicate (wanted c) 0).length = wanted c := List.length_replicate
  rw [← plT_len hl, ← run_places h hl]
  exact run_len c _ hl
/-! ### rising items -/
theorem asc_le : ∀ {p m : Nat} {l : List Itm}, asc p m l → p ≤ m
  | p, m, [], h => h
  | p, m, .num i :: r, h => Nat.le_trans h.1 (Nat.le_of_lt h.2.1)
  | p, m, .txt s :: r, h => asc_le (l := r) h
theorem asc_mono : ∀ {p p' m : Nat} {l : List Itm}, p' ≤ p → asc p m l → asc p' m l
  | p, p', m, [], h, z => Nat.le_trans h z
  | p, p', m, .num i :: r, h, z => ⟨Nat.le_trans h z.1, z.2⟩
  | p, p', m, .txt s :: r, h, z => asc_mono (l := r) h z
theorem asc_cat : ∀ {p k m : Nat} {a b : List Itm}, asc p k a → asc k m b → asc p m (a ++ b)
  | p, k, m, [], b, h, z => asc_mono h z
  | p, k, m, .num i :: r, b, h, z => ⟨h.1, Nat.lt_of_lt_of_le h.2.1 (asc_le z), asc_cat (a := r) h.2.2 z⟩
  | p, k, m, .txt s :: r, b, h, z => asc_cat (a := r) h z
theorem asc_range {g : Nat → Nat} {f : Nat → List Itm} (h : ∀ i, asc (g i) (g (i + 1)) (f i)) (n : Nat) : asc (g 0) (g n) ((List.range n).flatMap f) := by
  induction n with
  | zero => exact Nat.le_refl _
  | succ n ih =>
    rw [List.range_succ, List.flatMap_append, List.flatMap_cons, List.flatMap_nil, List.append_nil]
    exact asc_cat ih (h n)
theorem asc_nums (a n : Nat) : asc a (a + n) (nums a n) := by
  induction n generalizing a with
  | zero => exact Nat.le_refl _
  | succ n ih =>
    have e : nums a (n + 1) = .num a :: nums (a + 1) n := by
      unfold nums
      rw [List.range_succ_eq_map, List.map_cons, List.map_map]
      congr 1
      refine List.map_congr_left fun i _ => ?_
      show Itm.num (a + (i + 1)) = Itm.num (a + 1 + i)
      congr 1
      omega
    rw [e]
    have := ih (a + 1)
    rw [show a + 1 + n = a + (n + 1) by omega] at this
    exact ⟨Nat.le_refl _, by omega, this⟩
theorem asc_txts {m : Nat} {l : List Itm} (h : ∀ x ∈ l, ∃ s, x = .txt s) : asc m m l := by
  induction l with
  | nil => exact Nat.le_refl _
  | cons x l ih =>
    obtain ⟨s, rfl⟩ := h x List.mem_cons_self
    exact ih fun y hy => h y (List.mem_cons_of_mem _ hy)
theorem on_append (t : List Nat) (a b : List Itm) : onAll t (a ++ b) = onAll t a ++ onAll t b := List.flatMap_append
theorem on_nums (t : List Nat) (a n : Nat) (h : a + n ≤ t.length) : onAll t (nums a n) = (t.drop a).take n := by
  unfold onAll nums
  rw [List.flatMap_map, ← flat_take (t.drop a) n (by rw [List.length_drop]; omega)]
  refine flat_congr n fun i _ => ?_
  rw [List.getElem?_drop]
  rfl
theorem txts_nums (a n : Nat) : txts (nums a n) = 0 := by
  unfold nums
  induction List.range n with
  | nil => rfl
  | cons x l ih => exact ih
theorem txts_flat (n : Nat) (f : Nat → List Itm) : txts ((List.range n).flatMap f) = ((List.range n).map fun i => txts (f i)).sum := by
  induction n with
  | zero => rfl
  | succ n ih => rw [List.range_succ, List.flatMap_append, txts_append, ih, List.map_append, List.sum_append]; simp
end K78
set_option Elab.async false
set_option linter.all false
set_option maxRecDepth 100000
set_option maxHeartbeats 1000000
namespace K78
open PySem PySem.Spec PyProof.Rows L2 SX
/-- a good change whose signs are plain and few -/
structure Cn (c : Ch) : Prop where
  good : Good c
  ok : okC c
  few : (c.map Pt.size).sum ≤ 900
theorem Cn.sm {c : Ch} (h : Cn c) : Sm c := ⟨Nat.le_trans (len_of h.good.1) (Nat.le_trans h.few (by decide)), Nat.le_trans h.few (by decide), fun s hs => h.ok _ hs s rfl⟩
theorem Cn.fr {c : Ch} (h : Cn c) : Fr c := fr_of h.good
theorem mem_putT {c : Ch} (h : okC c) (i : Nat) : ∀ n ∈ putT c i, n < 128 := by
  have key : ∀ (c : Ch) (k : Nat), okC c → ∀ q ∈ putsGo k c, ∀ n ∈ q.2, n < 128 := fun c => by
    induction c with
    | nil => exact fun k _ q hq => (List.not_mem_nil hq).elim
    | cons p c ih =>
      intro k ho
      have ho' : okC c := fun q hq => ho q (List.mem_cons_of_mem _ hq)
      cases p with
      | keep n => exact ih _ ho'
      | drop n => exact ih _ ho'
      | put s =>
        intro q hq
        rcases List.mem_cons.mp hq with rfl | hq
        · exact ho _ List.mem_cons_self s rfl
        · exact ih _ ho' q hq
  intro n hn
  unfold putT putAt at hn
  cases e : (putsOf c).find? fun q => decide (q.1 = i) with
  | none => rw [e] at hn; exact (List.not_mem_nil hn).elim
  | some q =>
    rw [e] at hn
    exact key c 0 h q (List.mem_of_find?_eq_some e) n hn
/-! ### led -/
theorem own_txt (c : Ch) (i : Nat) : ∀ x ∈ ownAt c i, ∃ s, x = .txt s := by
  unfold ownAt
  split
  · exact fun x hx => ⟨_, List.mem_singleton.mp hx⟩
  · exact fun x hx => (List.not_mem_nil hx).elim
theorem on_own (c : Ch) (i : Nat) (t : List Nat) : onAll t (ownAt c i) = putT c i := by
  unfold ownAt putT
  cases putAt (putsOf c) i with
  | none => rfl
  | some s => exact List.append_nil s
theorem txts_own (c : Ch) (i : Nat) : txts (ownAt c i) = (putT c i).length := by
  unfold ownAt putT
  cases putAt (putsOf c) i with
  | none => rfl
  | some s => rfl
theorem asc_led (ah : Bool) (c1 c2 : Ch) (i : Nat) : asc (manyAt c2 i) (manyAt c2 (i + 1)) (ledAt ah c1 c2 i) := by
  have h1 : asc (manyAt c2 i) (manyAt c2 i + (putT c2 i).length) (if ah = true then ownAt c1 i ++ nums (manyAt c2 i) (putT c2 i).length else nums (manyAt c2 i) (putT c2 i).length ++ ownAt c1 i) := by
    split
    · exact asc_cat (asc_txts (own_txt c1 i)) (asc_nums _ _)
    · exact asc_cat (asc_nums _ _) (asc_txts (own_txt c1 i))
  refine asc_cat h1 ?_
  have e : manyAt c2 (i + 1) = manyAt c2 i + (putT c2 i).length + (if (stays c2)[i]? = some true then 1 else 0) := rfl
  rw [e]
  by_cases a : (stays c2)[i]? = some true ∧ (stays c1)[i]? = some true
  · rw [if_pos a, if_pos a.1]
    exact ⟨Nat.le_refl _, by omega, Nat.le_refl _⟩
  · rw [if_neg a]
    show manyAt c2 i + (putT c2 i).length ≤ _
    omega
theorem led_asc (ah : Bool) (c1 c2 : Ch) : asc 0 (manyAt c2 (wanted c1 + 1)) (ledI ah c1 c2) := asc_range (g := manyAt c2) (asc_led ah c1 c2) _
theorem many_put (c : Ch) (n : Nat) : ((List.range n).map fun i => (putT c i).length).sum ≤ manyAt c n := by
  induction n with
  | zero => exact Nat.le_refl _
  | succ n ih =>
    rw [List.range_succ, List.map_append, List.sum_append]
    have e : manyAt c (n + 1) = manyAt c n + (putT c n).length + (if (stays c)[n]? = some true then 1 else 0) := rfl
    rw [e]
    simp only [List.map_cons, List.map_nil, List.sum_cons, List.sum_nil]
    omega
theorem led_txts (ah : Bool) (c1 c2 : Ch) : txts (ledI ah c1 c2) = ((List.range (wanted c1 + 1)).map fun i => (putT c1 i).length).sum := by
  unfold ledI
  rw [txts_flat]
  congr 1
  refine List.map_congr_left fun i _ => ?_
  unfold ledAt
  rw [txts_append]
  have e2 : txts (if (stays c2)[i]? = some true ∧ (stays c1)[i]? = some true then [Itm.num (manyAt c2 i + (putT c2 i).length)] else []) = 0 := by split <;> rfl
  rw [e2]
  split
  · rw [txts_append, txts_nums, txts_own, Nat.add_zero]; try rfl
  · rw [txts_append, txts_nums, txts_own]; omega
theorem led_count (ah : Bool) (c1 c2 : Ch) (n : Nat) : ((List.range n).flatMap (ledAt ah c1 c2)).length ≤ manyAt c2 n + n := by
  induction n with
  | zero => exact Nat.le_refl _
  | succ n ih =>
    rw [List.range_succ, List.flatMap_append, List.length_append, List.flatMap_cons, List.flatMap_nil, List.append_nil]
    have e : manyAt c2 (n + 1) = manyAt c2 n + (putT c2 n).length + (if (stays c2)[n]? = some true then 1 else 0) := rfl
    rw [e]
    have ho : (ownAt c1 n).length ≤ 1 := by unfold ownAt; split <;> simp
    have hn : (nums (manyAt c2 n) (putT c2 n).length).length = (putT c2 n).length := by unfold nums; rw [List.length_map, List.length_range]
    have hl : (if ah = true then ownAt c1 n ++ nums (manyAt c2 n) (putT c2 n).length else nums (manyAt c2 n) (putT c2 n).length ++ ownAt c1 n).length ≤ 1 + (putT c2 n).length := by
      split <;> rw [List.length_append, hn] <;> omega
    have hx : (if (stays c2)[n]? = some true ∧ (stays c1)[n]? = some true then [Itm.num (manyAt c2 n + (putT c2 n).length)] else []).length ≤ (if (stays c2)[n]? = some true then 1 else 0) := by
      split
      · rename_i h; rw [if_pos h.1]; exact Nat.le_refl _
      · exact Nat.zero_le _
    have hA : (ledAt ah c1 c2 n).length ≤ 1 + (putT c2 n).length + (if (stays c2)[n]? = some true then 1 else 0) := by
      unfold ledAt
      rw [List.length_append]
      omega
    omega
/-- what both make of a text: at each place what the first puts ahead, then what the second puts; what both keep -/
def mrgAt (ah : Bool) (c1 c2 : Ch) (t : List Nat) (i : Nat) : List Nat := (if ah = true then putT c1 i ++ putT c2 i else putT c2 i ++ putT c1 i) ++ (if (stays c2)[i]? = some true ∧ (stays c1)[i]? = some true then t[i]?.toList else [])
def mrg (ah : Bool) (c1 c2 : Ch) (t : List Nat) : List Nat := (List.range (wanted c1 + 1)).flatMap (mrgAt ah c1 c2 t)
theorem mrg_swap {c1 c2 : Ch} (h : wanted c1 = wanted c2) (t : List Nat) : mrg true c1 c2 t = mrg false c2 c1 t := by
  unfold mrg
  rw [h]
  refine flat_congr _ fun i _ => ?_
  unfold mrgAt
  rw [if_pos rfl, if_neg Bool.false_ne_true]
  congr 1
  by_cases a : (stays c2)[i]? = some true ∧ (stays c1)[i]? = some true
  · rw [if_pos a, if_pos ⟨a.2, a.1⟩]
  · rw [if_neg a, if_neg fun z => a ⟨z.2, z.1⟩]
/-- the made text's part behind the places ahead -/
theorem part_at {c : Ch} {t : List Nat} (h : Good c) (hl : t.length = wanted c) {i : Nat} (hi : i < wanted c + 1) : ∃ rest, (runC c t).drop (manyAt c i) = putT c i ++ ((if (stays c)[i]? = some true then t[i]?.toList else []) ++ rest) := by
  obtain ⟨k, hk⟩ : ∃ k, wanted c + 1 = i + (1 + k) := ⟨wanted c - i, by omega⟩
  rw [run_places h hl, hk, range_split, range_split]
  have e := plT_len hl i
  rw [← e, List.drop_left]
  refine ⟨(List.range k).flatMap fun j => plT c t (i + (1 + j)), ?_⟩
  show plT c t (i + 0) ++ [] ++ _ = _
  rw [List.append_nil, Nat.add_zero]
  unfold plT
  rw [List.append_assoc]
theorem on_led {ah : Bool} {c1 c2 : Ch} {t : List Nat} (h : Good c2) (hl : t.length = wanted c2) (hw : wanted c1 = wanted c2) : onAll (runC c2 t) (ledI ah c1 c2) = mrg ah c1 c2 t := by
  have key : ∀ n, n ≤ wanted c2 + 1 → onAll (runC c2 t) ((List.range n).flatMap (ledAt ah c1 c2)) = (List.range n).flatMap (mrgAt ah c1 c2 t) := fun n => by
    induction n with
    | zero => exact fun _ => rfl
    | succ n ih =>
      intro hn
      rw [List.range_succ, List.flatMap_append, List.flatMap_append, on_append, ih (Nat.le_of_succ_le hn)]
      congr 1
      rw [List.flatMap_cons, List.flatMap_nil, List.append_nil, List.flatMap_cons, List.flatMap_nil, List.append_nil]
      obtain ⟨rest, hr⟩ := part_at h hl (i := n) (by omega)
      have hlen : manyAt c2 n + (putT c2 n).length ≤ (runC c2 t).length := by
        have z := congrArg List.length hr
        rw [List.length_drop, List.length_append] at z
        by_cases q : manyAt c2 n ≤ (runC c2 t).length
        · omega
        · have e := plT_len hl n
          rw [run_places h hl] at q
          have := plT_len hl (wanted c2 + 1)
          rw [this] at q
          exfalso
          apply q
          have mono : ∀ d, manyAt c2 n ≤ manyAt c2 (n + d) := fun d => by
            induction d with
            | zero => exact Nat.le_refl _
            | succ d ihd => exact Nat.le_trans ihd (by show _ ≤ manyAt c2 (n + d) + _ + _; omega)
          have := mono (wanted c2 + 1 - n)
          rw [show n + (wanted c2 + 1 - n) = wanted c2 + 1 by omega] at this
          exact this
      have e1 : onAll (runC c2 t) (nums (manyAt c2 n) (putT c2 n).length) = putT c2 n := by
        rw [on_nums _ _ _ hlen, hr]
        exact List.take_left
      unfold ledAt mrgAt
      rw [on_append]
      congr 1
      · split
        · rw [on_append, on_own, e1]
        · rw [on_append, on_own, e1]
      · by_cases a : (stays c2)[n]? = some true ∧ (stays c1)[n]? = some true
        · rw [if_pos a, if_pos a]
          show (runC c2 t)[manyAt c2 n + (putT c2 n).length]?.toList ++ [] = _
          rw [List.append_nil, ← List.getElem?_drop, hr, if_pos a.1, List.getElem?_append_right (Nat.le_refl _), Nat.sub_self]
          have hi : n < t.length := by rw [hl, ← stays_len]; exact (List.getElem?_eq_some_iff.mp a.1).1
          rw [List.getElem?_eq_getElem hi]
          rfl
        · rw [if_neg a, if_neg a]
          rfl
  unfold ledI mrg
  rw [hw]
  exact key _ (Nat.le_refl _)
theorem okItems_led {ah : Bool} {c1 c2 : Ch} (h1 : Cn c1) (h2 : Cn c2) (hw : wanted c1 = wanted c2) : OkItems (manyAt c2 (wanted c1 + 1)) (ledI ah c1 c2) := by
  have m1 := many_makes h1.good
  have m2 := many_makes h2.good
  have b1 := makes_le c1
  have b2 := makes_le c2
  have b3 := wanted_le c1
  have f1 := h1.few
  have f2 := h2.few
  have t1 := many_put c1 (wanted c1 + 1)
  refine ⟨led_asc ah c1 c2, ?_, ?_, ?_⟩
  · rw [led_txts, hw, m2]
    rw [m1, hw] at t1
    omega
  · have := led_count ah c1 c2 (wanted c1 + 1)
    unfold ledI
    rw [hw] at this ⊢
    rw [m2] at this
    omega
  · intro s hs
    obtain ⟨i, _, hi⟩ := List.mem_flatMap.mp hs
    unfold ledAt at hi
    have hown : ∀ s, Itm.txt s ∈ ownAt c1 i → ∀ n ∈ s, n < 128 := fun s hs n hn => by
      have : n ∈ onAll [] (ownAt c1 i) := List.mem_flatMap.mpr ⟨_, hs, hn⟩
      rw [on_own] at this
      exact mem_putT h1.ok i n this
    have hnum : Itm.txt s ∉ nums (manyAt c2 i) (putT c2 i).length := fun z => by
      obtain ⟨j, _, hj⟩ := List.mem_map.mp z
      cases hj
    rcases List.mem_append.mp hi with hi | hi
    · split at hi
      · rcases List.mem_append.mp hi with hi | hi
        · exact hown s hi
        · exact absurd hi hnum
      · rcases List.mem_append.mp hi with hi | hi
        · exact absurd hi hnum
        · exact hown s hi
    · split at hi
      · cases List.mem_singleton.mp hi
      · exact (List.not_mem_nil hi).elim
structure LedOut (ah : Bool) (c1 c2 : Ch) (t : List Nat) : Prop where
  good : Good (ledC ah c1 c2)
  ok : okC (ledC ah c1 c2)
  size : ((ledC ah c1 c2).map Pt.size).sum ≤ makes c2 + makes c1 + 1
  want : wanted (ledC ah c1 c2) = makes c2
  run : runC (ledC ah c1 c2) (runC c2 t) = mrg ah c1 c2 t
theorem led_out {ah : Bool} {c1 c2 : Ch} {t : List Nat} (h1 : Cn c1) (h2 : Cn c2) (hw : wanted c1 = wanted c2) (hl : t.length = wanted c2) : LedOut ah c1 c2 t := by
  have ok := okItems_led (ah := ah) h1 h2 hw
  have m2 := many_makes h2.good
  have m1 := many_makes h1.good
  have t1 := many_put c1 (wanted c1 + 1)
  have sz := sizes_changeBy ok
  have rl := run_len c2 t hl
  refine ⟨good_changeBy ok.1, sz.2, ?_, ?_, ?_⟩
  · have z : ((changeBy (manyAt c2 (wanted c1 + 1)) (ledI ah c1 c2)).map Pt.size).sum ≤ _ := sz.1
    rw [led_txts, hw, m2] at z
    rw [m1, hw] at t1
    show ((changeBy (manyAt c2 (wanted c1 + 1)) (ledI ah c1 c2)).map Pt.size).sum ≤ _
    rw [hw, m2]
    omega
  · show wanted (changeBy (manyAt c2 (wanted c1 + 1)) (ledI ah c1 c2)) = _
    rw [wanted_changeBy ok.1, hw, m2]
  · have a := ok.1
    show runC (changeBy (manyAt c2 (wanted c1 + 1)) (ledI ah c1 c2)) (runC c2 t) = _
    have e : manyAt c2 (wanted c1 + 1) = (runC c2 t).length := by rw [hw, m2, rl]
    rw [e] at a ⊢
    rw [run_changeBy a, on_led h2.good hl hw]
theorem okLed {ah : Bool} {c1 c2 : Ch} (h1 : Cn c1) (h2 : Cn c2) (hw : wanted c1 = wanted c2) : OkLed ah c1 c2 :=
  ⟨hw, Nat.le_trans (wanted_le c1) (Nat.le_trans h1.few (by decide)), okItems_led h1 h2 hw⟩
/-! ### behind -/
theorem on_made {c : Ch} {t : List Nat} (h : Good c) (hl : t.length = wanted c) : onAll t (made c) = runC c t := by
  rw [run_places h hl]
  unfold made onAll
  rw [List.flatMap_assoc]
  refine flat_congr _ fun i _ => ?_
  show (atPlace c i).flatMap (Itm.on t) = _
  unfold atPlace plT
  rw [List.flatMap_append]
  congr 1
  · generalize putT c i = s
    induction s with
    | nil => rfl
    | cons x s ih =>
      show [x] ++ (s.map fun n => Itm.txt [n]).flatMap (Itm.on t) = _
      rw [ih]
      rfl
  · split
    · exact List.append_nil _
    · rfl
theorem asc_made (c : Ch) : asc 0 (wanted c) (made c) := by
  have h1 : ∀ i, asc i (i + 1) (atPlace c i) := fun i => by
    unfold atPlace
    refine asc_cat (k := i) (asc_txts fun x hx => ?_) ?_
    · obtain ⟨n, _, rfl⟩ := List.mem_map.mp hx
      exact ⟨_, rfl⟩
    · split
      · exact ⟨Nat.le_refl _, Nat.lt_succ_self _, Nat.le_refl _⟩
      · exact Nat.le_succ _
  unfold made
  rw [List.range_succ, List.flatMap_append, List.flatMap_cons, List.flatMap_nil, List.append_nil]
  refine asc_cat (asc_range (g := fun i => i) h1 (wanted c)) (asc_txts fun x hx => ?_)
  unfold atPlace at hx
  have e : (stays c)[wanted c]? = none := List.getElem?_eq_none (by rw [stays_len]; exact Nat.le_refl _)
  rw [e, if_neg (fun z => nomatch z), List.append_nil] at hx
  obtain ⟨n, _, rfl⟩ := List.mem_map.mp hx
  exact ⟨_, rfl⟩
/-- each item stands for one sign -/
def single (t : List Nat) (l : List Itm) : Prop := ∀ x ∈ l, (x.on t).length = 1
theorem made_single {c : Ch} {t : List Nat} (hl : t.length = wanted c) : single t (made c) := by
  intro x hx
  obtain ⟨i, _, hi⟩ := List.mem_flatMap.mp hx
  unfold atPlace at hi
  rcases List.mem_append.mp hi with hi | hi
  · obtain ⟨n, _, rfl⟩ := List.mem_map.mp hi
    rfl
  · split at hi
    · rename_i h
      rw [List.mem_singleton.mp hi]
      have hlt : i < t.length := by rw [hl, ← stays_len]; exact (List.getElem?_eq_some_iff.mp h).1
      show (t[i]?.toList).length = 1
      rw [List.getElem?_eq_getElem hlt]
      rfl
    · exact (List.not_mem_nil hi).elim
theorem single_len {t : List Nat} : ∀ {l : List Itm}, single t l → (onAll t l).length = l.length
  | [], _ => rfl
  | x :: l, h => by
    show (x.on t ++ onAll t l).length = l.length + 1
    rw [List.length_append, h x List.mem_cons_self, single_len fun y hy => h y (List.mem_cons_of_mem _ hy)]
    omega
theorem single_at {t : List Nat} : ∀ {l : List Itm} {j : Nat} {x : Itm}, single t l → l[j]? = some x → (onAll t l)[j]?.toList = x.on t
  | [], j, x, _, h => by cases h
  | y :: l, 0, x, hs, h => by
    cases h
    have h1 := hs y List.mem_cons_self
    show (y.on t ++ onAll t l)[0]?.toList = y.on t
    match y.on t, h1 with
    | [a], _ => rfl
  | y :: l, j + 1, x, hs, h => by
    have h1 := hs y List.mem_cons_self
    show (y.on t ++ onAll t l)[j + 1]?.toList = x.on t
    rw [List.getElem?_append_right (by rw [h1]; omega), h1, Nat.add_sub_cancel]
    exact single_at (fun z hz => hs z (List.mem_cons_of_mem _ hz)) h
theorem made_len {c : Ch} (h : Good c) : (made c).length = makes c := by
  have hl : (List.replicate (wanted c) 0).length = wanted c := List.length_replicate
  rw [← single_len (made_single hl), on_made h hl, run_len c _ hl]
theorem asc_num {p m : Nat} : ∀ {l : List Itm}, asc p m l → ∀ j, Itm.num j ∈ l → j < m
  | [], _, j, h => (List.not_mem_nil h).elim
  | .num i :: r, z, j, h => by
    rcases List.mem_cons.mp h with h | h
    · cases h; exact z.2.1
    · exact asc_num (l := r) z.2.2 j h
  | .txt s :: r, z, j, h => by
    rcases List.mem_cons.mp h with h | h
    · cases h
    · exact asc_num (p := p) (l := r) z j h
theorem asc_drop {p m : Nat} : ∀ (l : List Itm) (n : Nat), asc p m l → asc p m (l.drop n)
  | l, 0, h => h
  | [], n + 1, h => h
  | .num i :: r, n + 1, h => asc_drop r n (asc_mono (Nat.le_succ_of_le h.1) h.2.2)
  | .txt s :: r, n + 1, h => asc_drop r n h
/-- what is taken out of rising items in rising places rises -/
theorem asc_pick {c1 : Ch} {m n : Nat} : ∀ (l : List Itm) (k p : Nat), asc k n l → n ≤ (made c1).length → asc p m ((made c1).drop k) → p ≤ m → asc p m (l.map (behF c1))
  | [], k, p, _, _, _, hp => hp
  | .txt s :: r, k, p, h, hn, hd, hp => asc_pick (c1 := c1) (n := n) r k p h hn hd hp
  | .num j :: r, k, p, h, hn, hd, hp => by
    have h1 : k ≤ j := h.1
    have h2 : j < n := h.2.1
    have hj : j < (made c1).length := Nat.lt_of_lt_of_le h2 hn
    have hd2 := asc_drop _ (j - k) hd
    rw [List.drop_drop, show k + (j - k) = j by omega, List.drop_eq_getElem_cons hj] at hd2
    have eb : behF c1 (.num j) = (made c1)[j] := by
      show ((made c1)[j]?).getD (.num 0) = _
      rw [List.getElem?_eq_getElem hj]
      rfl
    show asc p m (behF c1 (.num j) :: r.map (behF c1))
    rw [eb]
    cases e : (made c1)[j] with
    | num i =>
      rw [e] at hd2
      exact ⟨hd2.1, hd2.2.1, asc_pick r (j + 1) (i + 1) h.2.2 hn hd2.2.2 (asc_le hd2.2.2)⟩
    | txt s =>
      rw [e] at hd2
      exact asc_pick (c1 := c1) r (j + 1) p h.2.2 hn hd2 hp
theorem on_beh {c1 : Ch} {t : List Nat} (hl : t.length = wanted c1) (h : Good c1) : ∀ (l : List Itm), (∀ j, Itm.num j ∈ l → j < (made c1).length) → onAll t (l.map (behF c1)) = onAll (runC c1 t) l
  | [], _ => rfl
  | .txt s :: r, hj => by
    show s ++ onAll t (r.map (behF c1)) = s ++ onAll (runC c1 t) r
    rw [on_beh hl h r fun j hj' => hj j (List.mem_cons_of_mem _ hj')]
  | .num j :: r, hj => by
    have hlt := hj j List.mem_cons_self
    show (behF c1 (.num j)).on t ++ onAll t (r.map (behF c1)) = (runC c1 t)[j]?.toList ++ onAll (runC c1 t) r
    rw [on_beh hl h r fun j hj' => hj j (List.mem_cons_of_mem _ hj')]
    congr 1
    have eb : behF c1 (.num j) = (made c1)[j] := by
      show ((made c1)[j]?).getD (.num 0) = _
      rw [List.getElem?_eq_getElem hlt]
      rfl
    rw [eb, ← on_made h hl, single_at (made_single hl) (List.getElem?_eq_getElem hlt)]
theorem txts_single {t : List Nat} : ∀ {l : List Itm}, single t l → txts l ≤ l.length
  | [], _ => Nat.le_refl _
  | .num i :: r, h => Nat.le_succ_of_le (txts_single (l := r) fun y hy => h y (List.mem_cons_of_mem _ hy))
  | .txt s :: r, h => by
    have h1 : s.length = 1 := h _ List.mem_cons_self
    have h2 := txts_single (l := r) fun y hy => h y (List.mem_cons_of_mem _ hy)
    show s.length + txts r ≤ r.length + 1
    omega
structure BehOut (c1 c2 : Ch) (t : List Nat) : Prop where
  nums : ∀ j, Itm.num j ∈ made c2 → j < (made c1).length
  items : OkItems (wanted c1) (behI c1 c2)
  good : Good (changeBy (wanted c1) (behI c1 c2))
  ok : okC (changeBy (wanted c1) (behI c1 c2))
  size : ((changeBy (wanted c1) (behI c1 c2)).map Pt.size).sum ≤ wanted c1 + makes c2 + 1
  want : wanted (changeBy (wanted c1) (behI c1 c2)) = wanted c1
  run : runC (changeBy (wanted c1) (behI c1 c2)) t = runC c2 (runC c1 t)
theorem beh_out {c1 c2 : Ch} {t : List Nat} (h1 : Cn c1) (h2 : Cn c2) (hm : makes c1 = wanted c2) (hl : t.length = wanted c1) : BehOut c1 c2 t := by
  have l1 := made_len h1.good
  have l2 := made_len h2.good
  have hl2 : (runC c1 t).length = wanted c2 := by rw [run_len c1 t hl, hm]
  have hj : ∀ j, Itm.num j ∈ made c2 → j < (made c1).length := fun j hj => by
    rw [l1, hm]
    exact asc_num (asc_made c2) j hj
  have a : asc 0 (wanted c1) (behI c1 c2) := asc_pick (n := wanted c2) (made c2) 0 0 (asc_made c2) (by rw [l1, hm]; exact Nat.le_refl _) (asc_made c1) (Nat.zero_le _)
  have hsing : single t (behI c1 c2) := fun x hx => by
    obtain ⟨y, hy, rfl⟩ := List.mem_map.mp hx
    cases y with
    | txt s => exact made_single hl2 (.txt s) hy
    | num j =>
      have hlt := hj j hy
      have eb : behF c1 (.num j) = (made c1)[j] := by
        show ((made c1)[j]?).getD (.num 0) = _
        rw [List.getElem?_eq_getElem hlt]
        rfl
      rw [eb]
      exact made_single hl _ (List.getElem_mem hlt)
  have hlen : (behI c1 c2).length = makes c2 := by rw [show (behI c1 c2).length = (made c2).length from List.length_map _, l2]
  have ht := txts_single hsing
  have b1 := wanted_le c1
  have b2 := makes_le c2
  have f1 := h1.few
  have f2 := h2.few
  have hsig : okI (behI c1 c2) := fun s hs n hn => by
    obtain ⟨y, hy, e⟩ := List.mem_map.mp hs
    have made_ok : ∀ {c : Ch}, okC c → ∀ s, Itm.txt s ∈ made c → ∀ n ∈ s, n < 128 := fun ho s hs n hn => by
      obtain ⟨i, _, hi⟩ := List.mem_flatMap.mp hs
      unfold atPlace at hi
      rcases List.mem_append.mp hi with hi | hi
      · obtain ⟨q, hq, e⟩ := List.mem_map.mp hi
        cases e
        rw [List.mem_singleton.mp hn]
        exact mem_putT ho i q hq
      · split at hi
        · cases List.mem_singleton.mp hi
        · exact (List.not_mem_nil hi).elim
    cases y with
    | txt s' =>
      cases e
      exact made_ok h2.ok s hy n hn
    | num j =>
      have hlt := hj j hy
      have eb : behF c1 (.num j) = (made c1)[j] := by
        show ((made c1)[j]?).getD (.num 0) = _
        rw [List.getElem?_eq_getElem hlt]
        rfl
      rw [eb] at e
      have hm := List.getElem_mem hlt
      rw [e] at hm
      exact made_ok h1.ok s hm n hn
  have ok : OkItems (wanted c1) (behI c1 c2) := ⟨a, by omega, by omega, hsig⟩
  have sz := sizes_changeBy ok
  refine ⟨hj, ok, good_changeBy a, sz.2, by have := sz.1; omega, wanted_changeBy a, ?_⟩
  have a' := a
  rw [← hl] at a'
  rw [← hl, run_changeBy a']
  have e := on_beh hl h1.good (made c2) hj
  show onAll t ((made c2).map (behF c1)) = _
  rw [e, on_made h2.good hl2]
/-! ### plain -/
structure PlainOut (t come : List Nat) (a g : Nat) : Prop where
  items : OkItems t.length (plainI a g t.length come)
  cn : Cn (changeBy t.length (plainI a g t.length come))
  want : wanted (changeBy t.length (plainI a g t.length come)) = t.length
  run : runC (changeBy t.length (plainI a g t.length come)) t = t.take a ++ come ++ t.drop (a + g)
theorem plain_out {t come : List Nat} {a g : Nat} (h : a + g ≤ t.length) (hl : t.length + come.length ≤ 800) (hc : ∀ n ∈ come, n < 128) : PlainOut t come a g := by
  have as : asc 0 t.length (plainI a g t.length come) := by
    unfold plainI
    have n1 := asc_nums 0 a
    rw [Nat.zero_add] at n1
    have n2 := asc_nums (a + g) (t.length - (a + g))
    rw [show a + g + (t.length - (a + g)) = t.length by omega] at n2
    refine asc_cat (k := a) (asc_cat (k := a) n1 (asc_txts fun x hx => ⟨_, List.mem_singleton.mp hx⟩)) (asc_mono (Nat.le_add_right _ _) n2)
  have tx : txts (plainI a g t.length come) = come.length := by
    unfold plainI
    rw [txts_append, txts_append, txts_nums, txts_nums]
    show 0 + (come.length + 0) + 0 = _
    omega
  have ln : (plainI a g t.length come).length ≤ t.length + 1 := by
    unfold plainI nums
    rw [List.length_append, List.length_append, List.length_map, List.length_map, List.length_range, List.length_range]
    show a + 1 + _ ≤ _
    omega
  have sg : okI (plainI a g t.length come) := fun s hs => by
    unfold plainI at hs
    rcases List.mem_append.mp hs with hs | hs
    · rcases List.mem_append.mp hs with hs | hs
      · obtain ⟨j, _, e⟩ := List.mem_map.mp hs
        cases e
      · cases List.mem_singleton.mp hs
        exact hc
    · obtain ⟨j, _, e⟩ := List.mem_map.mp hs
      cases e
  have ok : OkItems t.length (plainI a g t.length come) := ⟨as, by rw [tx]; omega, by omega, sg⟩
  have sz := sizes_changeBy ok
  rw [tx] at sz
  refine ⟨ok, ⟨good_changeBy as, sz.2, by have := sz.1; omega⟩, wanted_changeBy as, ?_⟩
  rw [run_changeBy as]
  unfold plainI
  rw [on_append, on_append, on_nums t 0 a (by omega), on_nums t (a + g) _ (by omega)]
  show t.take a ++ (come ++ []) ++ _ = _
  rw [List.append_nil]
  congr 1
  exact List.take_of_length_le (by rw [List.length_drop]; omega)
/-! ### nothing -/
theorem nothing_cn {n : Nat} (h : n ≤ 900) : Cn (nothing n) := by
  unfold nothing
  split
  · exact ⟨⟨fun p hp => (List.not_mem_nil hp).elim, rfl⟩, fun p hp => (List.not_mem_nil hp).elim, Nat.zero_le _⟩
  · refine ⟨⟨fun p hp => ?_, rfl⟩, fun p hp s e => ?_, ?_⟩
    · rw [List.mem_singleton.mp hp]
      show 0 < n
      omega
    · rw [List.mem_singleton.mp hp] at e
      cases e
    · show n + 0 ≤ 900
      omega
theorem nothing_want (n : Nat) : wanted (nothing n) = n := by
  unfold nothing
  split
  · rename_i h; exact h.symm
  · exact Nat.add_zero n
theorem nothing_run (t : List Nat) : runC (nothing t.length) t = t := by
  unfold nothing
  split
  · rename_i h
    exact (List.length_eq_zero_iff.mp h).symm
  · show t.take t.length ++ [] = t
    rw [List.append_nil, List.take_length]
end K78
set_option Elab.async false
set_option linter.all false
set_option maxRecDepth 100000
set_option maxHeartbeats 4000000
namespace K78
open PySem PySem.Spec PyProof.Rows L2 SX
/-- len(o), o an own instance with an own __len__ -/
theorem call_lenO {X : Cx} {k : Nat} {C f : Addr} {fd : FuncData} {sp : Sp} (F : FnOk X.prog X.w X.K X.mg X.base CX0 k f fd ["self"] sp) (hr : Room (k + 1) X.A) (hb : Binds X.K fd ["self"] []) (hm : PySem.W.findIn X.K (.ref C) "__len__" = some (some (.ref f))) (hf : PySem.W.isFn X.K (.ref f) = true) :
    CallR X (.builtin "len") (fun xs H Q => ∃ a dx fs, xs = [V.ref a] ∧ H a = some (.ins C dx fs) ∧ sp [.ref a] H (fun v H1 => ∃ n : Nat, v = .int n ∧ n ≤ sizeLine ∧ Q (.int n) H1) E0) := by
  intro pins s σ H xs us Q I r h
  obtain ⟨a, dx, fs, rfl, ha, hs⟩ := h
  obtain ⟨u, rfl, ru⟩ := vals1 r
  obtain rfl : u = Value.ref a := ru
  obtain ⟨mA, hO, _⟩ := ins_get I.hok ha
  obtain ⟨od, J, _⟩ := hO.look
  refine Calls.call_function_entry kind_len plain_len entry_len (args_len1 _) ?_
  unfold Builtin.«len»
  refine wpAny_bind (m := oneArg "len" _) (wpAny_pure ?_)
  refine wpAny_bind (m := callSpecial? (.ref a) (Str.ofString "__len__")) (PySem.W.special_fn I.kIn J hm (beq_iff_eq.mp hf) ?_)
  refine wpAny_call (codeAny_mono (F.run X.A.in1 X.stack s H ⟨[.ref a], []⟩ [.ref a] [.ref a] _ E0 hr.in1 I.env0.in1 (hb s [.ref a] I.kIn rfl) (.cons rfl .nil) hs) fun r' s' hq => ?_)
  cases r' with
  | error e => exact (show False from hq).elim
  | ok fl =>
    cases fl with
    | next => exact False.elim hq
    | brk => exact False.elim hq
    | cont => exact False.elim hq
    | ret v =>
      obtain ⟨y, H1, I1, rv, n, rfl, hn, q⟩ := I.after hq
      obtain ⟨t, rfl⟩ := (show ∃ t, v = Value.int (n : Int) t from rv)
      refine wpAny_bind (wpAny_holding (wpAny_pure ?_))
      refine wpAny_bind (wpAny_letGo ?_)
      have hz : sizeLine = 16777216 := sizeLine_eq
      show wpAny _ _ (if (n : Int) < 0 then _ else _) _ _ _
      rw [if_neg (by omega)]
      show wpAny _ _ (if (n : Int) ≥ 2 ^ 63 then _ else _) _ _ _
      rw [if_neg (by omega)]
      exact wpAny_bind (wpAny_mkInt (wpAny_pure ⟨_, rfl, .int n, H1, I1.tok _, ⟨_, rfl⟩, q⟩))
end K78
set_option Elab.async false
set_option linter.all false
set_option maxRecDepth 100000
set_option maxHeartbeats 4000000
namespace K78
open PySem PySem.Spec PyProof.Rows L2 SX
section
variable {P : Program} {w : World} {K : PySem.W.Frag} {mg : Str → Option Value} {base : Heap} {fd : FuncData}
/-! ### hub and persons -/
def hubF (t : List Nat) (lc : Addr) : List (Str × V) := [("own_text", .str (S t)), ("own_changes", .ref lc)]
def perF (hb : Addr) (nm : Str) (t : List Nat) (hd : Nat) (v : V) (pl : Nat) : List (Str × V) := [("own_hub", .ref hb), ("own_name", .str nm), ("own_late", .bl false), ("own_text", .str (S t)), ("own_heard", .int hd), ("unsent", v), ("own_place", .int pl)]
inductive VsAt (K : PySem.W.Frag) (H : Hp) : List V → List Ch → Prop where
  | nil : VsAt K H [] []
  | cons {v : V} {c : Ch} {vs : List V} {cs : List Ch} : ChAt K H v c → VsAt K H vs cs → VsAt K H (v :: vs) (c :: cs)
section
variable {H H' : Hp}
theorem VsAt.im {vs : List V} {cs : List Ch} (h : VsAt K H vs cs) (i : Im H H') : VsAt K H' vs cs := by
  induction h with
  | nil => exact .nil
  | cons h _ ih => exact .cons (h.im i) ih
theorem VsAt.length {vs : List V} {cs : List Ch} (h : VsAt K H vs cs) : vs.length = cs.length := by
  induction h with
  | nil => rfl
  | cons _ _ ih => exact congrArg Nat.succ ih
theorem VsAt.snoc {vs : List V} {cs : List Ch} {v : V} {c : Ch} (h : VsAt K H vs cs) (g : ChAt K H v c) : VsAt K H (vs ++ [v]) (cs ++ [c]) := by
  induction h with
  | nil => exact .cons g .nil
  | cons h _ ih => exact .cons h ih
theorem VsAt.drop {vs : List V} {cs : List Ch} (h : VsAt K H vs cs) (n : Nat) : VsAt K H (vs.drop n) (cs.drop n) := by
  induction h generalizing n with
  | nil => cases n <;> exact .nil
  | cons h g ih =>
    cases n with
    | zero => exact .cons h g
    | succ n => exact ih n
theorem VsAt.get {vs : List V} {cs : List Ch} (h : VsAt K H vs cs) : ∀ {i : Nat} {v : V}, vs[i]? = some v → ∃ c, cs[i]? = some c ∧ ChAt K H v c := by
  induction h with
  | nil => intro i v e; cases e
  | cons h _ ih =>
    intro i v e
    cases i with
    | zero => cases e; exact ⟨_, rfl, h⟩
    | succ i => exact ih e
end
def HubAt (K : PySem.W.Frag) (H : Hp) (hb dx lc : Addr) (t : List Nat) (cs : List Ch) : Prop := H hb = some (.ins (He.ga K "Hub") dx (hubF t lc)) ∧ ∃ vs, H lc = some (.lst vs) ∧ VsAt K H vs cs
def PerAt (K : PySem.W.Frag) (H : Hp) (p dx hb : Addr) (nm : Str) (t : List Nat) (hd : Nat) (u : Ch) : Prop := ∃ v pl, H p = some (.ins (He.ga K "Person") dx (perF hb nm t hd v pl)) ∧ ChAt K H v u ∧ pl ≤ t.length

def sc_Hub_lenN : List Str := ["self"]
theorem sc_Hub_len : FnScope sc_Hub_lenN ["self"] (defScope s_Hub_len) := ⟨rfl, rfl, rfl, by decide +kernel, rfl, by decide +kernel, by decide +kernel⟩
def sp_Hub_len (K : PySem.W.Frag) : Sp := fun vs H Q _ => ∃ (hb dx lc : Addr) (t : List Nat) (cs : List Ch), vs = [.ref hb] ∧ HubAt K H hb dx lc t cs ∧ Q (.int (cs.length : Nat)) H
theorem ok_Hub_len (F : FnP K d_Hub_len fd) (T : Tx K mg) : FnOk P w K mg base CX0 1 (He.fAd K d_Hub_len.at_) fd ["self"] (sp_Hub_len K) := by
  refine F.ok sc_Hub_len (fun vs H Q E h => ?_) (fun cdv A outer s H vs Q E hr h => ?_)
  · obtain ⟨hb, dx, lc, t, cs, rfl, ⟨h1, vs, h2, h3⟩, q⟩ := h
    rfl
  · obtain ⟨hb, dx, lc, t, cs, rfl, ⟨h1, vs, h2, h3⟩, q⟩ := h
    refine ⟨_, PSs.nox (pss_one (ps_ret (pe_callB call_len (by rfl) T.free (by decide +kernel) (pa_cons (pe_fld (pv 0) rfl) pa_nil)))), ?_⟩
    refine ⟨_, rfl, hb, _, _, _, _, rfl, h1, T.c_Hub, T.n_Hub_own_changes, rfl, _, _, rfl, .inl ⟨_, SqL.of h2, rfl⟩, ?_⟩
    rw [h3.length]
    exact q
def sc_Hub_textN : List Str := ["self"]
theorem sc_Hub_text : FnScope sc_Hub_textN ["self"] (defScope s_Hub_text) := ⟨rfl, rfl, rfl, by decide +kernel, rfl, by decide +kernel, by decide +kernel⟩
def sp_Hub_text (K : PySem.W.Frag) : Sp := fun vs H Q _ => ∃ (hb dx lc : Addr) (t : List Nat), vs = [.ref hb] ∧ H hb = some (.ins (He.ga K "Hub") dx (hubF t lc)) ∧ Q (.str (S t)) H
theorem ok_Hub_text (F : FnP K d_Hub_text fd) (T : Tx K mg) : FnOk P w K mg base CX0 1 (He.fAd K d_Hub_text.at_) fd ["self"] (sp_Hub_text K) := by
  refine F.ok sc_Hub_text (fun vs H Q E h => ?_) (fun cdv A outer s H vs Q E hr h => ?_)
  · obtain ⟨hb, dx, lc, t, rfl, h1, q⟩ := h
    rfl
  · obtain ⟨hb, dx, lc, t, rfl, h1, q⟩ := h
    refine ⟨_, PSs.nox (pss_one (ps_ret (pe_fld (pv 0) rfl))), ?_⟩
    exact ⟨_, rfl, hb, _, _, _, _, rfl, h1, T.c_Hub, T.n_Hub_own_text, rfl, q⟩
def sc_Hub_changesN : List Str := ["self"]
theorem sc_Hub_changes : FnScope sc_Hub_changesN ["self"] (defScope s_Hub_changes) := ⟨rfl, rfl, rfl, by decide +kernel, rfl, by decide +kernel, by decide +kernel⟩
def sp_Hub_changes (K : PySem.W.Frag) : Sp := fun vs H Q _ => ∃ (hb dx lc : Addr) (t : List Nat) (vs' : List V), vs = [.ref hb] ∧ H hb = some (.ins (He.ga K "Hub") dx (hubF t lc)) ∧ H lc = some (.lst vs') ∧ ∀ l, H l = none → Q (.ref l) (upd H l (.lst vs'))
theorem ok_Hub_changes (F : FnP K d_Hub_changes fd) (T : Tx K mg) : FnOk P w K mg base CX0 1 (He.fAd K d_Hub_changes.at_) fd ["self"] (sp_Hub_changes K) := by
  refine F.ok sc_Hub_changes (fun vs H Q E h => ?_) (fun cdv A outer s H vs Q E hr h => ?_)
  · obtain ⟨hb, dx, lc, t, vs2, rfl, h1, h2, q⟩ := h
    rfl
  · obtain ⟨hb, dx, lc, t, vs2, rfl, h1, h2, q⟩ := h
    refine ⟨_, PSs.nox (pss_one (ps_ret (pe_callTy call_list_of (by rfl) T.free (by decide +kernel) (pa_cons (pe_fld (pv 0) rfl) pa_nil)))), ?_⟩
    exact ⟨_, rfl, hb, _, _, _, _, rfl, h1, T.c_Hub, T.n_Hub_own_changes, rfl, _, _, rfl, .inl (SqL.of h2), fun l nl => q l nl⟩
def sc_Hub_takeN : List Str := ["self", "change"]
theorem sc_Hub_take : FnScope sc_Hub_takeN ["self", "change"] (defScope s_Hub_take) := ⟨rfl, rfl, rfl, by decide +kernel, rfl, by decide +kernel, by decide +kernel⟩
def sp_Hub_take (K : PySem.W.Frag) : Sp := fun vs H Q _ => ∃ (hb dx lc : Addr) (t : List Nat) (cs : List Ch) (v : V) (c : Ch), vs = [.ref hb, v] ∧ HubAt K H hb dx lc t cs ∧ hb ≠ lc ∧ ChAt K H v c ∧ Sm c ∧ t.length = wanted c ∧ cs.length ≤ 1000 ∧
  ∀ H1, (∀ b o, H b = some o → b ≠ hb → b ≠ lc → H1 b = some o) → HubAt K H1 hb dx lc (runC c t) (cs ++ [c]) → Q .non H1
theorem ok_Hub_take (F : FnP K d_Hub_take fd) (T : Tx K mg) {fdW : FuncData} (FW : FnP K d_wanted fdW) {fdC : FuncData} (FC : FnP K d_changed fdC) : FnOk P w K mg base CX0 3 (He.fAd K d_Hub_take.at_) fd ["self", "change"] (sp_Hub_take K) := by
  have GC : FnOk P w K mg base CX0 2 _ fdC ["text", "change"] (sp_changed K) := ok_changed FC T FW
  have bC : Binds K fdC ["text", "change"] [] := FC.bindsN fun _ _ _ _ _ _ us hl => match us, hl with | [_, _], _ => rfl
  refine F.ok sc_Hub_take (fun vs H Q E h => ?_) (fun cdv A outer s H vs Q E hr h => ?_)
  · obtain ⟨hb, dx, lc, t, cs, v, c, rfl, ⟨h1, ws, h2, h3⟩, ne, C, sm, hl, hcs, q⟩ := h
    rfl
  · obtain ⟨hb, dx, lc, t, cs, v, c, rfl, ⟨h1, ws, h2, h3⟩, ne, C, sm, hl, hcs, q⟩ := h
    refine ⟨_, PSs.nox (pss_cons (ps_fld (pv 0) (pe_call GC hr (by rfl) T.glo FC.kp bC .nil pass0 (pa_cons (pe_fld (pv 0) rfl) (pa_cons (pv 1) pa_nil))) rfl)
  (pss_one (ps_expr (pe_bm PySem.F.plainAttrs_list PySem.F.slot_list_append PySem.F.type_list_append mt_append (pe_fld (pv 0) rfl) (pa_cons (pv 1) pa_nil))))), ?_⟩
    refine ⟨_, rfl, hb, _, _, _, _, rfl, h1, T.c_Hub, T.n_Hub_own_text, rfl, _, rfl, t, v, c, rfl, C, sm, hl, fun H1 k1 => ?_⟩
    have h1' := k1 _ _ h1
    refine ⟨_, rfl, hb, _, _, _, rfl, h1', T.c_Hub, T.n_Hub_own_text, (by show 2 < 1000; decide), ?_⟩
    have g1 : upd H1 hb (.ins (He.ga K "Hub") dx (hubF (runC c t) lc)) hb = some (.ins (He.ga K "Hub") dx (hubF (runC c t) lc)) := upd_same
    have g2 : upd H1 hb (.ins (He.ga K "Hub") dx (hubF (runC c t) lc)) lc = some (.lst ws) := by rw [upd_ne ne.symm]; exact k1 _ _ h2
    refine ⟨_, rfl, hb, _, _, _, _, rfl, g1, T.c_Hub, T.n_Hub_own_changes, rfl, .inl ⟨rfl, _, SqL.of g2⟩, _, rfl, lc, _, _, rfl, rfl, g2, ?_, ?_⟩
    · rw [h3.length]
      exact small (by omega)
    · have im : Im H (upd (upd H1 hb (.ins (He.ga K "Hub") dx (hubF (runC c t) lc))) lc (.lst (ws ++ [v]))) := (k1.im.set h1' rfl).set g2 rfl
      refine q _ (fun b o e n1 n2 => ?_) ⟨?_, _, upd_same, (h3.im im).snoc (C.im im)⟩
      · rw [upd_ne n2, upd_ne n1]
        exact k1 _ _ e
      · rw [upd_ne ne]
        exact upd_same
def sc_Hub_initN : List Str := ["self", "text"]
theorem sc_Hub_init : FnScope sc_Hub_initN ["self", "text"] (defScope s_Hub_init) := ⟨rfl, rfl, rfl, by decide +kernel, rfl, by decide +kernel, by decide +kernel⟩
def sp_Hub_init (K : PySem.W.Frag) : Sp := fun vs H Q _ => ∃ (hb dx : Addr) (t : List Nat), vs = [.ref hb, .str (S t)] ∧ H hb = some (.ins (He.ga K "Hub") dx []) ∧
  ∀ lc H1, (∀ b o, H b = some o → b ≠ hb → H1 b = some o) → H lc = none → HubAt K H1 hb dx lc t [] → Q .non H1
theorem ok_Hub_init (F : FnP K d_Hub_init fd) (T : Tx K mg) : FnOk P w K mg base CX0 1 (He.fAd K d_Hub_init.at_) fd ["self", "text"] (sp_Hub_init K) := by
  refine F.ok sc_Hub_init (fun vs H Q E h => ?_) (fun cdv A outer s H vs Q E hr h => ?_)
  · obtain ⟨hb, dx, t, rfl, h1, q⟩ := h
    rfl
  · obtain ⟨hb, dx, t, rfl, h1, q⟩ := h
    refine ⟨_, PSs.nox (pss_cons (ps_fld (pv 0) (pv 1) rfl)
  (pss_one (ps_fld (pv 0) (pe_lst pa_nil) rfl))), ?_⟩
    refine ⟨_, rfl, _, rfl, hb, _, _, _, rfl, h1, T.c_Hub, T.n_Hub_own_text, (by show 0 < 1000; decide), ?_⟩
    refine ⟨(by show 0 ≤ sizeLine; decide), fun l nl => ?_⟩
    have nlh : l ≠ hb := fun z => by rw [z, upd_same] at nl; cases nl
    have nl0 : H l = none := by rw [upd_ne nlh] at nl; exact nl
    refine ⟨_, rfl, hb, _, _, _, rfl, keeps_new nl _ _ upd_same, T.c_Hub, T.n_Hub_own_changes, (by show 1 < 1000; decide), ?_⟩
    refine q l _ (fun b o e n1 => ?_) nl0 ⟨upd_same, [], ?_, .nil⟩
    · rw [upd_ne n1, upd_ne (ne_of_none e nl0), upd_ne n1]
      exact e
    · rw [upd_ne nlh, upd_same]
def sc_Person_textN : List Str := ["self"]
theorem sc_Person_text : FnScope sc_Person_textN ["self"] (defScope s_Person_text) := ⟨rfl, rfl, rfl, by decide +kernel, rfl, by decide +kernel, by decide +kernel⟩
def sp_Person_text (K : PySem.W.Frag) : Sp := fun vs H Q _ => ∃ (p dx hb : Addr) (nm : Str) (t : List Nat) (hd : Nat) (v : V) (pl : Nat), vs = [.ref p] ∧ H p = some (.ins (He.ga K "Person") dx (perF hb nm t hd v pl)) ∧ Q (.str (S t)) H
theorem ok_Person_text (F : FnP K d_Person_text fd) (T : Tx K mg) : FnOk P w K mg base CX0 1 (He.fAd K d_Person_text.at_) fd ["self"] (sp_Person_text K) := by
  refine F.ok sc_Person_text (fun vs H Q E h => ?_) (fun cdv A outer s H vs Q E hr h => ?_)
  · obtain ⟨p, dx, hb, nm, t, hd, v, pl, rfl, h1, q⟩ := h
    rfl
  · obtain ⟨p, dx, hb, nm, t, hd, v, pl, rfl, h1, q⟩ := h
    refine ⟨_, PSs.nox (pss_one (ps_ret (pe_fld (pv 0) rfl))), ?_⟩
    exact ⟨_, rfl, p, _, _, _, _, rfl, h1, T.c_Person, T.n_Person_own_text, rfl, q⟩
def sc_Person_turnN : List Str := ["self", "change"]
theorem sc_Person_turn : FnScope sc_Person_turnN ["self", "change"] (defScope s_Person_turn) := ⟨rfl, rfl, rfl, by decide +kernel, rfl, by decide +kernel, by decide +kernel⟩
def sp_turn (K : PySem.W.Frag) : Sp := fun vs H Q _ => ∃ (p dx hb : Addr) (nm : Str) (t : List Nat) (hd : Nat) (u : V) (pl : Nat) (v : V) (c : Ch), vs = [.ref p, v] ∧ H p = some (.ins (He.ga K "Person") dx (perF hb nm t hd u pl)) ∧ ChAt K H v c ∧ Sm c ∧ Fr c ∧ t.length = wanted c ∧ pl ≤ t.length ∧
  ∀ pl' H1, (∀ b o, H b = some o → b ≠ p → H1 b = some o) → H1 p = some (.ins (He.ga K "Person") dx (perF hb nm (runC c t) hd u pl')) → pl' ≤ (runC c t).length → Q .non H1
theorem ok_Person_turn (F : FnP K d_Person_turn fd) (T : Tx K mg) {fdW : FuncData} (FW : FnP K d_wanted fdW) {fdC : FuncData} (FC : FnP K d_changed fdC) {fdS : FuncData} (FS : FnP K d_spelt fdS) {fdN : FuncData} (FN : FnP K d_is_number fdN) {fdV : FuncData} (FV : FnP K d_moved fdV) : FnOk P w K mg base CX0 3 (He.fAd K d_Person_turn.at_) fd ["self", "change"] (sp_turn K) := by
  have GC : FnOk P w K mg base CX0 2 _ fdC ["text", "change"] (sp_changed K) := ok_changed FC T FW
  have GV : FnOk P w K mg base CX0 2 _ fdV ["place", "change", "late"] (sp_moved K) := ok_moved FV T FS FN
  have bV : KBn K fdV ["place", "change", "late"] 2 ["late"] (fun us ws => us ++ ws) (fun vs zs => vs ++ zs) := kbnN FV fun _ _ _ _ _ _ us ws h1 h2 => match us, ws, h1, h2 with | [_, _], [_], _, _ => rfl
  have bC : Binds K fdC ["text", "change"] [] := FC.bindsN fun _ _ _ _ _ _ us hl => match us, hl with | [_, _], _ => rfl
  refine F.ok sc_Person_turn (fun vs H Q E h => ?_) (fun cdv A outer s H vs Q E hr h => ?_)
  · obtain ⟨p, dx, hb, nm, t, hd, u, pl, v, c, rfl, h1, C, sm, fr, hl, hpl, q⟩ := h
    rfl
  · obtain ⟨p, dx, hb, nm, t, hd, u, pl, v, c, rfl, h1, C, sm, fr, hl, hpl, q⟩ := h
    refine ⟨_, PSs.nox (pss_cons (ps_fld (pv 0) (pe_call GC hr (by rfl) T.glo FC.kp bC .nil pass0 (pa_cons (pe_fld (pv 0) rfl) (pa_cons (pv 1) pa_nil))) rfl)
  (pss_one (ps_fld (pv 0) (pe_callN GV hr (by rfl) T.glo FV.kp bV pass0 (pa_cons (pe_fld (pv 0) rfl) (pa_cons (pv 1) pa_nil)) (pk_cons (pe_fld (pv 0) rfl) pk_nil)) rfl))), ?_⟩
    refine ⟨_, rfl, p, _, _, _, _, rfl, h1, T.c_Person, T.n_Person_own_text, rfl, _, rfl, t, v, c, rfl, C, sm, hl, fun H1 k1 => ?_⟩
    have h1' := k1 _ _ h1
    refine ⟨_, rfl, p, _, _, _, rfl, h1', T.c_Person, T.n_Person_own_text, (by show 7 < 1000; decide), ?_⟩
    have g1 : upd H1 p (.ins (He.ga K "Person") dx (perF hb nm (runC c t) hd u pl)) p = some (.ins (He.ga K "Person") dx (perF hb nm (runC c t) hd u pl)) := upd_same
    have im1 : Im H (upd H1 p (.ins (He.ga K "Person") dx (perF hb nm (runC c t) hd u pl))) := k1.im.set h1' rfl
    refine ⟨_, rfl, p, _, _, _, _, rfl, g1, T.c_Person, T.n_Person_own_place, rfl, _, rfl, _, rfl, p, _, _, _, _, rfl, g1, T.c_Person, T.n_Person_own_late, rfl, rfl, rfl, pl, v, false, c, rfl, C.im im1, sm, fr, by omega, fun r H2 k2 hr2 => ?_⟩
    have g2 := k2 _ _ g1
    refine ⟨_, rfl, p, _, _, _, rfl, g2, T.c_Person, T.n_Person_own_place, (by show 7 < 1000; decide), ?_⟩
    refine q r _ (fun b o e n1 => ?_) upd_same (by rw [run_len c t hl]; exact hr2)
    rw [upd_ne n1]
    refine k2 _ _ ?_
    rw [upd_ne n1]
    exact k1 _ _ e
end
end K78
set_option Elab.async false
set_option linter.all false
set_option maxRecDepth 100000
set_option maxHeartbeats 4000000
namespace K78
open PySem PySem.Spec PyProof.Rows L2 SX
section
variable {P : Program} {w : World} {K : PySem.W.Frag} {mg : Str → Option Value} {base : Heap} {fd : FuncData}
def sc_Person_writeN : List Str := ["self", "change"]
theorem sc_Person_write : FnScope sc_Person_writeN ["self", "change"] (defScope s_Person_write) := ⟨rfl, rfl, rfl, by decide +kernel, rfl, by decide +kernel, by decide +kernel⟩
def sp_write (K : PySem.W.Frag) : Sp := fun vs H Q _ => ∃ (p dx hb : Addr) (nm : Str) (t : List Nat) (hd : Nat) (u : Ch) (v : V) (c : Ch), vs = [.ref p, v] ∧ PerAt K H p dx hb nm t hd u ∧ ChAt K H v c ∧ Cn u ∧ Cn c ∧ t.length = wanted c ∧ makes u = wanted c ∧
  ∀ H1, (∀ b o, H b = some o → b ≠ p → H1 b = some o) → PerAt K H1 p dx hb nm (runC c t) hd (changeBy (wanted u) (behI u c)) → Q .non H1
theorem ok_Person_write (F : FnP K d_Person_write fd) (T : Tx K mg) {fdW : FuncData} (FW : FnP K d_wanted fdW) {fdC : FuncData} (FC : FnP K d_changed fdC) {fdS : FuncData} (FS : FnP K d_spelt fdS) {fdN : FuncData} (FN : FnP K d_is_number fdN) {fdV : FuncData} (FV : FnP K d_moved fdV) {fdU : FuncData} (FU : FnP K d_Person_turn fdU) {fdM : FuncData} (FM : FnP K d_makes fdM) {fdO : FuncData} (FO : FnP K d_made_of fdO) {fdG : FuncData} (FG : FnP K d_grown fdG) {fdB : FuncData} (FB : FnP K d_change_by fdB) {fdP : FuncData} (FP : FnP K d_is_part fdP) {fdA : FuncData} (FA : FnP K d_is_change fdA) {fdB2 : FuncData} (FB2 : FnP K d_behind fdB2) : FnOk P w K mg base CX0 4 (He.fAd K d_Person_write.at_) fd ["self", "change"] (sp_write K) := by
  have GU : FnOk P w K mg base CX0 3 _ fdU ["self", "change"] (sp_turn K) := ok_Person_turn FU T FW FC FS FN FV
  have GA : FnOk P w K mg base CX0 3 _ fdA ["thing"] (sp_is_change K) := ok_is_change FA T FN FP
  have GB2 : FnOk P w K mg base CX0 3 _ fdB2 ["one", "other"] (sp_behind K) := ok_behind FB2 T FM FW FS FO FG FB
  have bU : Binds K fdU ["self", "change"] [] := FU.bindsN fun _ _ _ _ _ _ us hl => match us, hl with | [_, _], _ => rfl
  have bA : Binds K fdA ["thing"] [] := FA.bindsN fun _ _ _ _ _ _ us hl => match us, hl with | [_], _ => rfl
  have bB2 : Binds K fdB2 ["one", "other"] [] := FB2.bindsN fun _ _ _ _ _ _ us hl => match us, hl with | [_, _], _ => rfl
  refine F.ok sc_Person_write (fun vs H Q E h => ?_) (fun cdv A outer s H vs Q E hr h => ?_)
  · obtain ⟨p, dx, hb, nm, t, hd, u, v, c, rfl, ⟨uv, pl, h1, CU, hpl⟩, C, cu, cc, hl, hm, q⟩ := h
    rfl
  · obtain ⟨p, dx, hb, nm, t, hd, u, v, c, rfl, ⟨uv, pl, h1, CU, hpl⟩, C, cu, cc, hl, hm, q⟩ := h
    refine ⟨_, PSs.nox (pss_cons (ps_if (pt_not (pt_val (pe_call GA hr (by rfl) T.glo FA.kp bA .nil pass0 (pa_cons (pv 1) pa_nil)))) (pss_one ps_never) pss_nil)
  (pss_cons (ps_expr (pe_meth (pv 0) T.c_Person T.m_Person_turn GU hr bU .nil pass0 (pa_cons (pv 1) pa_nil)))
  (pss_one (ps_fld (pv 0) (pe_call GB2 hr (by rfl) T.glo FB2.kp bB2 .nil pass0 (pa_cons (pe_fld (pv 0) rfl) (pa_cons (pv 1) pa_nil))) rfl)))), ?_⟩
    have bo := beh_out (t := List.replicate (wanted u) 0) cu cc hm List.length_replicate
    refine ⟨_, rfl, v, c, rfl, C, cc.sm, cc.good, fun H0 k0 => ⟨true, rfl, iteF ?_⟩⟩
    have h1' := k0 _ _ h1
    refine ⟨_, rfl, p, dx, _, rfl, h1', rfl, _, rfl, p, dx, hb, nm, t, hd, uv, pl, v, c, rfl, h1', C.im k0.im, cc.sm, cc.fr, hl, hpl, fun pl' H1 k1 g1 hpl' => ?_⟩
    have im1 : Im H H1 := k0.im.trans (fun b o e z => k1 b o e fun w => by
      rw [w, h1'] at e
      cases e
      cases z)
    refine ⟨_, rfl, p, _, _, _, _, rfl, g1, T.c_Person, T.n_Person_unsent, rfl, _, rfl, uv, v, u, c, rfl, CU.im im1, C.im im1, cu.sm, cc.sm, cu.fr, cc.fr, hm, bo.nums, by rw [made_len cc.good]; exact Nat.le_trans (makes_le c) (Nat.le_trans cc.few (by decide)), bo.items, fun w H2 k2 CW => ?_⟩
    have g2 := k2 _ _ g1
    refine ⟨_, rfl, p, _, _, _, rfl, g2, T.c_Person, T.n_Person_unsent, (by show 7 < 1000; decide), ?_⟩
    refine q _ (fun b o e n1 => ?_) ⟨w, pl', upd_same, CW.im (im_set g2 rfl), hpl'⟩
    rw [upd_ne n1]
    exact k2 _ _ (k1 _ _ (k0 _ _ e) n1)
/-- what hearing makes of unsent changes and a text -/
def hearU : List Ch → Ch → Ch
  | [], u => u
  | c :: r, u => hearU r (ledC false u c)
def hearT : List Ch → Ch → List Nat → List Nat
  | [], _, t => t
  | c :: r, u, t => hearT r (ledC false u c) (runC (ledC true c u) t)
def hearOk : List Ch → Ch → List Nat → Prop
  | [], u, _ => Cn u
  | c :: r, u, t => Cn c ∧ Cn u ∧ wanted c = wanted u ∧ t.length = makes u ∧ Cn (ledC true c u) ∧ hearOk r (ledC false u c) (runC (ledC true c u) t)
theorem hearU_snoc (l : List Ch) (c u : Ch) : hearU (l ++ [c]) u = ledC false (hearU l u) c := by
  induction l generalizing u with
  | nil => rfl
  | cons x l ih => exact ih _
theorem hearT_snoc (l : List Ch) (c u : Ch) (t : List Nat) : hearT (l ++ [c]) u t = runC (ledC true c (hearU l u)) (hearT l u t) := by
  induction l generalizing u t with
  | nil => rfl
  | cons x l ih => exact ih _ _
theorem hearOk_at {l : List Ch} {u : Ch} {t : List Nat} (h : hearOk l u t) : ∀ {i : Nat} {c : Ch}, l[i]? = some c → Cn c ∧ Cn (hearU (l.take i) u) ∧ wanted c = wanted (hearU (l.take i) u) ∧ (hearT (l.take i) u t).length = makes (hearU (l.take i) u) ∧ Cn (ledC true c (hearU (l.take i) u)) := by
  induction l generalizing u t with
  | nil => intro i c e; cases e
  | cons x l ih =>
    intro i c e
    cases i with
    | zero =>
      cases e
      exact ⟨h.1, h.2.1, h.2.2.1, h.2.2.2.1, h.2.2.2.2.1⟩
    | succ i => exact ih h.2.2.2.2.2 e
theorem hearOk_end : ∀ {l : List Ch} {u : Ch} {t : List Nat}, hearOk l u t → Cn (hearU l u)
  | [], _, _, h => h
  | _ :: l, _, _, h => hearOk_end (l := l) h.2.2.2.2.2

def sc_Person_hearN : List Str := ["self", "many", "change", "mine", "theirs"]
theorem sc_Person_hear : FnScope sc_Person_hearN ["self"] (defScope s_Person_hear) := ⟨rfl, rfl, rfl, by decide +kernel, rfl, by decide +kernel, by decide +kernel⟩
def sp_hear (K : PySem.W.Frag) : Sp := fun vs H Q _ => ∃ (p dx hb : Addr) (nm : Str) (t : List Nat) (hd : Nat) (u : Ch) (dxh lc : Addr) (th : List Nat) (cs : List Ch), vs = [.ref p] ∧ PerAt K H p dx hb nm t hd u ∧ HubAt K H hb dxh lc th cs ∧ p ≠ hb ∧ hd ≤ cs.length ∧ cs.length ≤ 1000 ∧ hearOk (cs.drop hd) u t ∧
  ∀ v H1, (∀ b o, H b = some o → b ≠ p → H1 b = some o) → PerAt K H1 p dx hb nm (hearT (cs.drop hd) u t) cs.length (hearU (cs.drop hd) u) → Q v H1
theorem ok_Person_hear (F : FnP K d_Person_hear fd) (T : Tx K mg) {fdW : FuncData} (FW : FnP K d_wanted fdW) {fdC : FuncData} (FC : FnP K d_changed fdC) {fdS : FuncData} (FS : FnP K d_spelt fdS) {fdN : FuncData} (FN : FnP K d_is_number fdN) {fdV : FuncData} (FV : FnP K d_moved fdV) {fdU : FuncData} (FU : FnP K d_Person_turn fdU) {fdG : FuncData} (FG : FnP K d_grown fdG) {fdB : FuncData} (FB : FnP K d_change_by fdB) {fdL : FuncData} (FL : FnP K d_led fdL) {fdD : FuncData} (FD : FnP K d_beside fdD) {fdHC : FuncData} (FHC : FnP K d_Hub_changes fdHC) : FnOk P w K mg base CX0 5 (He.fAd K d_Person_hear.at_) fd ["self"] (sp_hear K) := by
  have GU : FnOk P w K mg base CX0 3 _ fdU ["self", "change"] (sp_turn K) := ok_Person_turn FU T FW FC FS FN FV
  have GD : FnOk P w K mg base CX0 4 _ fdD ["one", "other"] (sp_beside K) := ok_beside FD T FW FS FG FB FL
  have GHC : FnOk P w K mg base CX0 1 _ fdHC ["self"] (sp_Hub_changes K) := ok_Hub_changes FHC T
  have bU : Binds K fdU ["self", "change"] [] := FU.bindsN fun _ _ _ _ _ _ us hl => match us, hl with | [_, _], _ => rfl
  have bD : Binds K fdD ["one", "other"] [] := FD.bindsN fun _ _ _ _ _ _ us hl => match us, hl with | [_, _], _ => rfl
  have bHC : Binds K fdHC ["self"] [] := FHC.bindsN fun _ _ _ _ _ _ us hl => match us, hl with | [_], _ => rfl
  refine F.ok sc_Person_hear (fun vs H Q E h => ?_) (fun cdv A outer s H vs Q E hr h => ?_)
  · obtain ⟨p, dx, hb, nm, t, hd, u, dxh, lc, th, cs, rfl, ⟨uv, pl, h1, CU, hpl⟩, ⟨h2, vs, h3, h4⟩, nph, hhd, hcs, hok, q⟩ := h
    rfl
  · obtain ⟨p, dx, hb, nm, t, hd, u, dxh, lc, th, cs, rfl, ⟨uv, pl, h1, CU, hpl⟩, ⟨h2, vs, h3, h4⟩, nph, hhd, hcs, hok, q⟩ := h
    have hr1 : Room 1 _ := hr.mono (by decide)
    have hr3 : Room 3 _ := hr.mono (by decide)
    refine ⟨_, PSs.nox (pss_cons (ps_set (i := 1) sc_Person_hear.nd rfl (.inl rfl) pe_int)
  (pss_cons (ps_for PassesOwn.never rfl (pi_list (pe_slice sl_list (pe_meth0 (pe_fld (pv 0) rfl) T.c_Hub T.m_Hub_changes GHC hr1 bHC .nil pass0) (po_some (pe_fld (pv 0) rfl)) po_none)) (pg_name (i := 2) sc_Person_hear.nd rfl (.inl rfl)) (pss_cons (ps_asg (pe_call GD hr (by rfl) T.glo FD.kp bD .nil pass0 (pa_cons (pv 2) (pa_cons (pe_fld (pv 0) rfl) pa_nil))) (pg_tup rfl (pgs_cons (pg_name (i := 3) sc_Person_hear.nd rfl (.inl rfl)) (pgs_cons (pg_name (i := 4) sc_Person_hear.nd rfl (.inl rfl)) pgs_nil))))
  (pss_cons (ps_expr (pe_meth (pv 0) T.c_Person T.m_Person_turn GU hr3 bU .nil pass0 (pa_cons (pv 4) pa_nil)))
  (pss_cons (ps_fld (pv 0) (pv 3) rfl)
  (pss_cons (ps_fldaug (pv 0) pe_int in_add)
  (pss_one (ps_aug (i := 1) sc_Person_hear.nd rfl (.inl rfl) pe_int ip_add)))))))
  (pss_one (ps_ret (pv 1))))), ?_⟩
    have hr1 : Room 1 _ := hr.mono (by decide)
    have hr3 : Room 3 _ := hr.mono (by decide)
    refine ⟨_, rfl, p, _, _, _, _, rfl, h1, T.c_Person, T.n_Person_own_hub, rfl, hb, dxh, _, rfl, h2, rfl, hb, dxh, lc, th, vs, rfl, h2, h3, fun l1 nl1 => ?_⟩
    have k1 := keeps_new (o := .lst vs) nl1
    have h1' := k1 _ _ h1
    refine ⟨_, rfl, p, _, _, _, _, rfl, h1', T.c_Person, T.n_Person_own_heard, rfl, (hd : Int), rfl, l1, vs, rfl, SqL.of upd_same, fun q1 n1 => ?_⟩
    have ecut : cutV vs (some (hd : Int)) none = vs.drop hd := by
      unfold cutV
      rw [HT.sIx_none, HT.sIx_nat, Nat.min_eq_left (by rw [h4.length]; exact hhd)]
      exact List.take_of_length_le (by rw [List.length_drop]; exact Nat.le_refl _)
    rw [ecut]
    have k2 := k1.new (o := .lst (vs.drop hd)) n1
    have h1'' := keeps_new (o := .lst (vs.drop hd)) n1 _ _ h1'
    have nq1 : q1 ≠ p := fun z => by rw [z, h1'] at n1; cases n1
    have hq1 : upd (upd H l1 (.lst vs)) q1 (.lst (vs.drop hd)) q1 = some (.lst (vs.drop hd)) := upd_same
    generalize hH2 : upd (upd H l1 (.lst vs)) q1 (.lst (vs.drop hd)) = H2 at k2 h1'' hq1 ⊢
    have h4' := (h4.drop hd).im k2.im
    refine ⟨q1, rfl, ⟨_, SqL.of hq1⟩, ?_⟩
    refine for_list (xs := vs.drop hd) (fun i σ H' => (∃ w1 w2 w3 w4, σ = [some (.ref p), some (.int w1), w2, w3, w4]) ∧ KB p H2 H' ∧ PerAt K H' p dx hb nm (hearT ((cs.drop hd).take i) u t) (hd + i) (hearU ((cs.drop hd).take i) u))
      ⟨⟨_, _, _, _, rfl⟩, KB.refl _ _, uv, pl, h1'', CU.im k2.im, hpl⟩ (fun i σ H' _ z => SqL.of (z.2.1 _ _ hq1 nq1)) ?_ ?_
    · rintro i x σ H3 hx ⟨⟨w1, w2, w3, w4, rfl⟩, kb, uv3, pl3, h13, CU3, hpl3⟩
      obtain ⟨c, hc, C⟩ := h4'.get hx
      obtain ⟨o1, o2, o3, o4, o5⟩ := hearOk_at hok hc
      have im3 : Im H2 H3 := kb.im h1'' rfl
      have ec : (cs.drop hd).take (i + 1) = (cs.drop hd).take i ++ [c] := by rw [List.take_succ, hc]; rfl
      have C3 := C.im im3
      have lo : LedOut true c (hearU ((cs.drop hd).take i) u) (List.replicate (wanted (hearU ((cs.drop hd).take i) u)) 0) := led_out o1 o2 o3 List.length_replicate
      refine ⟨_, rfl, _, rfl, p, _, _, _, _, rfl, h13, T.c_Person, T.n_Person_unsent, rfl, x, uv3, c, _, rfl, C3, CU3, o1.sm, o2.sm, o1.fr, o2.fr, okLed o2 o1 o3.symm, okLed o1 o2 o3, fun tt u1 u2 H4 k4 ht4 CM CT => ?_⟩
      have h14 := k4 _ _ h13
      refine ⟨tt, _, rfl, SqT.of ht4, rfl, _, _, rfl, _, _, rfl, rfl, ?_⟩
      refine ⟨_, rfl, p, dx, _, rfl, h14, rfl, _, rfl, p, dx, hb, nm, _, _, uv3, pl3, u2, _, rfl, h14, CT, o5.sm, o5.fr, by rw [lo.want]; exact o4, hpl3, fun pl' H5 k5 g5 hpl' => ?_⟩
      have im5 : Im H4 H5 := fun b o e z => k5 b o e fun w => by
        rw [w, h14] at e
        cases e
        cases z
      refine ⟨_, rfl, _, rfl, p, _, _, _, rfl, g5, T.c_Person, T.n_Person_unsent, (by show 7 < 1000; decide), ?_⟩
      have g6 : upd H5 p (.ins (He.ga K "Person") dx (perF hb nm (hearT ((cs.drop hd).take (i + 1)) u t) (hd + i) u1 pl')) p = some (.ins (He.ga K "Person") dx (perF hb nm (hearT ((cs.drop hd).take (i + 1)) u t) (hd + i) u1 pl')) := upd_same
      have eT : hearT ((cs.drop hd).take (i + 1)) u t = runC (ledC true c (hearU ((cs.drop hd).take i) u)) (hearT ((cs.drop hd).take i) u t) := by rw [ec, hearT_snoc]
      rw [eT] at g6
      refine ⟨_, rfl, p, _, _, _, _, rfl, g6, T.c_Person, T.n_Person_own_heard, rfl, _, _, rfl, rfl, _, _, g6, (by show 7 < 1000; decide), ?_⟩
      have im6 := im_set (H := H5) (o := .ins (He.ga K "Person") dx (perF hb nm (runC (ledC true c (hearU ((cs.drop hd).take i) u)) (hearT ((cs.drop hd).take i) u t)) (hd + i) u1 pl')) g5 rfl
      refine ⟨_, rfl, _, _, rfl, rfl, ⟨⟨_, _, _, _, rfl⟩, ?_, ?_⟩⟩
      · intro b o e n
        rw [upd_ne n, upd_ne n]
        exact k5 _ _ (k4 _ _ (kb _ _ e n)) n
      · refine ⟨u1, pl', ?_, ?_, ?_⟩
        · rw [upd_same, eT]
          show _ = some (HO.ins (He.ga K "Person") dx (perF hb nm _ (hd + (i + 1)) u1 pl'))
          rw [← Nat.add_assoc]
          rfl
        · rw [ec, hearU_snoc]
          exact CM.im ((im5.trans im6).trans (im_set g6 rfl))
        · rw [eT]
          exact hpl'
    · rintro σ H3 ⟨⟨w1, w2, w3, w4, rfl⟩, kb, pr⟩
      have el : (vs.drop hd).length = (cs.drop hd).length := (h4.drop hd).length
      rw [el, List.take_length, show hd + (cs.drop hd).length = cs.length by rw [List.length_drop]; omega] at pr
      refine ⟨_, rfl, q _ H3 (fun b o e n => kb _ _ (k2 _ _ e) n) pr⟩
end
end K78
set_option Elab.async false
set_option linter.all false
set_option maxRecDepth 100000
set_option maxHeartbeats 4000000
namespace K78
open PySem PySem.Spec PyProof.Rows L2 SX
section
variable {P : Program} {w : World} {K : PySem.W.Frag} {mg : Str → Option Value} {base : Heap} {fd : FuncData}
theorem eqv_pt {p q : Pt} (h : PyData.eqv p.d q.d = true) : p = q := by
  have kd : (("keep" : Str) == "drop") = false := by decide +kernel
  have kp : (("keep" : Str) == "put") = false := by decide +kernel
  have dk : (("drop" : Str) == "keep") = false := by decide +kernel
  have dp : (("drop" : Str) == "put") = false := by decide +kernel
  have pk : (("put" : Str) == "keep") = false := by decide +kernel
  have pd : (("put" : Str) == "drop") = false := by decide +kernel
  cases p with
  | keep n =>
    cases q with
    | keep m =>
      have h : ((("keep" : Str) == "keep") && (((n : Int) == (m : Int)) && true)) = true := h
      rw [Bool.and_true] at h
      have e := eq_of_beq (Bool.and_eq_true_iff.mp h).2
      congr 1
      omega
    | drop m =>
      have h : ((("keep" : Str) == "drop") && (((n : Int) == (m : Int)) && true)) = true := h
      rw [kd] at h
      cases h
    | put s =>
      have h : ((("keep" : Str) == "put") && (false && true)) = true := h
      rw [kp] at h
      cases h
  | drop n =>
    cases q with
    | drop m =>
      have h : ((("drop" : Str) == "drop") && (((n : Int) == (m : Int)) && true)) = true := h
      rw [Bool.and_true] at h
      have e := eq_of_beq (Bool.and_eq_true_iff.mp h).2
      congr 1
      omega
    | keep m =>
      have h : ((("drop" : Str) == "keep") && (((n : Int) == (m : Int)) && true)) = true := h
      rw [dk] at h
      cases h
    | put s =>
      have h : ((("drop" : Str) == "put") && (false && true)) = true := h
      rw [dp] at h
      cases h
  | put s =>
    cases q with
    | put s2 =>
      have h : ((("put" : Str) == "put") && ((S s == S s2) && true)) = true := h
      rw [Bool.and_true] at h
      have e := eq_of_beq (Bool.and_eq_true_iff.mp h).2
      congr 1
      exact S_inj e
    | keep m =>
      have h : ((("put" : Str) == "keep") && (false && true)) = true := h
      rw [pk] at h
      cases h
    | drop m =>
      have h : ((("put" : Str) == "drop") && (false && true)) = true := h
      rw [pd] at h
      cases h
theorem eqv_pts : ∀ {c c' : Ch}, PyData.eqvAll (c.map Pt.d) (c'.map Pt.d) = true → c = c'
  | [], [], _ => rfl
  | [], _ :: _, h => by cases h
  | _ :: _, [], h => by cases h
  | p :: c, q :: c', h => by
    have h : (PyData.eqv p.d q.d && PyData.eqvAll (c.map Pt.d) (c'.map Pt.d)) = true := h
    obtain ⟨h1, h2⟩ := Bool.and_eq_true_iff.mp h
    rw [eqv_pt h1, eqv_pts h2]

def sc_Person_sendN : List Str := ["self"]
theorem sc_Person_send : FnScope sc_Person_sendN ["self"] (defScope s_Person_send) := ⟨rfl, rfl, rfl, by decide +kernel, rfl, by decide +kernel, by decide +kernel⟩
def sp_send (K : PySem.W.Frag) : Sp := fun vs H Q _ => ∃ (p dx hb : Addr) (nm : Str) (t : List Nat) (hd : Nat) (u : Ch) (dxh lc : Addr) (th : List Nat) (cs : List Ch), vs = [.ref p] ∧ PerAt K H p dx hb nm t hd u ∧ HubAt K H hb dxh lc th cs ∧ p ≠ hb ∧ p ≠ lc ∧ hb ≠ lc ∧ hd ≤ cs.length ∧ cs.length ≤ 999 ∧ hearOk (cs.drop hd) u t ∧
  th.length = wanted (hearU (cs.drop hd) u) ∧ (hearT (cs.drop hd) u t).length ≤ 900 ∧
  (hearU (cs.drop hd) u = nothing (hearT (cs.drop hd) u t).length → ∀ v H1, (∀ b o, H b = some o → b ≠ p → H1 b = some o) → PerAt K H1 p dx hb nm (hearT (cs.drop hd) u t) cs.length (hearU (cs.drop hd) u) → Q v H1) ∧
  (∀ v H1, (∀ b o, H b = some o → b ≠ p → b ≠ hb → b ≠ lc → H1 b = some o) → PerAt K H1 p dx hb nm (hearT (cs.drop hd) u t) (cs.length + 1) (nothing (hearT (cs.drop hd) u t).length) → HubAt K H1 hb dxh lc (runC (hearU (cs.drop hd) u) th) (cs ++ [hearU (cs.drop hd) u]) → Q v H1)
theorem ok_Person_send (F : FnP K d_Person_send fd) (T : Tx K mg) {fdW : FuncData} (FW : FnP K d_wanted fdW) {fdC : FuncData} (FC : FnP K d_changed fdC) {fdS : FuncData} (FS : FnP K d_spelt fdS) {fdN : FuncData} (FN : FnP K d_is_number fdN) {fdV : FuncData} (FV : FnP K d_moved fdV) {fdU : FuncData} (FU : FnP K d_Person_turn fdU) {fdG : FuncData} (FG : FnP K d_grown fdG) {fdB : FuncData} (FB : FnP K d_change_by fdB) {fdL : FuncData} (FL : FnP K d_led fdL) {fdD : FuncData} (FD : FnP K d_beside fdD) {fdHC : FuncData} (FHC : FnP K d_Hub_changes fdHC) {fdHE : FuncData} (FHE : FnP K d_Person_hear fdHE) {fdNT : FuncData} (FNT : FnP K d_change_of_nothing fdNT) {fdTK : FuncData} (FTK : FnP K d_Hub_take fdTK) : FnOk P w K mg base CX0 6 (He.fAd K d_Person_send.at_) fd ["self"] (sp_send K) := by
  have GHE : FnOk P w K mg base CX0 5 _ fdHE ["self"] (sp_hear K) := ok_Person_hear FHE T FW FC FS FN FV FU FG FB FL FD FHC
  have GNT : FnOk P w K mg base CX0 1 _ fdNT ["text"] (sp_change_of_nothing K) := ok_change_of_nothing FNT T
  have GTK : FnOk P w K mg base CX0 3 _ fdTK ["self", "change"] (sp_Hub_take K) := ok_Hub_take FTK T FW FC
  have bHE : Binds K fdHE ["self"] [] := FHE.bindsN fun _ _ _ _ _ _ us hl => match us, hl with | [_], _ => rfl
  have bNT : Binds K fdNT ["text"] [] := FNT.bindsN fun _ _ _ _ _ _ us hl => match us, hl with | [_], _ => rfl
  have bTK : Binds K fdTK ["self", "change"] [] := FTK.bindsN fun _ _ _ _ _ _ us hl => match us, hl with | [_, _], _ => rfl
  refine F.ok sc_Person_send (fun vs H Q E h => ?_) (fun cdv A outer s H vs Q E hr h => ?_)
  · obtain ⟨p, dx, hb, nm, t, hd, u, dxh, lc, th, cs, rfl, P1, H1, nph, npl, nhl, hhd, hcs, hok, hth, hlt, q1, q2⟩ := h
    rfl
  · obtain ⟨p, dx, hb, nm, t, hd, u, dxh, lc, th, cs, rfl, P1, H1, nph, npl, nhl, hhd, hcs, hok, hth, hlt, q1, q2⟩ := h
    have hr1 : Room 1 _ := hr.mono (by decide)
    have hr3 : Room 3 _ := hr.mono (by decide)
    refine ⟨_, PSs.nox (pss_cons (ps_expr (pe_meth0 (pv 0) T.c_Person T.m_Person_hear GHE hr bHE .nil pass0))
  (pss_cons (ps_if (pt_cmpR (op_eqD hr.units) (pe_fld (pv 0) rfl) (pe_call GNT hr1 (by rfl) T.glo FNT.kp bNT .nil pass0 (pa_cons (pe_fld (pv 0) rfl) pa_nil)) (nomark _)) (pss_one (ps_ret pe_bl)) pss_nil)
  (pss_cons (ps_expr (pe_meth (pe_fld (pv 0) rfl) T.c_Hub T.m_Hub_take GTK hr3 bTK .nil pass0 (pa_cons (pe_fld (pv 0) rfl) pa_nil)))
  (pss_cons (ps_fldaug (pv 0) pe_int in_add)
  (pss_cons (ps_fld (pv 0) (pe_call GNT hr1 (by rfl) T.glo FNT.kp bNT .nil pass0 (pa_cons (pe_fld (pv 0) rfl) pa_nil)) rfl)
  (pss_one (ps_ret pe_bl))))))), ?_⟩
    have hr1 : Room 1 _ := hr.mono (by decide)
    have hr3 : Room 3 _ := hr.mono (by decide)
    have P1' := P1
    obtain ⟨uv, pl, h1, CU, hpl⟩ := P1'
    refine ⟨_, rfl, p, dx, _, rfl, h1, rfl, p, dx, hb, nm, t, hd, u, dxh, lc, th, cs, rfl, P1, H1, nph, hhd, by omega, hok, fun v H2 k2 P2 => ?_⟩
    have cn := hearOk_end hok
    generalize hu' : hearU (cs.drop hd) u = u' at *
    generalize ht' : hearT (cs.drop hd) u t = t' at *
    have im2 : Im H H2 := fun b o e z => k2 b o e fun w => by
      rw [w, h1] at e
      cases e
      cases z
    obtain ⟨uv2, pl2, h12, CU2, hpl2⟩ := P2
    obtain ⟨h2, vs, h3, h4⟩ := H1
    refine ⟨_, rfl, p, _, _, _, _, rfl, h12, T.c_Person, T.n_Person_unsent, rfl, _, rfl, p, _, _, _, _, rfl, h12, T.c_Person, T.n_Person_own_text, rfl, t', rfl, by omega, fun nv H3 k3 CN => ?_⟩
    have h13 := k3 _ _ h12
    have CU3 := CU2.im k3.im
    have n3 := nothing_cn hlt
    refine ⟨_, _, CU3.dp, CN.dp, shaped_t cn.ok, shaped_t n3.ok, _, rfl, ?_⟩
    have k23 : ∀ b o, H b = some o → b ≠ p → H3 b = some o := fun b o e n => k3 _ _ (k2 b o e n)
    refine ite2 (fun z => ?_) (fun _ => ?_)
    · exact q1 (eqv_pts z) _ _ k23 ⟨uv2, pl2, h13, CU3, hpl2⟩
    · have im3 : Im H H3 := im2.trans k3.im
      refine ⟨_, rfl, p, _, _, _, _, rfl, h13, T.c_Person, T.n_Person_own_hub, rfl, hb, dxh, _, rfl, k23 _ _ h2 nph.symm, rfl, _, rfl, p, _, _, _, _, rfl, h13, T.c_Person, T.n_Person_unsent, rfl, hb, dxh, lc, th, cs, uv2, u', rfl, ⟨k23 _ _ h2 nph.symm, vs, k23 _ _ h3 npl.symm, h4.im im3⟩, nhl, CU3, cn.sm, hth, by omega, fun H4 k4 HB4 => ?_⟩
      have h14 := k4 _ _ h13 nph npl
      refine ⟨_, rfl, p, _, _, _, _, rfl, h14, T.c_Person, T.n_Person_own_heard, rfl, _, _, rfl, rfl, _, _, h14, (by show 7 < 1000; decide), ?_⟩
      have g5 : upd H4 p (.ins (He.ga K "Person") dx (perF hb nm t' (cs.length + 1) uv2 pl2)) p = some (.ins (He.ga K "Person") dx (perF hb nm t' (cs.length + 1) uv2 pl2)) := upd_same
      refine ⟨_, rfl, p, _, _, _, _, rfl, g5, T.c_Person, T.n_Person_own_text, rfl, t', rfl, by omega, fun nv2 H6 k6 CN2 => ?_⟩
      have g6 := k6 _ _ g5
      refine ⟨_, rfl, p, _, _, _, rfl, g6, T.c_Person, T.n_Person_unsent, (by show 7 < 1000; decide), ?_⟩
      obtain ⟨hb1, ws, hb2, hb3⟩ := HB4
      have im46 : Im H4 (upd H6 p (.ins (He.ga K "Person") dx (perF hb nm t' (cs.length + 1) nv2 pl2))) := ((im_set h14 rfl).trans k6.im).trans (im_set g6 rfl)
      have back : ∀ b o, H4 b = some o → b ≠ p → upd H6 p (.ins (He.ga K "Person") dx (perF hb nm t' (cs.length + 1) nv2 pl2)) b = some o := fun b o e n => by
        rw [upd_ne n]
        refine k6 _ _ ?_
        rw [upd_ne n]
        exact e
      refine q2 _ _ (fun b o e n1 n2 n3 => back _ _ (k4 _ _ (k23 _ _ e n1) n2 n3) n1) ⟨nv2, pl2, upd_same, CN2.im (im_set g6 rfl), hpl2⟩ ⟨back _ _ hb1 nph.symm, ws, back _ _ hb2 npl.symm, hb3.im im46⟩
def sc_Person_initN : List Str := ["self", "hub", "name", "late"]
theorem sc_Person_init : FnScope sc_Person_initN ["self", "hub", "name", "late"] (defScope s_Person_init) := ⟨rfl, rfl, rfl, by decide +kernel, rfl, by decide +kernel, by decide +kernel⟩
def sp_Person_init (K : PySem.W.Frag) : Sp := fun vs H Q _ => ∃ (p dx hb : Addr) (nm : Str) (dxh lc : Addr) (t : List Nat) (cs : List Ch), vs = [.ref p, .ref hb, .str nm, .bl false] ∧ H p = some (.ins (He.ga K "Person") dx []) ∧ HubAt K H hb dxh lc t cs ∧ p ≠ hb ∧ p ≠ lc ∧ okName nm = true ∧ t.length ≤ 900 ∧ cs.length ≤ 1000 ∧
  ∀ H1, (∀ b o, H b = some o → b ≠ p → H1 b = some o) → PerAt K H1 p dx hb nm t cs.length (nothing t.length) → Q .non H1
theorem ok_Person_init (F : FnP K d_Person_init fd) (T : Tx K mg) {fdIN : FuncData} (FIN : FnP K d_is_name fdIN) {fdNT : FuncData} (FNT : FnP K d_change_of_nothing fdNT) {fdHT : FuncData} (FHT : FnP K d_Hub_text fdHT) {fdLN : FuncData} (FLN : FnP K d_Hub_len fdLN) : FnOk P w K mg base CX0 3 (He.fAd K d_Person_init.at_) fd ["self", "hub", "name", "late"] (sp_Person_init K) := by
  have GIN : FnOk P w K mg base CX0 1 _ fdIN ["thing"] sp_is_name := ok_is_name FIN T
  have GNT : FnOk P w K mg base CX0 1 _ fdNT ["text"] (sp_change_of_nothing K) := ok_change_of_nothing FNT T
  have GHT : FnOk P w K mg base CX0 1 _ fdHT ["self"] (sp_Hub_text K) := ok_Hub_text FHT T
  have GLN : FnOk P w K mg base CX0 1 _ fdLN ["self"] (sp_Hub_len K) := ok_Hub_len FLN T
  have bIN : Binds K fdIN ["thing"] [] := FIN.bindsN fun _ _ _ _ _ _ us hl => match us, hl with | [_], _ => rfl
  have bNT : Binds K fdNT ["text"] [] := FNT.bindsN fun _ _ _ _ _ _ us hl => match us, hl with | [_], _ => rfl
  have bHT : Binds K fdHT ["self"] [] := FHT.bindsN fun _ _ _ _ _ _ us hl => match us, hl with | [_], _ => rfl
  have bLN : Binds K fdLN ["self"] [] := FLN.bindsN fun _ _ _ _ _ _ us hl => match us, hl with | [_], _ => rfl
  refine F.ok sc_Person_init (fun vs H Q E h => ?_) (fun cdv A outer s H vs Q E hr h => ?_)
  · obtain ⟨p, dx, hb, nm, dxh, lc, t, cs, rfl, h1, ⟨h2, vs, h3, h4⟩, nph, npl, okn, htl, hcs, q⟩ := h
    rfl
  · obtain ⟨p, dx, hb, nm, dxh, lc, t, cs, rfl, h1, ⟨h2, vs, h3, h4⟩, nph, npl, okn, htl, hcs, q⟩ := h
    have hr1 : Room 1 _ := hr.mono (by decide)
    refine ⟨_, PSs.nox (pss_cons (ps_if (pt_not (pt_val (pe_call GIN hr1 (by rfl) T.glo FIN.kp bIN .nil pass0 (pa_cons (pv 2) pa_nil)))) (pss_one ps_never) pss_nil)
  (pss_cons (ps_fld (pv 0) (pv 1) rfl)
  (pss_cons (ps_fld (pv 0) (pv 2) rfl)
  (pss_cons (ps_fld (pv 0) (pv 3) rfl)
  (pss_cons (ps_fld (pv 0) (pe_meth0 (pv 1) T.c_Hub T.m_Hub_text GHT hr1 bHT .nil pass0) rfl)
  (pss_cons (ps_fld (pv 0) (pe_callB (call_lenO GLN hr bLN T.m_Hub_len.at_ T.m_Hub_len.fn) (by rfl) T.free (by decide +kernel) (pa_cons (pv 1) pa_nil)) rfl)
  (pss_cons (ps_fld (pv 0) (pe_call GNT hr1 (by rfl) T.glo FNT.kp bNT .nil pass0 (pa_cons (pe_fld (pv 0) rfl) pa_nil)) rfl)
  (pss_one (ps_fld (pv 0) pe_int rfl))))))))), ?_⟩
    refine ⟨_, rfl, nm, rfl, okn, fun H1 k1 => ⟨true, rfl, iteF ?_⟩⟩
    have h1' := k1 _ _ h1
    refine ⟨_, rfl, _, rfl, p, _, _, _, rfl, h1', T.c_Person, T.n_Person_own_hub, (by show 0 < 1000; decide), ?_⟩
    have g1 : upd H1 p (.ins (He.ga K "Person") dx [("own_hub", .ref hb)]) p = some (.ins (He.ga K "Person") dx [("own_hub", .ref hb)]) := upd_same
    refine ⟨_, rfl, _, rfl, p, _, _, _, rfl, g1, T.c_Person, T.n_Person_own_name, (by show 1 < 1000; decide), ?_⟩
    have g2 : upd (upd H1 p (.ins (He.ga K "Person") dx [("own_hub", .ref hb)])) p (.ins (He.ga K "Person") dx [("own_hub", .ref hb), ("own_name", .str nm)]) p = some (.ins (He.ga K "Person") dx [("own_hub", .ref hb), ("own_name", .str nm)]) := upd_same
    refine ⟨_, rfl, _, rfl, p, _, _, _, rfl, g2, T.c_Person, T.n_Person_own_late, (by show 2 < 1000; decide), ?_⟩
    have g3 : upd (upd (upd H1 p (.ins (He.ga K "Person") dx [("own_hub", .ref hb)])) p (.ins (He.ga K "Person") dx [("own_hub", .ref hb), ("own_name", .str nm)])) p (.ins (He.ga K "Person") dx [("own_hub", .ref hb), ("own_name", .str nm), ("own_late", .bl false)]) p = some (.ins (He.ga K "Person") dx [("own_hub", .ref hb), ("own_name", .str nm), ("own_late", .bl false)]) := upd_same
    have e3 : upd (upd (upd H1 p (.ins (He.ga K "Person") dx [("own_hub", .ref hb)])) p (.ins (He.ga K "Person") dx [("own_hub", .ref hb), ("own_name", .str nm)])) p (.ins (He.ga K "Person") dx [("own_hub", .ref hb), ("own_name", .str nm), ("own_late", .bl false)]) = upd H1 p (.ins (He.ga K "Person") dx [("own_hub", .ref hb), ("own_name", .str nm), ("own_late", .bl false)]) := funext fun b => by
      by_cases hb' : b = p
      · rw [hb', upd_same, upd_same]
      · rw [upd_ne hb', upd_ne hb', upd_ne hb', upd_ne hb']
    have hH3 : ∀ b o, H b = some o → b ≠ p → upd (upd (upd H1 p (.ins (He.ga K "Person") dx [("own_hub", .ref hb)])) p (.ins (He.ga K "Person") dx [("own_hub", .ref hb), ("own_name", .str nm)])) p (.ins (He.ga K "Person") dx [("own_hub", .ref hb), ("own_name", .str nm), ("own_late", .bl false)]) b = some o := fun b o e n => by
      rw [upd_ne n, upd_ne n, upd_ne n]
      exact k1 _ _ e
    refine ⟨_, rfl, hb, dxh, _, rfl, hH3 _ _ h2 nph.symm, rfl, hb, dxh, lc, t, rfl, hH3 _ _ h2 nph.symm, ?_⟩
    refine ⟨_, rfl, p, _, _, _, rfl, g3, T.c_Person, T.n_Person_own_text, (by show 3 < 1000; decide), ?_⟩
    have im4 : Im H (upd (upd (upd (upd H1 p (.ins (He.ga K "Person") dx [("own_hub", .ref hb)])) p (.ins (He.ga K "Person") dx [("own_hub", .ref hb), ("own_name", .str nm)])) p (.ins (He.ga K "Person") dx [("own_hub", .ref hb), ("own_name", .str nm), ("own_late", .bl false)])) p (.ins (He.ga K "Person") dx [("own_hub", .ref hb), ("own_name", .str nm), ("own_late", .bl false), ("own_text", .str (S t))])) := (((k1.im.set h1' rfl).set g1 rfl).set g2 rfl).set g3 rfl
    have hH4 : ∀ b o, H b = some o → b ≠ p → upd (upd (upd (upd H1 p (.ins (He.ga K "Person") dx [("own_hub", .ref hb)])) p (.ins (He.ga K "Person") dx [("own_hub", .ref hb), ("own_name", .str nm)])) p (.ins (He.ga K "Person") dx [("own_hub", .ref hb), ("own_name", .str nm), ("own_late", .bl false)])) p (.ins (He.ga K "Person") dx [("own_hub", .ref hb), ("own_name", .str nm), ("own_late", .bl false), ("own_text", .str (S t))]) b = some o := fun b o e n => by
      rw [upd_ne n]
      exact hH3 _ _ e n
    have g4 : upd (upd (upd (upd H1 p (.ins (He.ga K "Person") dx [("own_hub", .ref hb)])) p (.ins (He.ga K "Person") dx [("own_hub", .ref hb), ("own_name", .str nm)])) p (.ins (He.ga K "Person") dx [("own_hub", .ref hb), ("own_name", .str nm), ("own_late", .bl false)])) p (.ins (He.ga K "Person") dx [("own_hub", .ref hb), ("own_name", .str nm), ("own_late", .bl false), ("own_text", .str (S t))]) p = some (.ins (He.ga K "Person") dx [("own_hub", .ref hb), ("own_name", .str nm), ("own_late", .bl false), ("own_text", .str (S t))]) := upd_same
    refine ⟨_, rfl, hb, dxh, _, rfl, hH4 _ _ h2 nph.symm, hb, dxh, lc, t, cs, rfl, ⟨hH4 _ _ h2 nph.symm, vs, hH4 _ _ h3 npl.symm, h4.im im4⟩, cs.length, rfl, Nat.le_of_lt (small (by omega)), ?_⟩
    refine ⟨_, rfl, p, _, _, _, rfl, g4, T.c_Person, T.n_Person_own_heard, (by show 4 < 1000; decide), ?_⟩
    have g5 : upd (upd (upd (upd (upd H1 p (.ins (He.ga K "Person") dx [("own_hub", .ref hb)])) p (.ins (He.ga K "Person") dx [("own_hub", .ref hb), ("own_name", .str nm)])) p (.ins (He.ga K "Person") dx [("own_hub", .ref hb), ("own_name", .str nm), ("own_late", .bl false)])) p (.ins (He.ga K "Person") dx [("own_hub", .ref hb), ("own_name", .str nm), ("own_late", .bl false), ("own_text", .str (S t))])) p (.ins (He.ga K "Person") dx [("own_hub", .ref hb), ("own_name", .str nm), ("own_late", .bl false), ("own_text", .str (S t)), ("own_heard", .int (cs.length : Nat))]) p = some (.ins (He.ga K "Person") dx [("own_hub", .ref hb), ("own_name", .str nm), ("own_late", .bl false), ("own_text", .str (S t)), ("own_heard", .int (cs.length : Nat))]) := upd_same
    refine ⟨_, rfl, p, _, _, _, _, rfl, g5, T.c_Person, T.n_Person_own_text, rfl, t, rfl, by omega, fun nv H5 k5 CN => ?_⟩
    have g5' := k5 _ _ g5
    refine ⟨_, rfl, p, _, _, _, rfl, g5', T.c_Person, T.n_Person_unsent, (by show 5 < 1000; decide), ?_⟩
    have g6 : upd H5 p (.ins (He.ga K "Person") dx [("own_hub", .ref hb), ("own_name", .str nm), ("own_late", .bl false), ("own_text", .str (S t)), ("own_heard", .int (cs.length : Nat)), ("unsent", nv)]) p = some (.ins (He.ga K "Person") dx [("own_hub", .ref hb), ("own_name", .str nm), ("own_late", .bl false), ("own_text", .str (S t)), ("own_heard", .int (cs.length : Nat)), ("unsent", nv)]) := upd_same
    refine ⟨_, rfl, p, _, _, _, rfl, g6, T.c_Person, T.n_Person_own_place, (by show 6 < 1000; decide), ?_⟩
    refine q _ (fun b o e n => ?_) ⟨nv, 0, upd_same, CN.im ((im_set g5' rfl).trans (im_set g6 rfl)), Nat.zero_le _⟩
    rw [upd_ne n, upd_ne n]
    refine k5 _ _ ?_
    rw [upd_ne n]
    exact hH4 _ _ e n
end
end K78
set_option Elab.async false
set_option linter.all false
set_option maxRecDepth 100000
set_option maxHeartbeats 1000000
namespace K78
open PySem PySem.Spec PyProof.Rows L2 SX
/-! ### which signs a change puts -/
def PSg (c : Ch) (x : Nat) : Prop := ∃ s, Pt.put s ∈ c ∧ x ∈ s
theorem psg_us {c : Ch} {x : Nat} : PSg c x ↔ U.P x ∈ us c := by
  constructor
  · rintro ⟨s, h1, h2⟩
    exact List.mem_flatMap.mpr ⟨_, h1, List.mem_map.mpr ⟨x, h2, rfl⟩⟩
  · intro h
    obtain ⟨p, h1, h2⟩ := List.mem_flatMap.mp h
    cases p with
    | keep n => cases (List.mem_replicate.mp h2).2
    | drop n => cases (List.mem_replicate.mp h2).2
    | put s =>
      obtain ⟨y, hy, e⟩ := List.mem_map.mp h2
      cases e
      exact ⟨s, h1, hy⟩
theorem putT_psg {c : Ch} {i x : Nat} (h : x ∈ putT c i) : PSg c x := by
  have key : ∀ (c : Ch) (k : Nat), ∀ q ∈ putsGo k c, Pt.put q.2 ∈ c := fun c => by
    induction c with
    | nil => exact fun k q hq => (List.not_mem_nil hq).elim
    | cons p c ih =>
      intro k q hq
      cases p with
      | keep n => exact List.mem_cons_of_mem _ (ih _ q hq)
      | drop n => exact List.mem_cons_of_mem _ (ih _ q hq)
      | put s =>
        rcases List.mem_cons.mp hq with rfl | hq
        · exact List.mem_cons_self
        · exact List.mem_cons_of_mem _ (ih _ q hq)
  unfold putT putAt at h
  cases e : (putsOf c).find? fun q => decide (q.1 = i) with
  | none => rw [e] at h; exact (List.not_mem_nil h).elim
  | some q =>
    rw [e] at h
    exact ⟨q.2, key c 0 q (List.mem_of_find?_eq_some e), h⟩
theorem uItems_P (m x : Nat) : ∀ (items : List Itm) (past : Nat), U.P x ∈ uItems m past items → ∃ s, Itm.txt s ∈ items ∧ x ∈ s
  | [], _, h => (List.not_mem_nil h).elim
  | .txt s :: r, past, h => by
    rcases List.mem_append.mp h with h | h
    · obtain ⟨y, hy, e⟩ := List.mem_map.mp h
      cases e
      exact ⟨s, List.mem_cons_self, hy⟩
    · obtain ⟨s2, h1, h2⟩ := uItems_P m x r past h
      exact ⟨s2, List.mem_cons_of_mem _ h1, h2⟩
  | .num i :: r, past, h => by
    rcases List.mem_append.mp h with h | h
    · cases (List.mem_replicate.mp h).2
    · rcases List.mem_append.mp h with h | h
      · split at h
        · cases List.mem_singleton.mp h
        · exact (List.not_mem_nil h).elim
      · obtain ⟨s2, h1, h2⟩ := uItems_P m x r (i + 1) h
        exact ⟨s2, List.mem_cons_of_mem _ h1, h2⟩
theorem psg_changeBy {m : Nat} {items : List Itm} {x : Nat} (h : PSg (changeBy m items) x) : ∃ s, Itm.txt s ∈ items ∧ x ∈ s := by
  rw [psg_us, us_changeBy] at h
  obtain ⟨s, h1, h2⟩ := uItems_P m x _ 0 h
  rcases List.mem_append.mp h1 with h1 | h1
  · exact ⟨s, h1, h2⟩
  · cases List.mem_singleton.mp h1
theorem psg_led {ah : Bool} {c1 c2 : Ch} {x : Nat} (h : PSg (ledC ah c1 c2) x) : PSg c1 x := by
  obtain ⟨s, h1, h2⟩ := psg_changeBy h
  obtain ⟨i, _, hi⟩ := List.mem_flatMap.mp h1
  have own : ∀ s, Itm.txt s ∈ ownAt c1 i → x ∈ s → PSg c1 x := fun s hs hx => by
    have : x ∈ onAll [] (ownAt c1 i) := List.mem_flatMap.mpr ⟨_, hs, hx⟩
    rw [on_own] at this
    exact putT_psg this
  have num : Itm.txt s ∉ nums (manyAt c2 i) (putT c2 i).length := fun z => by
    obtain ⟨j, _, hj⟩ := List.mem_map.mp z
    cases hj
  unfold ledAt at hi
  rcases List.mem_append.mp hi with hi | hi
  · split at hi
    · rcases List.mem_append.mp hi with hi | hi
      · exact own s hi h2
      · exact absurd hi num
    · rcases List.mem_append.mp hi with hi | hi
      · exact absurd hi num
      · exact own s hi h2
  · split at hi
    · cases List.mem_singleton.mp hi
    · exact (List.not_mem_nil hi).elim
theorem made_psg {c : Ch} {s : List Nat} {x : Nat} (h : Itm.txt s ∈ made c) (hx : x ∈ s) : PSg c x := by
  obtain ⟨i, _, hi⟩ := List.mem_flatMap.mp h
  unfold atPlace at hi
  rcases List.mem_append.mp hi with hi | hi
  · obtain ⟨q, hq, e⟩ := List.mem_map.mp hi
    cases e
    rw [List.mem_singleton.mp hx]
    exact putT_psg hq
  · split at hi
    · cases List.mem_singleton.mp hi
    · exact (List.not_mem_nil hi).elim
theorem psg_beh {m : Nat} {c1 c2 : Ch} {x : Nat} (h : PSg (changeBy m (behI c1 c2)) x) : PSg c1 x ∨ PSg c2 x := by
  obtain ⟨s, h1, h2⟩ := psg_changeBy h
  obtain ⟨y, hy, e⟩ := List.mem_map.mp h1
  cases y with
  | txt s' => cases e; exact .inr (made_psg hy h2)
  | num j =>
    have e : ((made c1)[j]?).getD (.num 0) = .txt s := e
    cases z : (made c1)[j]? with
    | none => rw [z] at e; cases e
    | some w =>
      rw [z] at e
      have e : w = .txt s := e
      rw [e] at z
      exact .inl (made_psg (List.mem_of_getElem? z) h2)
theorem psg_plain {a g n : Nat} {come : List Nat} {m x : Nat} (h : PSg (changeBy m (plainI a g n come)) x) : x ∈ come := by
  obtain ⟨s, h1, h2⟩ := psg_changeBy h
  unfold plainI at h1
  rcases List.mem_append.mp h1 with h1 | h1
  · rcases List.mem_append.mp h1 with h1 | h1
    · obtain ⟨j, _, hj⟩ := List.mem_map.mp h1
      cases hj
    · cases List.mem_singleton.mp h1
      exact h2
  · obtain ⟨j, _, hj⟩ := List.mem_map.mp h1
    cases hj
theorem psg_nothing {n x : Nat} : ¬ PSg (nothing n) x := by
  rintro ⟨s, h1, _⟩
  unfold nothing at h1
  split at h1
  · exact List.not_mem_nil h1
  · cases List.mem_singleton.mp h1
/-- what c puts isn't in t -/
def Dsj (c : Ch) (t : List Nat) : Prop := ∀ x, PSg c x → x ∉ t
/-! ### what two changes make, as texts -/
theorem nodup_filters {l : List Nat} {p : Nat → Bool} (h1 : (l.filter p).Nodup) (h2 : (l.filter fun x => !p x).Nodup) : l.Nodup := by
  induction l with
  | nil => exact List.nodup_nil
  | cons x l ih =>
    rw [List.filter_cons] at h1 h2
    cases e : p x with
    | true =>
      rw [e, if_pos rfl] at h1
      rw [e, if_neg (by decide)] at h2
      obtain ⟨a, b⟩ := List.nodup_cons.mp h1
      exact List.nodup_cons.mpr ⟨fun z => a (List.mem_filter.mpr ⟨z, e⟩), ih b h2⟩
    | false =>
      rw [e, if_neg (by decide)] at h1
      rw [e, if_pos (by decide)] at h2
      obtain ⟨a, b⟩ := List.nodup_cons.mp h2
      exact List.nodup_cons.mpr ⟨fun z => a (List.mem_filter.mpr ⟨z, by rw [e]; rfl⟩), ih h1 b⟩
theorem flat_sub (n : Nat) {f g : Nat → List Nat} (h : ∀ i, i < n → (f i).Sublist (g i)) : ((List.range n).flatMap f).Sublist ((List.range n).flatMap g) := by
  induction n with
  | zero => exact List.Sublist.refl _
  | succ n ih =>
    rw [List.range_succ, List.flatMap_append, List.flatMap_append, List.flatMap_cons, List.flatMap_nil, List.append_nil, List.flatMap_cons, List.flatMap_nil, List.append_nil]
    exact (ih fun i hi => h i (Nat.lt_succ_of_lt hi)).append (h n (Nat.lt_succ_self n))
theorem filter_flat (n : Nat) (f : Nat → List Nat) (p : Nat → Bool) : ((List.range n).flatMap f).filter p = (List.range n).flatMap fun i => (f i).filter p := by
  induction n with
  | zero => rfl
  | succ n ih => rw [List.range_succ, List.flatMap_append, List.filter_append, ih, List.flatMap_append]; simp
def mem (l : List Nat) : Nat → Bool := fun x => decide (x ∈ l)
theorem filter_all {l : List Nat} {p : Nat → Bool} (h : ∀ x ∈ l, p x = true) : l.filter p = l := List.filter_eq_self.mpr h
theorem filter_no {l : List Nat} {p : Nat → Bool} (h : ∀ x ∈ l, p x = false) : l.filter p = [] := List.filter_eq_nil_iff.mpr fun x hx => by rw [h x hx]; exact Bool.false_ne_true
structure Mr (T A B R : List Nat) : Prop where
  inT : ∀ x, x ∈ T → (x ∈ R ↔ x ∈ A ∧ x ∈ B)
  outT : ∀ x, x ∉ T → (x ∈ R ↔ x ∈ A ∨ x ∈ B)
  subA : (R.filter (mem A)).Sublist A
  subB : (R.filter (mem B)).Sublist B
  nd : R.Nodup
theorem mem_run {c : Ch} {t : List Nat} (h : Good c) (hl : t.length = wanted c) {x : Nat} : x ∈ runC c t ↔ (∃ i, i < wanted c + 1 ∧ x ∈ putT c i) ∨ ∃ i : Nat, (stays c)[i]? = some true ∧ t[i]? = some x := by
  rw [run_places h hl]
  constructor
  · intro hx
    obtain ⟨i, hi, hx⟩ := List.mem_flatMap.mp hx
    rcases List.mem_append.mp hx with hx | hx
    · exact .inl ⟨i, List.mem_range.mp hi, hx⟩
    · split at hx
      · rename_i hs
        cases e : t[i]? with
        | none => rw [e] at hx; exact (List.not_mem_nil hx).elim
        | some y =>
          rw [e] at hx
          rw [List.mem_singleton.mp hx]
          exact .inr ⟨i, hs, e⟩
      · exact (List.not_mem_nil hx).elim
  · rintro (⟨i, hi, hx⟩ | ⟨i, hs, ht⟩)
    · exact List.mem_flatMap.mpr ⟨i, List.mem_range.mpr hi, List.mem_append_left _ hx⟩
    · have hi : i < wanted c := by rw [← stays_len]; exact (List.getElem?_eq_some_iff.mp hs).1
      refine List.mem_flatMap.mpr ⟨i, List.mem_range.mpr (by omega), List.mem_append_right _ ?_⟩
      rw [if_pos hs, ht]
      exact List.mem_singleton.mpr rfl
theorem mem_mrg {c u : Ch} {t : List Nat} (hw : wanted c = wanted u) {x : Nat} : x ∈ mrg true c u t ↔ (∃ i, i < wanted c + 1 ∧ x ∈ putT c i) ∨ (∃ i, i < wanted u + 1 ∧ x ∈ putT u i) ∨ ∃ i : Nat, (stays u)[i]? = some true ∧ (stays c)[i]? = some true ∧ t[i]? = some x := by
  unfold mrg mrgAt
  constructor
  · intro hx
    obtain ⟨i, hi, hx⟩ := List.mem_flatMap.mp hx
    rw [if_pos rfl] at hx
    rcases List.mem_append.mp hx with hx | hx
    · rcases List.mem_append.mp hx with hx | hx
      · exact .inl ⟨i, List.mem_range.mp hi, hx⟩
      · exact .inr (.inl ⟨i, by rw [← hw]; exact List.mem_range.mp hi, hx⟩)
    · split at hx
      · rename_i hs
        cases e : t[i]? with
        | none => rw [e] at hx; exact (List.not_mem_nil hx).elim
        | some y =>
          rw [e] at hx
          rw [List.mem_singleton.mp hx]
          exact .inr (.inr ⟨i, hs.1, hs.2, e⟩)
      · exact (List.not_mem_nil hx).elim
  · rintro (⟨i, hi, hx⟩ | ⟨i, hi, hx⟩ | ⟨i, h1, h2, ht⟩)
    · refine List.mem_flatMap.mpr ⟨i, List.mem_range.mpr hi, ?_⟩
      rw [if_pos rfl]
      exact List.mem_append_left _ (List.mem_append_left _ hx)
    · refine List.mem_flatMap.mpr ⟨i, List.mem_range.mpr (by rw [hw]; exact hi), ?_⟩
      rw [if_pos rfl]
      exact List.mem_append_left _ (List.mem_append_right _ hx)
    · have hi : i < wanted c := by rw [← stays_len]; exact (List.getElem?_eq_some_iff.mp h2).1
      refine List.mem_flatMap.mpr ⟨i, List.mem_range.mpr (by omega), List.mem_append_right _ ?_⟩
      rw [if_pos ⟨h1, h2⟩, ht]
      exact List.mem_singleton.mpr rfl
theorem idx_one {t : List Nat} (h : t.Nodup) {i j x : Nat} (h1 : t[i]? = some x) (h2 : t[j]? = some x) : i = j := by
  obtain ⟨a, e1⟩ := List.getElem?_eq_some_iff.mp h1
  exact (List.getElem?_inj a h).mp (h1.trans h2.symm)
/-- what both make of a text, where what u puts is in none -/
theorem mr_of {c u : Ch} {t : List Nat} (hc : Good c) (hu : Good u) (lc : t.length = wanted c) (lu : t.length = wanted u) (dc : Dsj c t) (du : Dsj u t) (nt : t.Nodup) (na : (runC c t).Nodup) (nb : (runC u t).Nodup) (own : ∀ x, x ∈ runC u t → x ∉ t → x ∉ runC c t) :
    Mr t (runC c t) (runC u t) (mrg true c u t) := by
  have hw : wanted c = wanted u := lc.symm.trans lu
  have pA : ∀ {i x}, i < wanted c + 1 → x ∈ putT c i → x ∈ runC c t := fun hi hx => (mem_run hc lc).mpr (.inl ⟨_, hi, hx⟩)
  have pB : ∀ {i x}, i < wanted u + 1 → x ∈ putT u i → x ∈ runC u t := fun hi hx => (mem_run hu lu).mpr (.inl ⟨_, hi, hx⟩)
  have cT : ∀ {i x}, x ∈ putT c i → x ∉ t := fun hx => dc _ (putT_psg hx)
  have uT : ∀ {i x}, x ∈ putT u i → x ∉ t := fun hx => du _ (putT_psg hx)
  have uA : ∀ {i x}, i < wanted u + 1 → x ∈ putT u i → x ∉ runC c t := fun hi hx => own _ (pB hi hx) (uT hx)
  have cB : ∀ {i x}, i < wanted c + 1 → x ∈ putT c i → x ∉ runC u t := fun hi hx hb => own _ hb (cT hx) (pA hi hx)
  have tA : ∀ {x}, x ∈ t → (x ∈ runC c t ↔ ∃ i : Nat, (stays c)[i]? = some true ∧ t[i]? = some x) := fun hx => by
    rw [mem_run hc lc]
    exact ⟨fun h => h.elim (fun ⟨i, _, z⟩ => absurd hx (cT z)) id, .inr⟩
  have tB : ∀ {x}, x ∈ t → (x ∈ runC u t ↔ ∃ i : Nat, (stays u)[i]? = some true ∧ t[i]? = some x) := fun hx => by
    rw [mem_run hu lu]
    exact ⟨fun h => h.elim (fun ⟨i, _, z⟩ => absurd hx (uT z)) id, .inr⟩
  have sA : ((mrg true c u t).filter (mem (runC c t))).Sublist (runC c t) := by
    unfold mrg
    rw [filter_flat]
    conv => rhs; rw [run_places hc lc]
    refine flat_sub _ fun i hi => ?_
    unfold mrgAt plT
    rw [if_pos rfl, List.filter_append, List.filter_append, filter_all (l := putT c i) (p := mem (runC c t)) fun x hx => decide_eq_true (pA hi hx), filter_no (l := putT u i) (p := mem (runC c t)) fun x hx => decide_eq_false (uA (by omega) hx), List.append_nil]
    refine (List.Sublist.refl _).append ?_
    by_cases h : (stays u)[i]? = some true ∧ (stays c)[i]? = some true
    · rw [if_pos h, if_pos h.2]
      exact List.filter_sublist
    · rw [if_neg h]
      exact List.nil_sublist _
  have sB : ((mrg true c u t).filter (mem (runC u t))).Sublist (runC u t) := by
    unfold mrg
    rw [filter_flat]
    conv => rhs; rw [run_places hu lu, ← hw]
    refine flat_sub _ fun i hi => ?_
    unfold mrgAt plT
    rw [if_pos rfl, List.filter_append, List.filter_append, filter_no (l := putT c i) (p := mem (runC u t)) fun x hx => decide_eq_false (cB hi hx), filter_all (l := putT u i) (p := mem (runC u t)) fun x hx => decide_eq_true (pB (by omega) hx), List.nil_append]
    refine (List.Sublist.refl _).append ?_
    by_cases h : (stays u)[i]? = some true ∧ (stays c)[i]? = some true
    · rw [if_pos h, if_pos h.1]
      exact List.filter_sublist
    · rw [if_neg h]
      exact List.nil_sublist _
  have inT : ∀ x, x ∈ t → (x ∈ mrg true c u t ↔ x ∈ runC c t ∧ x ∈ runC u t) := fun x hx => by
    rw [mem_mrg hw, tA hx, tB hx]
    constructor
    · rintro (⟨i, _, z⟩ | ⟨i, _, z⟩ | ⟨i, z1, z2, z3⟩)
      · exact absurd hx (cT z)
      · exact absurd hx (uT z)
      · exact ⟨⟨i, z2, z3⟩, ⟨i, z1, z3⟩⟩
    · rintro ⟨⟨i, a1, a2⟩, ⟨j, b1, b2⟩⟩
      have := idx_one nt a2 b2
      subst this
      exact .inr (.inr ⟨i, b1, a1, a2⟩)
  have outT : ∀ x, x ∉ t → (x ∈ mrg true c u t ↔ x ∈ runC c t ∨ x ∈ runC u t) := fun x hx => by
    have nt' : ∀ {i}, t[i]? ≠ some x := fun z => hx (List.mem_of_getElem? z)
    rw [mem_mrg hw, mem_run hc lc, mem_run hu lu]
    constructor
    · rintro (z | z | ⟨i, _, _, z⟩)
      · exact .inl (.inl z)
      · exact .inr (.inl z)
      · exact absurd z nt'
    · rintro ((z | ⟨i, _, z⟩) | (z | ⟨i, _, z⟩))
      · exact .inl z
      · exact absurd z nt'
      · exact .inr (.inl z)
      · exact absurd z nt'
  refine ⟨inT, outT, sA, sB, nodup_filters (p := mem (runC c t)) (sA.nodup na) ?_⟩
  have e : (mrg true c u t).filter (fun x => !mem (runC c t) x) = ((mrg true c u t).filter (mem (runC u t))).filter (fun x => !mem (runC c t) x) := by
    rw [List.filter_filter]
    refine List.filter_congr fun x hx => ?_
    cases ha : mem (runC c t) x with
    | true => rfl
    | false =>
      have ha : x ∉ runC c t := of_decide_eq_false ha
      have hb : x ∈ runC u t := by
        by_cases hxt : x ∈ t
        · exact ((inT x hxt).mp hx).2
        · exact ((outT x hxt).mp hx).resolve_left ha
      have : mem (runC u t) x = true := decide_eq_true hb
      rw [this]
      rfl
  rw [e]
  exact (List.filter_sublist.trans sB).nodup nb
end K78
set_option Elab.async false
set_option linter.all false
set_option maxRecDepth 100000
set_option maxHeartbeats 1000000
namespace K78
open PySem PySem.Spec PyProof.Rows L2 SX
structure PS where
  t : List Nat
  hd : Nat
  u : Ch
/-- the hub's text behind k changes -/
def hT (first : List Nat) (cs : List Ch) (k : Nat) : List Nat := (cs.take k).foldl (fun t c => runC c t) first
theorem hT_succ {first : List Nat} {cs : List Ch} {k : Nat} {c : Ch} (h : cs[k]? = some c) : hT first cs (k + 1) = runC c (hT first cs k) := by
  unfold hT
  rw [List.take_succ, h, List.foldl_append]
  rfl
theorem hT_app {first : List Nat} {cs : List Ch} {c : Ch} {k : Nat} (h : k ≤ cs.length) : hT first (cs ++ [c]) k = hT first cs k := by
  unfold hT
  rw [List.take_append_of_le_length h]
theorem hT_end {first : List Nat} {cs : List Ch} {c : Ch} : hT first (cs ++ [c]) (cs.length + 1) = runC c (hT first cs cs.length) := by
  have h : (cs ++ [c])[cs.length]? = some c := by simp
  rw [hT_succ h, hT_app (Nat.le_refl _)]
/-- a sign that a person has put and not sent -/
def Own (first : List Nat) (cs : List Ch) (P : PS) (x : Nat) : Prop := x ∈ P.t ∧ x ∉ hT first cs P.hd
/-- one that no one has dropped -/
def Live (first : List Nat) (cs : List Ch) (ps : List PS) (x : Nat) : Prop := (x ∈ hT first cs cs.length ∧ ∀ P ∈ ps, x ∈ hT first cs P.hd → x ∈ P.t) ∨ ∃ P ∈ ps, Own first cs P x
structure PerOk (first : List Nat) (cs : List Ch) (P : PS) : Prop where
  hd : P.hd ≤ cs.length
  cn : Cn P.u
  want : wanted P.u = (hT first cs P.hd).length
  run : P.t = runC P.u (hT first cs P.hd)
  dsj : Dsj P.u (hT first cs P.hd)
  nd : P.t.Nodup
structure J (first : List Nat) (cs : List Ch) (ps : List PS) (left : List Nat) (puts : List (List Nat)) (dr : List Nat) : Prop where
  c1 : ∀ c ∈ cs, Cn c
  c2 : ∀ k c, cs[k]? = some c → wanted c = (hT first cs k).length ∧ Dsj c (hT first cs k)
  per : ∀ P ∈ ps, PerOk first cs P
  n1 : ∀ k, k ≤ cs.length → (hT first cs k).Nodup
  conv : ∀ j k l x, j ≤ k → k ≤ l → l ≤ cs.length → x ∈ hT first cs j → x ∈ hT first cs l → x ∈ hT first cs k
  own : ∀ P ∈ ps, ∀ x, Own first cs P x → ∀ k, k ≤ cs.length → x ∉ hT first cs k
  own2 : ∀ (i j : Nat) (P Q : PS) x, ps[i]? = some P → ps[j]? = some Q → i ≠ j → Own first cs P x → x ∉ Q.t
  subH : ∀ k x, k ≤ cs.length → x ∈ hT first cs k → x ∈ first ++ puts.flatten
  subP : ∀ P ∈ ps, ∀ x ∈ P.t, x ∈ first ++ puts.flatten
  all : ((first ++ puts.flatten) ++ left).Nodup
  few : ((first ++ puts.flatten) ++ left).length ≤ 80
  ok : ∀ x ∈ (first ++ puts.flatten) ++ left, x < 128
  live : ∀ x ∈ first ++ puts.flatten, x ∉ dr ↔ Live first cs ps x
  drs : ∀ x ∈ dr, x ∈ first ++ puts.flatten
  ordH : ∀ s ∈ first :: puts, ∀ k, k ≤ cs.length → ((hT first cs k).filter (mem s)).Sublist s
  ordP : ∀ s ∈ first :: puts, ∀ P ∈ ps, (P.t.filter (mem s)).Sublist s
  excl : ∀ s ∈ first :: puts, (∀ k, k ≤ cs.length → ∀ x ∈ s, x ∉ hT first cs k) ∨ ∀ P ∈ ps, ∀ x ∈ s, ¬ Own first cs P x
  one : ∀ s ∈ first :: puts, ∀ (i j : Nat) (P Q : PS) x y, ps[i]? = some P → ps[j]? = some Q → x ∈ s → y ∈ s → Own first cs P x → Own first cs Q y → i = j
section
variable {first : List Nat} {cs : List Ch} {ps : List PS} {left : List Nat} {puts : List (List Nat)} {dr : List Nat}
theorem len_sub : ∀ {l m : List Nat}, l.Nodup → (∀ x ∈ l, x ∈ m) → l.length ≤ m.length
  | [], m, _, _ => Nat.zero_le _
  | x :: l, m, h, s => by
    obtain ⟨h1, h2⟩ := List.nodup_cons.mp h
    have hx := s x List.mem_cons_self
    have z := len_sub (l := l) (m := m.erase x) h2 fun y hy => (List.mem_erase_of_ne (fun e : y = x => h1 (by rw [← e]; exact hy))).mpr (s y (List.mem_cons_of_mem _ hy))
    rw [List.length_erase_of_mem hx] at z
    have := List.length_pos_of_mem hx
    show l.length + 1 ≤ m.length
    omega
theorem psg_run {x : Nat} : ∀ {c : Ch} (t : List Nat), PSg c x → x ∈ runC c t
  | [], t, h => by
    obtain ⟨s, h1, _⟩ := h
    exact (List.not_mem_nil h1).elim
  | p :: c, t, h => by
    obtain ⟨s, h1, h2⟩ := h
    rcases List.mem_cons.mp h1 with e | h1
    · subst e
      exact List.mem_append_left _ h2
    · have h : PSg c x := ⟨s, h1, h2⟩
      cases p with
      | keep n => exact List.mem_append_right _ (psg_run _ h)
      | drop n => exact psg_run (t.drop n) h
      | put s2 => exact List.mem_append_right _ (psg_run t h)
theorem J.hlen (j : J first cs ps left puts dr) {k : Nat} (h : k ≤ cs.length) : (hT first cs k).length ≤ 80 := by
  have a := len_sub (m := first ++ puts.flatten) (j.n1 k h) fun x hx => j.subH k x h hx
  have b := j.few
  rw [List.length_append] at b
  omega
theorem J.plen (j : J first cs ps left puts dr) {P : PS} (h : P ∈ ps) : P.t.length ≤ 80 := by
  have a := len_sub (m := first ++ puts.flatten) (j.per P h).nd fun x hx => j.subP P h x hx
  have b := j.few
  rw [List.length_append] at b
  omega
/-- what hearing one change makes of a person -/
def heard1 (P : PS) (c : Ch) : PS := ⟨runC (ledC true c P.u) P.t, P.hd + 1, ledC false P.u c⟩
theorem J.mr (j : J first cs ps left puts dr) {P : PS} (h : P ∈ ps) {c : Ch} (hc : cs[P.hd]? = some c) :
    Cn c ∧ Cn P.u ∧ wanted c = wanted P.u ∧ P.t.length = makes P.u ∧ Cn (ledC true c P.u) ∧ Cn (ledC false P.u c) ∧ wanted (ledC false P.u c) = makes c ∧ runC (ledC true c P.u) P.t = mrg true c P.u (hT first cs P.hd) ∧ runC (ledC false P.u c) (hT first cs (P.hd + 1)) = mrg true c P.u (hT first cs P.hd) ∧
    Mr (hT first cs P.hd) (hT first cs (P.hd + 1)) P.t (mrg true c P.u (hT first cs P.hd)) := by
  have p := j.per P h
  have hlt : P.hd < cs.length := (List.getElem?_eq_some_iff.mp hc).1
  have cc := j.c1 c (List.mem_of_getElem? hc)
  obtain ⟨w1, d1⟩ := j.c2 P.hd c hc
  have hw : wanted c = wanted P.u := w1.trans p.want.symm
  have eA := hT_succ (first := first) hc
  have lA := j.hlen (k := P.hd + 1) hlt
  have lP := j.plen h
  have mc := run_len c _ w1.symm
  have mu := run_len P.u _ p.want.symm
  rw [← p.run] at mu
  rw [eA, mc] at lA
  have lo1 : LedOut true c P.u (hT first cs P.hd) := led_out cc p.cn hw p.want.symm
  have lo2 : LedOut false P.u c (hT first cs P.hd) := led_out p.cn cc hw.symm w1.symm
  have r1 := lo1.run
  rw [← p.run] at r1
  have r2 := lo2.run
  rw [← eA, ← mrg_swap hw] at r2
  refine ⟨cc, p.cn, hw, mu, ⟨lo1.good, lo1.ok, ?_⟩, ⟨lo2.good, lo2.ok, ?_⟩, lo2.want, r1, r2, ?_⟩
  · have := lo1.size; omega
  · have := lo2.size; omega
  · have m := mr_of cc.good p.cn.good w1.symm p.want.symm d1 p.dsj (j.n1 _ (Nat.le_of_lt hlt)) (by rw [← eA]; exact j.n1 _ hlt) (by rw [← p.run]; exact p.nd) (fun x hx hn => by
      rw [← eA]
      rw [← p.run] at hx
      exact j.own P h x ⟨hx, hn⟩ _ hlt)
    rw [← eA, ← p.run] at m
    exact m
theorem getE_set {α : Type} {l : List α} {i k : Nat} {a x : α} (h : (l.set i a)[k]? = some x) : (k = i ∧ x = a) ∨ (k ≠ i ∧ l[k]? = some x) := by
  by_cases e : k = i
  · subst e
    have hlt : k < (l.set k a).length := (List.getElem?_eq_some_iff.mp h).1
    rw [List.length_set] at hlt
    rw [List.getElem?_set_self hlt] at h
    cases h
    exact .inl ⟨rfl, rfl⟩
  · rw [List.getElem?_set_ne (fun z => e z.symm)] at h
    exact .inr ⟨e, h⟩
theorem mem_set {α : Type} {l : List α} {i : Nat} {a x : α} (h : x ∈ l.set i a) : x = a ∨ ∃ k, k ≠ i ∧ l[k]? = some x := by
  obtain ⟨k, hk⟩ := List.getElem?_of_mem h
  rcases getE_set hk with ⟨_, e⟩ | ⟨e, h⟩
  · exact .inl e
  · exact .inr ⟨k, e, h⟩
theorem set_mem {α : Type} {l : List α} {i : Nat} {a : α} (h : i < l.length) : a ∈ l.set i a := List.mem_of_getElem? (i := i) (by rw [List.getElem?_set_self h])
theorem set_other {α : Type} {l : List α} {i k : Nat} {a x : α} (n : k ≠ i) (h : l[k]? = some x) : x ∈ l.set i a := List.mem_of_getElem? (i := k) (by rw [List.getElem?_set_ne (fun z => n z.symm)]; exact h)
/-- a person hears one change -/
theorem J.hear1 (j : J first cs ps left puts dr) {i : Nat} {P : PS} (hi : ps[i]? = some P) {c : Ch} (hc : cs[P.hd]? = some c) : J first cs (ps.set i (heard1 P c)) left puts dr := by
  have hP := List.mem_of_getElem? hi
  have hil : i < ps.length := (List.getElem?_eq_some_iff.mp hi).1
  obtain ⟨cc, cu, hw, hl, cn1, cn2, wn2, r1, r2, m⟩ := j.mr hP hc
  have hlt : P.hd < cs.length := (List.getElem?_eq_some_iff.mp hc).1
  have p := j.per P hP
  have eA := hT_succ (first := first) hc
  have tR : (heard1 P c).t = mrg true c P.u (hT first cs P.hd) := r1
  have hdR : (heard1 P c).hd = P.hd + 1 := rfl
  -- its own signs are as they were
  have ownR : ∀ x, Own first cs (heard1 P c) x ↔ Own first cs P x := fun x => by
    unfold Own
    rw [tR, hdR]
    constructor
    · rintro ⟨a, b⟩
      by_cases hx : x ∈ hT first cs P.hd
      · exact absurd ((m.inT x hx).mp a).1 b
      · exact ⟨((m.outT x hx).mp a).resolve_left b, hx⟩
    · rintro ⟨a, b⟩
      exact ⟨(m.outT x b).mpr (.inr a), j.own P hP x ⟨a, b⟩ _ hlt⟩
  have inR : ∀ x, x ∈ (heard1 P c).t → x ∈ hT first cs (P.hd + 1) ∨ Own first cs P x := fun x hx => by
    by_cases h : x ∈ hT first cs (P.hd + 1)
    · exact .inl h
    · exact .inr ((ownR x).mp ⟨hx, h⟩)
  refine ⟨j.c1, j.c2, fun Q hQ => ?_, j.n1, j.conv, fun Q hQ x hx => ?_, fun a b Q Q' x hQ hQ' hab hx => ?_, j.subH, fun Q hQ x hx => ?_, j.all, j.few, j.ok, fun x hx => ?_, j.drs, j.ordH, fun s hs Q hQ => ?_, fun s hs => ?_, fun s hs a b Q Q' x y hQ hQ' hx hy ox oy => ?_⟩
  · rcases mem_set hQ with rfl | ⟨k, _, hk⟩
    · refine ⟨hlt, cn2, ?_, ?_, ?_, ?_⟩
      · show wanted (ledC false P.u c) = _
        rw [wn2, hdR, eA, run_len c _ (j.c2 _ _ hc).1.symm]
      · rw [tR, hdR]
        exact r2.symm
      · intro x hx
        have hx : PSg (ledC false P.u c) x := hx
        have h1 := psg_led hx
        rw [hdR]
        intro hA
        -- what P puts is its own
        have hT0 := p.dsj x h1
        have : x ∈ P.t := by
          rw [p.run]
          exact psg_run _ h1
        exact j.own P hP x ⟨this, hT0⟩ _ hlt hA
      · rw [tR]
        exact m.nd
    · exact j.per Q (List.mem_of_getElem? hk)
  · rcases mem_set hQ with rfl | ⟨k, _, hk⟩
    · exact j.own P hP x ((ownR x).mp hx)
    · exact j.own Q (List.mem_of_getElem? hk) x hx
  · rcases getE_set hQ with ⟨e1, rfl⟩ | ⟨n1, h1⟩
    · rcases getE_set hQ' with ⟨e2, _⟩ | ⟨n2, h2⟩
      · exact absurd (e1.trans e2.symm) hab
      · exact j.own2 i b P Q' x hi h2 (fun z => n2 z.symm) ((ownR x).mp hx)
    · rcases getE_set hQ' with ⟨e2, rfl⟩ | ⟨n2, h2⟩
      · intro z
        rcases inR x z with z | z
        · exact j.own Q (List.mem_of_getElem? h1) x hx _ hlt z
        · exact j.own2 i a P Q x hi h1 (fun q => n1 q.symm) z hx.1
      · exact j.own2 a b Q Q' x h1 h2 hab hx
  · rcases mem_set hQ with rfl | ⟨k, _, hk⟩
    · rcases inR x hx with z | z
      · exact j.subH _ x hlt z
      · exact j.subP P hP x z.1
    · exact j.subP Q (List.mem_of_getElem? hk) x hx
  · rw [j.live x hx]
    have key : x ∈ hT first cs cs.length → ((x ∈ hT first cs P.hd → x ∈ P.t) ↔ (x ∈ hT first cs (P.hd + 1) → x ∈ (heard1 P c).t)) := fun hn => by
      rw [tR]
      by_cases h : x ∈ hT first cs P.hd
      · have hA := j.conv P.hd (P.hd + 1) cs.length x (Nat.le_succ _) hlt (Nat.le_refl _) h hn
        rw [m.inT x h]
        exact ⟨fun z _ => ⟨hA, z h⟩, fun z _ => (z hA).2⟩
      · rw [m.outT x h]
        exact ⟨fun _ z => .inl z, fun _ z => absurd z h⟩
    constructor
    · rintro (⟨h1, h2⟩ | ⟨Q, hQ, ox⟩)
      · refine .inl ⟨h1, fun Q hQ => ?_⟩
        rcases mem_set hQ with rfl | ⟨k, _, hk⟩
        · exact (key h1).mp (h2 P hP)
        · exact h2 Q (List.mem_of_getElem? hk)
      · obtain ⟨k, hk⟩ := List.getElem?_of_mem hQ
        by_cases e : k = i
        · subst e
          rw [hi] at hk
          cases hk
          exact .inr ⟨_, set_mem hil, (ownR x).mpr ox⟩
        · exact .inr ⟨Q, set_other e hk, ox⟩
    · rintro (⟨h1, h2⟩ | ⟨Q, hQ, ox⟩)
      · refine .inl ⟨h1, fun Q hQ => ?_⟩
        obtain ⟨k, hk⟩ := List.getElem?_of_mem hQ
        by_cases e : k = i
        · subst e
          rw [hi] at hk
          cases hk
          exact (key h1).mpr (h2 _ (set_mem hil))
        · exact h2 Q (set_other e hk)
      · rcases mem_set hQ with rfl | ⟨k, _, hk⟩
        · exact .inr ⟨P, hP, (ownR x).mp ox⟩
        · exact .inr ⟨Q, List.mem_of_getElem? hk, ox⟩
  · rcases mem_set hQ with rfl | ⟨k, _, hk⟩
    · rw [tR]
      rcases j.excl s hs with e | e
      · have eq : (mrg true c P.u (hT first cs P.hd)).filter (mem s) = ((mrg true c P.u (hT first cs P.hd)).filter (mem P.t)).filter (mem s) := by
          rw [List.filter_filter]
          refine List.filter_congr fun x hx => ?_
          cases z : mem s x with
          | false => rfl
          | true =>
            have z := of_decide_eq_true z
            have hb : x ∈ P.t := (inR x (by rw [tR]; exact hx)).elim (fun q => absurd q (e _ hlt x z)) fun q => q.1
            rw [show mem P.t x = true from decide_eq_true hb]
            rfl
        rw [eq]
        exact (m.subB.filter _).trans (j.ordP s hs P hP)
      · have eq : (mrg true c P.u (hT first cs P.hd)).filter (mem s) = ((mrg true c P.u (hT first cs P.hd)).filter (mem (hT first cs (P.hd + 1)))).filter (mem s) := by
          rw [List.filter_filter]
          refine List.filter_congr fun x hx => ?_
          cases z : mem s x with
          | false => rfl
          | true =>
            have z := of_decide_eq_true z
            have hb : x ∈ hT first cs (P.hd + 1) := (inR x (by rw [tR]; exact hx)).elim id fun q => absurd q (e P hP x z)
            rw [show mem (hT first cs (P.hd + 1)) x = true from decide_eq_true hb]
            rfl
        rw [eq]
        exact (m.subA.filter _).trans (j.ordH s hs _ hlt)
    · exact j.ordP s hs Q (List.mem_of_getElem? hk)
  · rcases j.excl s hs with e | e
    · exact .inl e
    · refine .inr fun Q hQ x hx ox => ?_
      rcases mem_set hQ with rfl | ⟨k, _, hk⟩
      · exact e P hP x hx ((ownR x).mp ox)
      · exact e Q (List.mem_of_getElem? hk) x hx ox
  · rcases getE_set hQ with ⟨e1, rfl⟩ | ⟨n1, h1⟩
    · have ox := (ownR x).mp ox
      rcases getE_set hQ' with ⟨e2, rfl⟩ | ⟨n2, h2⟩
      · exact e1.trans e2.symm
      · rw [e1]
        exact j.one s hs i b P Q' x y hi h2 hx hy ox oy
    · rcases getE_set hQ' with ⟨e2, rfl⟩ | ⟨n2, h2⟩
      · rw [e2]
        exact j.one s hs a i Q P x y h1 hi hx hy ox ((ownR y).mp oy)
      · exact j.one s hs a b Q Q' x y h1 h2 hx hy ox oy
end
end K78
set_option Elab.async false
set_option linter.all false
set_option maxRecDepth 100000
set_option maxHeartbeats 1000000
namespace K78
open PySem PySem.Spec PyProof.Rows L2 SX
section
variable {first : List Nat} {cs : List Ch} {ps : List PS} {left : List Nat} {puts : List (List Nat)} {dr : List Nat}
theorem own_no {P : PS} {x : Nat} (h : P.t = hT first cs P.hd) : ¬ Own first cs P x := fun z => z.2 (h ▸ z.1)
/-- a person whose unsent changes are nothing -/
theorem nothing_run' {P : PS} {n : Nat} (h : P.u = nothing n) (p : PerOk first cs P) : P.t = hT first cs P.hd := by
  have e := p.want
  rw [h, nothing_want] at e
  rw [p.run, h, e]
  exact nothing_run _
/-- a person's changes go to the hub -/
def sent (P : PS) (n : Nat) : PS := ⟨P.t, n + 1, nothing P.t.length⟩
theorem J.send (j : J first cs ps left puts dr) {i : Nat} {P : PS} (hi : ps[i]? = some P) (hn : P.hd = cs.length) : J first (cs ++ [P.u]) (ps.set i (sent P cs.length)) left puts dr := by
  have hP := List.mem_of_getElem? hi
  have hil : i < ps.length := (List.getElem?_eq_some_iff.mp hi).1
  have p := j.per P hP
  have pr := p.run
  have pw := p.want
  have pd := p.dsj
  rw [hn] at pr pw pd
  have lP := j.plen hP
  have eN : hT first (cs ++ [P.u]) (cs.length + 1) = P.t := by rw [hT_end, pr]
  have eO : ∀ k, k ≤ cs.length → hT first (cs ++ [P.u]) k = hT first cs k := fun k h => hT_app h
  have lenN : (cs ++ [P.u]).length = cs.length + 1 := by simp
  have ownQ : ∀ Q ∈ ps, ∀ x, Own first (cs ++ [P.u]) Q x ↔ Own first cs Q x := fun Q hQ x => by
    unfold Own
    rw [eO _ (j.per Q hQ).hd]
  have noS : ∀ x, ¬ Own first (cs ++ [P.u]) (sent P cs.length) x := fun x z => by
    obtain ⟨a, b⟩ := z
    rw [show (sent P cs.length).hd = cs.length + 1 from rfl, eN] at b
    exact b a
  have split : ∀ k, k ≤ (cs ++ [P.u]).length → (k ≤ cs.length ∧ hT first (cs ++ [P.u]) k = hT first cs k) ∨ (k = cs.length + 1 ∧ hT first (cs ++ [P.u]) k = P.t) := fun k h => by
    rw [lenN] at h
    by_cases e : k ≤ cs.length
    · exact .inl ⟨e, eO k e⟩
    · have e : k = cs.length + 1 := by omega
      exact .inr ⟨e, by rw [e]; exact eN⟩
  refine ⟨fun c hc => ?_, fun k c hc => ?_, fun Q hQ => ?_, fun k hk => ?_, fun a k l x h1 h2 h3 ha hl => ?_, fun Q hQ x hx k hk => ?_, fun a b Q Q' x hQ hQ' hab hx => ?_, fun k x hk hx => ?_, fun Q hQ x hx => ?_, j.all, j.few, j.ok, fun x hx => ?_, j.drs, fun s hs k hk => ?_, fun s hs Q hQ => ?_, fun s hs => ?_, fun s hs a b Q Q' x y hQ hQ' hx hy ox oy => ?_⟩
  · rcases List.mem_append.mp hc with hc | hc
    · exact j.c1 c hc
    · rw [List.mem_singleton.mp hc]
      exact p.cn
  · by_cases e : k < cs.length
    · rw [List.getElem?_append_left e] at hc
      rw [eO k (Nat.le_of_lt e)]
      exact j.c2 k c hc
    · have hk : k < (cs ++ [P.u]).length := (List.getElem?_eq_some_iff.mp hc).1
      rw [lenN] at hk
      have e : k = cs.length := by omega
      subst e
      rw [List.getElem?_append_right (Nat.le_refl _), Nat.sub_self] at hc
      cases hc
      rw [eO _ (Nat.le_refl _)]
      exact ⟨pw, pd⟩
  · rcases mem_set hQ with rfl | ⟨k, _, hk⟩
    · refine ⟨by rw [lenN]; exact Nat.le_refl _, nothing_cn (by omega), ?_, ?_, fun x hx => absurd hx psg_nothing, p.nd⟩
      · rw [show (sent P cs.length).hd = cs.length + 1 from rfl, eN]
        exact nothing_want _
      · rw [show (sent P cs.length).hd = cs.length + 1 from rfl, eN]
        exact (nothing_run _).symm
    · have q := j.per Q (List.mem_of_getElem? hk)
      have e := eO _ q.hd
      exact ⟨by rw [lenN]; exact Nat.le_succ_of_le q.hd, q.cn, by rw [e]; exact q.want, by rw [e]; exact q.run, by rw [e]; exact q.dsj, q.nd⟩
  · rcases split k hk with ⟨h, e⟩ | ⟨h, e⟩
    · rw [e]; exact j.n1 k h
    · rw [e]; exact p.nd
  · rcases split l h3 with ⟨hl', e⟩ | ⟨hl', e⟩
    · rw [e] at hl
      rw [eO a (by omega)] at ha
      rw [eO k (by omega)]
      exact j.conv a k l x h1 h2 hl' ha hl
    · rw [e] at hl
      rcases split k (by rw [lenN]; omega) with ⟨hk', e2⟩ | ⟨hk', e2⟩
      · rw [e2]
        rw [eO a (by omega)] at ha
        by_cases z : x ∈ hT first cs cs.length
        · exact j.conv a k cs.length x h1 hk' (Nat.le_refl _) ha z
        · exact absurd ha (j.own P hP x ⟨hl, by rw [hn]; exact z⟩ a (by omega))
      · rw [e2]
        exact hl
  · rcases mem_set hQ with rfl | ⟨m, hm, hk'⟩
    · exact absurd hx (noS x)
    · have hQ' := List.mem_of_getElem? hk'
      have ox := (ownQ Q hQ' x).mp hx
      rcases split k hk with ⟨h, e⟩ | ⟨h, e⟩
      · rw [e]
        exact j.own Q hQ' x ox k h
      · rw [e]
        exact j.own2 m i Q P x hk' hi hm ox
  · rcases getE_set hQ with ⟨e1, rfl⟩ | ⟨n1, h1⟩
    · exact absurd hx (noS x)
    · have ox := (ownQ Q (List.mem_of_getElem? h1) x).mp hx
      rcases getE_set hQ' with ⟨e2, rfl⟩ | ⟨n2, h2⟩
      · exact j.own2 a i Q P x h1 hi n1 ox
      · exact j.own2 a b Q Q' x h1 h2 hab ox
  · rcases split k hk with ⟨h, e⟩ | ⟨h, e⟩
    · rw [e] at hx
      exact j.subH k x h hx
    · rw [e] at hx
      exact j.subP P hP x hx
  · rcases mem_set hQ with rfl | ⟨m, _, hk'⟩
    · exact j.subP P hP x hx
    · exact j.subP Q (List.mem_of_getElem? hk') x hx
  · rw [j.live x hx]
    unfold Live
    rw [lenN, eN]
    constructor
    · rintro (⟨h1, h2⟩ | ⟨Q, hQ, ox⟩)
      · refine .inl ⟨h2 P hP (by rw [hn]; exact h1), fun Q hQ => ?_⟩
        rcases mem_set hQ with rfl | ⟨m, _, hk'⟩
        · rw [show (sent P cs.length).hd = cs.length + 1 from rfl, eN]
          exact id
        · have hQ' := List.mem_of_getElem? hk'
          rw [eO _ (j.per Q hQ').hd]
          exact h2 Q hQ'
      · obtain ⟨m, hm⟩ := List.getElem?_of_mem hQ
        by_cases e : m = i
        · subst e
          rw [hi] at hm
          cases hm
          refine .inl ⟨ox.1, fun Q hQ => ?_⟩
          rcases mem_set hQ with rfl | ⟨m', _, hk'⟩
          · rw [show (sent P cs.length).hd = cs.length + 1 from rfl, eN]
            exact id
          · have hQ' := List.mem_of_getElem? hk'
            rw [eO _ (j.per Q hQ').hd]
            exact fun z => absurd z (j.own P hP x ox _ (j.per Q hQ').hd)
        · exact .inr ⟨Q, set_other e hm, (ownQ Q hQ x).mpr ox⟩
    · rintro (⟨h1, h2⟩ | ⟨Q, hQ, ox⟩)
      · by_cases z : x ∈ hT first cs cs.length
        · refine .inl ⟨z, fun Q hQ => ?_⟩
          obtain ⟨m, hm⟩ := List.getElem?_of_mem hQ
          by_cases e : m = i
          · subst e
            rw [hi] at hm
            cases hm
            exact fun _ => h1
          · have := h2 Q (set_other e hm)
            rw [eO _ (j.per Q hQ).hd] at this
            exact this
        · exact .inr ⟨P, hP, h1, by rw [hn]; exact z⟩
      · rcases mem_set hQ with rfl | ⟨m, _, hk'⟩
        · exact absurd ox (noS x)
        · have hQ' := List.mem_of_getElem? hk'
          exact .inr ⟨Q, hQ', (ownQ Q hQ' x).mp ox⟩
  · rcases split k hk with ⟨h, e⟩ | ⟨h, e⟩
    · rw [e]; exact j.ordH s hs k h
    · rw [e]; exact j.ordP s hs P hP
  · rcases mem_set hQ with rfl | ⟨m, _, hk'⟩
    · exact j.ordP s hs P hP
    · exact j.ordP s hs Q (List.mem_of_getElem? hk')
  · rcases j.excl s hs with e | e
    · by_cases z : ∃ x ∈ s, x ∈ P.t
      · obtain ⟨x, hx, hp⟩ := z
        have ox : Own first cs P x := ⟨hp, e _ p.hd x hx⟩
        refine .inr fun Q hQ y hy oy => ?_
        rcases mem_set hQ with rfl | ⟨m, hm, hk'⟩
        · exact noS y oy
        · exact hm (j.one s hs m i Q P y x hk' hi hy hx ((ownQ Q (List.mem_of_getElem? hk') y).mp oy) ox)
      · refine .inl fun k hk x hx => ?_
        rcases split k hk with ⟨h, e2⟩ | ⟨h, e2⟩
        · rw [e2]; exact e k h x hx
        · rw [e2]; exact fun q => z ⟨x, hx, q⟩
    · refine .inr fun Q hQ x hx ox => ?_
      rcases mem_set hQ with rfl | ⟨m, _, hk'⟩
      · exact noS x ox
      · exact e Q (List.mem_of_getElem? hk') x hx ((ownQ Q (List.mem_of_getElem? hk') x).mp ox)
  · rcases getE_set hQ with ⟨e1, rfl⟩ | ⟨n1, h1⟩
    · exact absurd ox (noS x)
    · rcases getE_set hQ' with ⟨e2, rfl⟩ | ⟨n2, h2⟩
      · exact absurd oy (noS y)
      · exact j.one s hs a b Q Q' x y h1 h2 hx hy ((ownQ Q (List.mem_of_getElem? h1) x).mp ox) ((ownQ Q' (List.mem_of_getElem? h2) y).mp oy)
/-- a person writes: at a g signs go, the first m of those left come -/
def wrote (P : PS) (a g m : Nat) (left : List Nat) : PS := ⟨P.t.take a ++ left.take m ++ P.t.drop (a + g), P.hd, changeBy (wanted P.u) (behI P.u (changeBy P.t.length (plainI a g P.t.length (left.take m))))⟩
theorem three (t : List Nat) (a g : Nat) : t = t.take a ++ ((t.drop a).take g ++ t.drop (a + g)) := by
  rw [← List.drop_drop, List.take_append_drop, List.take_append_drop]
theorem J.write (j : J first cs ps left puts dr) {i : Nat} {P : PS} (hi : ps[i]? = some P) {a g m : Nat} (hag : a + g ≤ P.t.length) : J first cs (ps.set i (wrote P a g m left)) (left.drop m) (puts ++ [left.take m]) (dr ++ (P.t.drop a).take g) := by
  have hP := List.mem_of_getElem? hi
  have hil : i < ps.length := (List.getElem?_eq_some_iff.mp hi).1
  have p := j.per P hP
  have lP := j.plen hP
  have e3 := three P.t a g
  have eE : first ++ (puts ++ [left.take m]).flatten = (first ++ puts.flatten) ++ left.take m := by rw [List.flatten_append, List.append_assoc]; simp
  have eA : (first ++ (puts ++ [left.take m]).flatten) ++ left.drop m = (first ++ puts.flatten) ++ left := by rw [eE, List.append_assoc, List.take_append_drop]
  have few := j.few
  have lf : (left.take m).length ≤ left.length := List.length_take_le' _ _
  rw [List.length_append] at few
  have fresh : ∀ x ∈ left.take m, x ∉ first ++ puts.flatten := fun x hx z => by
    have n := j.all
    rw [List.nodup_append] at n
    exact n.2.2 x z x (List.mem_of_mem_take hx) rfl
  have ndF : (left.take m).Nodup := by
    have n := j.all
    rw [List.nodup_append] at n
    exact List.Sublist.nodup (List.take_sublist m left) n.2.1
  have ndT := p.nd
  rw [e3, List.nodup_append] at ndT
  obtain ⟨nd1, nd2, nd3⟩ := ndT
  rw [List.nodup_append] at nd2
  obtain ⟨nd4, nd5, nd6⟩ := nd2
  have inT : ∀ {x}, x ∈ P.t ↔ x ∈ P.t.take a ∨ x ∈ (P.t.drop a).take g ∨ x ∈ P.t.drop (a + g) := fun {x} => by
    conv => lhs; rw [e3]
    rw [List.mem_append, List.mem_append]
  -- its signs
  have wT : (wrote P a g m left).t = P.t.take a ++ left.take m ++ P.t.drop (a + g) := rfl
  have wH : (wrote P a g m left).hd = P.hd := rfl
  have inW : ∀ x, x ∈ (wrote P a g m left).t ↔ x ∈ left.take m ∨ (x ∈ P.t ∧ x ∉ (P.t.drop a).take g) := fun x => by
    rw [wT, List.mem_append, List.mem_append]
    constructor
    · rintro ((h | h) | h)
      · exact .inr ⟨inT.mpr (.inl h), fun z => nd3 x h x (List.mem_append_left _ z) rfl⟩
      · exact .inl h
      · exact .inr ⟨inT.mpr (.inr (.inr h)), fun z => nd6 x z x h rfl⟩
    · rintro (h | ⟨h, n⟩)
      · exact .inl (.inr h)
      · rcases inT.mp h with h | h | h
        · exact .inl (.inl h)
        · exact absurd h n
        · exact .inr h
  have po : PlainOut P.t (left.take m) a g := plain_out hag (by omega) fun x hx => j.ok x (List.mem_append_right _ (List.mem_of_mem_take hx))
  have hm : makes P.u = wanted (changeBy P.t.length (plainI a g P.t.length (left.take m))) := by
    rw [po.want]
    conv => rhs; rw [p.run]
    exact (run_len P.u _ p.want.symm).symm
  have bo : BehOut P.u (changeBy P.t.length (plainI a g P.t.length (left.take m))) (hT first cs P.hd) := beh_out p.cn po.cn hm p.want.symm
  have lT := j.hlen p.hd
  have lW : ((P.t.take a ++ left.take m ++ P.t.drop (a + g))).length = makes (changeBy P.t.length (plainI a g P.t.length (left.take m))) := by
    rw [← po.run]
    exact run_len _ _ po.want.symm
  have lW2 : (P.t.take a ++ left.take m ++ P.t.drop (a + g)).length ≤ 160 := by
    have z := congrArg List.length e3
    rw [List.length_append, List.length_append] at z
    rw [List.length_append, List.length_append]
    omega
  have runW : (wrote P a g m left).t = runC (wrote P a g m left).u (hT first cs P.hd) := by
    rw [show (wrote P a g m left).u = changeBy (wanted P.u) (behI P.u (changeBy P.t.length (plainI a g P.t.length (left.take m)))) from rfl, bo.run, ← p.run, po.run]
    rfl
  have ndW : (wrote P a g m left).t.Nodup := by
    rw [wT, List.nodup_append, List.nodup_append]
    refine ⟨⟨nd1, ndF, fun x hx y hy e => ?_⟩, nd5, fun x hx y hy e => ?_⟩
    · subst e
      exact fresh x hy (j.subP P hP x (inT.mpr (.inl hx)))
    · subst e
      rcases List.mem_append.mp hx with h | h
      · exact nd3 x h x (List.mem_append_right _ hy) rfl
      · exact fresh x h (j.subP P hP x (inT.mpr (.inr (.inr hy))))
  have ownW : ∀ x, Own first cs (wrote P a g m left) x ↔ x ∈ left.take m ∨ (Own first cs P x ∧ x ∉ (P.t.drop a).take g) := fun x => by
    unfold Own
    rw [inW, wH]
    constructor
    · rintro ⟨h | h, n⟩
      · exact .inl h
      · exact .inr ⟨⟨h.1, n⟩, h.2⟩
    · rintro (h | ⟨h, n⟩)
      · exact ⟨.inl h, fun z => fresh x h (j.subH _ x p.hd z)⟩
      · exact ⟨.inr ⟨h.1, n⟩, h.2⟩
  have old : ∀ {s}, s ∈ first :: puts → ∀ x ∈ s, x ∈ first ++ puts.flatten := fun {s} hs x hx => by
    rcases List.mem_cons.mp hs with rfl | hs
    · exact List.mem_append_left _ hx
    · exact List.mem_append_right _ (List.mem_flatten.mpr ⟨s, hs, hx⟩)
  have cases_s : ∀ {s}, s ∈ first :: (puts ++ [left.take m]) → s ∈ first :: puts ∨ s = left.take m := fun {s} hs => by
    rcases List.mem_cons.mp hs with rfl | hs
    · exact .inl List.mem_cons_self
    · rcases List.mem_append.mp hs with hs | hs
      · exact .inl (List.mem_cons_of_mem _ hs)
      · exact .inr (List.mem_singleton.mp hs)
  refine ⟨j.c1, j.c2, fun Q hQ => ?_, j.n1, j.conv, fun Q hQ x hx k hk => ?_, fun b c Q Q' x hQ hQ' hab hx => ?_, fun k x hk hx => ?_, fun Q hQ x hx => ?_, by rw [eA]; exact j.all, by rw [eA]; exact j.few, by rw [eA]; exact j.ok, fun x hx => ?_, fun x hx => ?_, fun s hs k hk => ?_, fun s hs Q hQ => ?_, fun s hs => ?_, fun s hs b c Q Q' x y hQ hQ' hx hy ox oy => ?_⟩
  · rcases mem_set hQ with rfl | ⟨k, _, hk⟩
    · refine ⟨p.hd, ⟨bo.good, bo.ok, ?_⟩, ?_, runW, fun x hx => ?_, ndW⟩
      · have := bo.size
        have := p.want
        show ((changeBy (wanted P.u) _).map Pt.size).sum ≤ 900
        omega
      · exact bo.want.trans p.want
      · rcases psg_beh hx with h | h
        · exact p.dsj x h
        · exact fun z => fresh x (psg_plain h) (j.subH _ x p.hd z)
    · exact j.per Q (List.mem_of_getElem? hk)
  · rcases mem_set hQ with rfl | ⟨b, _, hk'⟩
    · rcases (ownW x).mp hx with h | h
      · exact fun z => fresh x h (j.subH k x hk z)
      · exact j.own P hP x h.1 k hk
    · exact j.own Q (List.mem_of_getElem? hk') x hx k hk
  · rcases getE_set hQ with ⟨e1, rfl⟩ | ⟨n1, h1⟩
    · rcases getE_set hQ' with ⟨e2, _⟩ | ⟨n2, h2⟩
      · exact absurd (e1.trans e2.symm) hab
      · rcases (ownW x).mp hx with h | h
        · exact fun z => fresh x h (j.subP Q' (List.mem_of_getElem? h2) x z)
        · exact j.own2 i c P Q' x hi h2 (fun z => n2 z.symm) h.1
    · rcases getE_set hQ' with ⟨e2, rfl⟩ | ⟨n2, h2⟩
      · intro z
        rcases (inW x).mp z with z | z
        · exact fresh x z (j.subP Q (List.mem_of_getElem? h1) x hx.1)
        · exact j.own2 b i Q P x h1 hi n1 hx z.1
      · exact j.own2 b c Q Q' x h1 h2 hab hx
  · rw [eE]
    exact List.mem_append_left _ (j.subH k x hk hx)
  · rw [eE]
    rcases mem_set hQ with rfl | ⟨k, _, hk⟩
    · rcases (inW x).mp hx with h | h
      · exact List.mem_append_right _ h
      · exact List.mem_append_left _ (j.subP P hP x h.1)
    · exact List.mem_append_left _ (j.subP Q (List.mem_of_getElem? hk) x hx)
  · rw [eE] at hx
    rcases List.mem_append.mp hx with hx | hx
    · have hf : x ∉ left.take m := fun z => fresh x z hx
      by_cases hd : x ∈ (P.t.drop a).take g
      · have hxt : x ∈ P.t := inT.mpr (.inr (.inl hd))
        constructor
        · exact fun z => absurd (List.mem_append_right _ hd) z
        · intro z
          exfalso
          have hw : x ∉ (wrote P a g m left).t := fun q => ((inW x).mp q).elim hf fun r => r.2 hd
          rcases z with ⟨h1, h2⟩ | ⟨Q, hQ, ox⟩
          · have := h2 _ (set_mem hil)
            rw [wH] at this
            by_cases q : x ∈ hT first cs P.hd
            · exact hw (this q)
            · exact j.own P hP x ⟨hxt, q⟩ _ (Nat.le_refl _) h1
          · rcases mem_set hQ with rfl | ⟨k, hk, hk'⟩
            · exact hw ox.1
            · exact j.own2 k i Q P x hk' hi hk ox hxt
      · have hw : x ∈ (wrote P a g m left).t ↔ x ∈ P.t := by rw [inW]; exact ⟨fun q => q.elim (fun r => absurd r hf) fun r => r.1, fun q => .inr ⟨q, hd⟩⟩
        have ho : Own first cs (wrote P a g m left) x ↔ Own first cs P x := by unfold Own; rw [hw, wH]
        have e1 : x ∉ dr ++ (P.t.drop a).take g ↔ x ∉ dr := by rw [List.mem_append]; exact ⟨fun q r => q (.inl r), fun q r => r.elim q hd⟩
        rw [e1, j.live x hx]
        constructor
        · rintro (⟨h1, h2⟩ | ⟨Q, hQ, ox⟩)
          · refine .inl ⟨h1, fun Q hQ => ?_⟩
            rcases mem_set hQ with rfl | ⟨k, _, hk⟩
            · rw [wH, hw]; exact h2 P hP
            · exact h2 Q (List.mem_of_getElem? hk)
          · obtain ⟨k, hk⟩ := List.getElem?_of_mem hQ
            by_cases e : k = i
            · subst e
              rw [hi] at hk
              cases hk
              exact .inr ⟨_, set_mem hil, ho.mpr ox⟩
            · exact .inr ⟨Q, set_other e hk, ox⟩
        · rintro (⟨h1, h2⟩ | ⟨Q, hQ, ox⟩)
          · refine .inl ⟨h1, fun Q hQ => ?_⟩
            obtain ⟨k, hk⟩ := List.getElem?_of_mem hQ
            by_cases e : k = i
            · subst e
              rw [hi] at hk
              cases hk
              have := h2 _ (set_mem hil)
              rw [wH, hw] at this
              exact this
            · exact h2 Q (set_other e hk)
          · rcases mem_set hQ with rfl | ⟨k, _, hk⟩
            · exact .inr ⟨P, hP, ho.mp ox⟩
            · exact .inr ⟨Q, List.mem_of_getElem? hk, ox⟩
    · have nE := fresh x hx
      constructor
      · exact fun _ => .inr ⟨_, set_mem hil, (ownW x).mpr (.inl hx)⟩
      · intro _ z
        rcases List.mem_append.mp z with z | z
        · exact nE (j.drs x z)
        · exact nE (j.subP P hP x (inT.mpr (.inr (.inl z))))
  · rw [eE]
    rcases List.mem_append.mp hx with hx | hx
    · exact List.mem_append_left _ (j.drs x hx)
    · exact List.mem_append_left _ (j.subP P hP x (inT.mpr (.inr (.inl hx))))
  · rcases cases_s hs with hs | rfl
    · exact j.ordH s hs k hk
    · rw [filter_no (p := mem (left.take m)) fun x hx => decide_eq_false fun z => fresh x z (j.subH k x hk hx)]
      exact List.nil_sublist _
  · rcases cases_s hs with hs | rfl
    · rcases mem_set hQ with rfl | ⟨k, _, hk⟩
      · rw [wT, List.filter_append, List.filter_append, filter_no (l := left.take m) (p := mem s) fun x hx => decide_eq_false fun z => fresh x hx (old hs x z), List.append_nil, ← List.filter_append]
        refine List.Sublist.trans (List.Sublist.filter _ ?_) (j.ordP s hs P hP)
        conv => rhs; rw [e3]
        exact (List.Sublist.refl _).append (List.sublist_append_right _ _)
      · exact j.ordP s hs Q (List.mem_of_getElem? hk)
    · rcases mem_set hQ with rfl | ⟨k, _, hk⟩
      · rw [wT, List.filter_append, List.filter_append, filter_no (l := P.t.take a) (p := mem (left.take m)) fun x hx => decide_eq_false fun z => fresh x z (j.subP P hP x (inT.mpr (.inl hx))), filter_no (l := P.t.drop (a + g)) (p := mem (left.take m)) fun x hx => decide_eq_false fun z => fresh x z (j.subP P hP x (inT.mpr (.inr (.inr hx)))), List.nil_append, List.append_nil]
        exact List.filter_sublist
      · rw [filter_no (p := mem (left.take m)) fun x hx => decide_eq_false fun z => fresh x z (j.subP Q (List.mem_of_getElem? hk) x hx)]
        exact List.nil_sublist _
  · rcases cases_s hs with hs | rfl
    · rcases j.excl s hs with e | e
      · exact .inl e
      · refine .inr fun Q hQ x hx ox => ?_
        rcases mem_set hQ with rfl | ⟨k, _, hk⟩
        · rcases (ownW x).mp ox with h | h
          · exact fresh x h (old hs x hx)
          · exact e P hP x hx h.1
        · exact e Q (List.mem_of_getElem? hk) x hx ox
    · exact .inl fun k hk x hx z => fresh x hx (j.subH k x hk z)
  · rcases cases_s hs with hs | rfl
    · have toP : ∀ {z}, z ∈ s → Own first cs (wrote P a g m left) z → Own first cs P z := fun {z} hz oz => ((ownW z).mp oz).elim (fun h => absurd (old hs z hz) (fresh z h)) fun h => h.1
      rcases getE_set hQ with ⟨e1, rfl⟩ | ⟨n1, h1⟩
      · rcases getE_set hQ' with ⟨e2, rfl⟩ | ⟨n2, h2⟩
        · exact e1.trans e2.symm
        · rw [e1]
          exact j.one s hs i c P Q' x y hi h2 hx hy (toP hx ox) oy
      · rcases getE_set hQ' with ⟨e2, rfl⟩ | ⟨n2, h2⟩
        · rw [e2]
          exact j.one s hs b i Q P x y h1 hi hx hy ox (toP hy oy)
        · exact j.one s hs b c Q Q' x y h1 h2 hx hy ox oy
    · rcases getE_set hQ with ⟨e1, rfl⟩ | ⟨n1, h1⟩
      · rcases getE_set hQ' with ⟨e2, rfl⟩ | ⟨n2, h2⟩
        · exact e1.trans e2.symm
        · exact absurd (j.subP Q' (List.mem_of_getElem? h2) y oy.1) (fresh y hy)
      · exact absurd (j.subP Q (List.mem_of_getElem? h1) x ox.1) (fresh x hx)
end
end K78
set_option Elab.async false
set_option linter.all false
set_option maxRecDepth 100000
set_option maxHeartbeats 4000000
namespace PySem
open PyProof.Rows Calls
section
variable {prog : Program} {w : World} {A : Around} {E : Value → Shared → Prop} {s : Shared}
/-- sorted(text) -/
theorem sorted_textK {x : Str} {t : Tok} {ss : List Str} {Q : Value → Shared → Prop} (hh : A.handled = none) (hn : x.cps.size ≤ sizeLine) (hss : ∀ vs : Array Value, ItemsOf (SignAt x) vs x.cps.size → StrsAre vs.toList ss)
    (h : ∀ (s' : Shared) (vs : List Value) (out : Array Value) (ss' : List Str), (∀ b o, s.heap.get? b = some o → s'.heap.get? b = some o) → s'.gens = s.gens → s'.drawn = s.drawn → s'.os = s.os → StrsAre out.toList ss' → ss'.Perm ss → sortedS ss' = true → Q (.ref s'.heap.objs.size) { s' with heap := sortedHeap (s'.heap.push (seqObj "list" vs.toArray 0)) s'.heap.objs.size vs out }) :
    wpAny (model prog w) A (call (.builtin "sorted") [.str x t]) Q E s := by
  refine Calls.call_function_entry kind_sorted plain_sorted entry_sorted (args_sorted1 _) ?_
  unfold Builtin.«sorted»
  refine wpAny_bind (m := checkCount "sorted" 1 1 _) (wpAny_pure ?_)
  refine wpAny_bind (wpAny_collect_str (show A.in1.handled = none from hh) x t (fun s' acc hk hg hd ho hi => ?_) hn)
  have hS := hss acc hi
  have hlen : acc.toList.length ≤ sizeLine := by rw [Array.length_toList, hi.1]; exact hn
  refine wpAny_bind (wpAny_newList ?_ hlen)
  have hoL : (s'.heap.push (seqObj "list" acc.toList.toArray 0)).get? s'.heap.objs.size = some (seqObj "list" acc.toList.toArray 0) := Heap.get?_push_size _ rfl
  show wpAny _ _ _ _ _ { s' with heap := s'.heap.push (seqObj "list" acc.toList.toArray 0) }
  refine wpAny_bind (wpAny_holding (wpAny_call_entry slot_list_sort ⟨_, hoL, rfl⟩ entry_list_sort (list_sort_treeKAny strKind_oneLt hoL hS.keysOf (fun v1 v2 rest e => keyKind_strs (by rw [← e]; exact hS)) hlen fun st' a1 a2 => ⟨_, rfl, ?_⟩) (args_list_sort _)))
  obtain ⟨ss', h1, h2, h3⟩ := sorted_out_str hS a1 a2
  refine wpAny_pure ⟨_, rfl, h s' acc.toList _ ss' hk hg hd ho h1 h2 h3⟩
end
end PySem
namespace K78
open PySem PySem.Spec PyProof.Rows L2 SX
/-- signs that rise -/
theorem rising {a : Nat} : ∀ {l : List Nat}, risingS (S [a]) (l.map fun c => S [c]) = true → (∀ b ∈ l, a ≤ b) ∧ l.Pairwise (· ≤ ·)
  | [], _ => ⟨fun _ h => (List.not_mem_nil h).elim, .nil⟩
  | b :: l, h => by
    have h : (!ltCps [b] [a] && risingS (S [b]) (l.map fun c => S [c])) = true := h
    obtain ⟨h1, h2⟩ := Bool.and_eq_true_iff.mp h
    have hab : a ≤ b := by
      refine Nat.le_of_not_lt fun z => ?_
      have : ltCps [b] [a] = true := by
        show (decide (b < a) || (b == a && ltCps [] [])) = true
        rw [decide_eq_true z]
        rfl
      rw [this] at h1
      cases h1
    obtain ⟨i1, i2⟩ := rising h2
    refine ⟨fun c hc => ?_, List.pairwise_cons.mpr ⟨i1, i2⟩⟩
    rcases List.mem_cons.mp hc with rfl | hc
    · exact hab
    · exact Nat.le_trans hab (i1 c hc)
theorem rising_all : ∀ {l : List Nat}, sortedS (l.map fun c => S [c]) = true → l.Pairwise (· ≤ ·)
  | [], _ => .nil
  | a :: l, h => List.pairwise_cons.mpr (rising h)
/-- texts of one sign, in another order -/
theorem perm_signs {ss : List Str} {l : List Nat} (h : ss.Perm (l.map fun c => S [c])) : ∃ m : List Nat, m.Perm l ∧ ss = m.map fun c => S [c] := by
  refine ⟨ss.map fun x => x.cps.toList.headD 0, ?_, ?_⟩
  · have := h.map fun x : Str => x.cps.toList.headD 0
    rw [List.map_map] at this
    have e : (l.map ((fun x : Str => x.cps.toList.headD 0) ∘ fun c => S [c])) = l := by
      conv => rhs; rw [← List.map_id l]
      rfl
    rw [e] at this
    exact this
  · rw [List.map_map]
    conv => lhs; rw [← List.map_id ss]
    refine List.map_congr_left fun x hx => ?_
    obtain ⟨c, _, rfl⟩ := List.mem_map.mp (h.mem_iff.mp hx)
    rfl
theorem sorted_one {l m : List Nat} (h : l.Perm m) (h1 : l.Pairwise (· ≤ ·)) (h2 : m.Pairwise (· ≤ ·)) : l = m := List.Perm.eq_of_pairwise (le := (· ≤ ·)) (fun a b _ _ x y => Nat.le_antisymm x y) h1 h2 h
/-- sorted(text), sorted([signs]), any number of them -/
theorem cr_sortedT {X : Cx} (hc : X.calm = true) : CallR X (.builtin "sorted") (fun xs H Q => ∃ l : List Nat, xs = [.str (S l)] ∧ l.length ≤ sizeLine ∧ ∀ (m : List Nat) (p : Addr), m.Perm l → m.Pairwise (· ≤ ·) → H p = none → Q (.ref p) (upd H p (.lst (m.map fun c => V.str (S [c]))))) := by
  intro pins s σ H xs us Q I r h
  obtain ⟨l, rfl, hz, q⟩ := h
  obtain ⟨u, rfl, r1⟩ := vals1 r
  obtain ⟨t, rfl⟩ := r1
  have toS : ∀ (acc : Array Value), ItemsOf (SignAt (S l)) acc (S l).cps.size → Vals (l.map fun c => V.str (S [c])) acc.toList := fun acc hi => by
    refine vals_of_idx _ _ (by rw [List.length_map, Array.length_toList]; exact hi.1) fun j u hj => ?_
    obtain ⟨c, t', hc, rfl⟩ := hi.2 j u (by rw [← Array.getElem?_toList]; exact hj)
    have hc2 : l[j]? = some c := by
      have z : (l.toArray)[j]? = some c := hc
      rw [List.getElem?_toArray] at z
      exact z
    exact ⟨V.str (S [c]), by rw [List.getElem?_map, hc2]; rfl, ⟨_, rfl⟩⟩
  have em : (l.map fun c => V.str (S [c])) = (l.map fun c => S [c]).map V.str := by rw [List.map_map]; rfl
  refine PySem.sorted_textK (ss := l.map fun c => S [c]) (I.ok.hd hc) hz (fun acc hi => by have := toS acc hi; rw [em] at this; exact this.strs) fun s' vs out ss' hk hg hd ho h1 h2 h3 => ?_
  obtain ⟨m, hm, rfl⟩ := perm_signs h2
  obtain ⟨hp, g, dr, tk, os⟩ := s'
  cases hg; cases hd; cases ho
  obtain ⟨e, he⟩ := sortedHeap_at (h := hp.push (seqObj "list" vs.toArray 0)) (a := hp.objs.size) (vs := vs) (out := out) (n := 0) (Heap.get?_push_size _ rfl)
  have hlen : (m.map fun c => V.str (S [c])).length ≤ sizeLine := by rw [List.length_map, hm.length_eq]; exact hz
  have I1 : Inv X pins σ H { s with heap := hp, toks := tk } := I.kept (t' := tk) hk
  refine ⟨.ref hp.objs.size, upd H hp.objs.size (.lst (m.map fun c => V.str (S [c]))), I1.laid (t' := tk) (fun b o eb => ?_) (Nat.le_refl _) ⟨hlen, out.toList, e, ?_, he⟩, rfl, q m _ hm (rising_all h3) (I1.hok.fresh (Nat.le_refl _))⟩
  · have hlt : b < hp.objs.size := Heap.lt_size eb
    rw [sortedHeap_old (Nat.ne_of_lt hlt) (by rw [Heap.size_push]; exact Nat.lt_succ_of_lt hlt)]
    exact Heap.get?_push_of_some _ eb
  · have := vals_of_strs h1
    rw [List.map_map] at this
    exact this
theorem cr_sortedC {X : Cx} : CallR X (.builtin "sorted") (fun xs H Q => ∃ (a : Addr) (l : List Nat), xs = [.ref a] ∧ SqL X.K H a (l.map fun c => V.str (S [c])) ∧ ∀ (m : List Nat) (p : Addr), m.Perm l → m.Pairwise (· ≤ ·) → H p = none → Q (.ref p) (upd H p (.lst (m.map fun c => V.str (S [c]))))) := by
  intro pins s σ H vs us Q I r h
  obtain ⟨a, l, rfl, hs, q⟩ := h
  obtain ⟨its, rv, hl, hz⟩ := I.list hs
  rw [Vals.ref1 r]
  have em : (l.map fun c => V.str (S [c])) = (l.map fun c => S [c]).map V.str := by rw [List.map_map]; rfl
  rw [em] at rv
  have hlen0 := rv.length
  refine PyProof.Rows.sorted_strsAny hl.isList rv.strs (by rw [← hlen0]; rw [em] at hz; exact hz) fun out ys h1 h2 h3 => ?_
  obtain ⟨m, hm, rfl⟩ := perm_signs h2
  obtain ⟨ep, he'⟩ := PyProof.Rows.sortedAll_at s.heap its out
  have hlen : (m.map fun c => V.str (S [c])).length ≤ sizeLine := by rw [List.length_map, hm.length_eq]; rw [List.length_map] at hz; exact hz
  refine ⟨.ref _, upd H (s.heap.objs.size + 1) (.lst (m.map fun c => V.str (S [c]))), I.laid (t' := s.toks) (fun _ _ => PyProof.Rows.sortedAll_old) (Nat.le_succ _) ⟨hlen, out.toList, ep, ?_, he'⟩, rfl, q m _ hm (rising_all h3) (I.hok.fresh (Nat.le_succ _))⟩
  have := vals_of_strs h1
  rw [List.map_map] at this
  exact this
end K78
set_option Elab.async false
set_option linter.all false
set_option maxRecDepth 100000
set_option maxHeartbeats 1000000
namespace K78
open PySem PySem.Spec PyProof.Rows L2 SX
section
variable {first : List Nat} {cs : List Ch} {ps : List PS} {left : List Nat} {puts : List (List Nat)} {dr : List Nat}
theorem hT_zero : hT first [] 0 = first := rfl
/-- at the start -/
theorem J.start (n : Nat) (h1 : (first ++ left).Nodup) (h2 : (first ++ left).length ≤ 80) (h3 : ∀ x ∈ first ++ left, x < 128) : J first [] (List.replicate n ⟨first, 0, nothing first.length⟩) left [] [] := by
  have e : first ++ ([] : List (List Nat)).flatten = first := List.append_nil _
  have nf : first.Nodup := by
    rw [List.nodup_append] at h1
    exact h1.1
  have isP : ∀ P ∈ List.replicate n (⟨first, 0, nothing first.length⟩ : PS), P = ⟨first, 0, nothing first.length⟩ := fun P hP => (List.mem_replicate.mp hP).2
  have hk : ∀ k, k ≤ ([] : List Ch).length → hT first [] k = first := fun k _ => by
    unfold hT
    rw [List.take_nil]
    rfl
  have no : ∀ P ∈ List.replicate n (⟨first, 0, nothing first.length⟩ : PS), ∀ x, ¬ Own first [] P x := fun P hP x z => by
    rw [isP P hP] at z
    exact z.2 z.1
  have lf : first.length ≤ 80 := by rw [List.length_append] at h2; omega
  refine ⟨fun c hc => (List.not_mem_nil hc).elim, fun k c hc => (by cases hc), fun P hP => ?_, fun k h => (by rw [hk k h]; exact nf), fun j k l x _ _ h3 _ hl => (by rw [hk k (by omega)]; rw [hk l h3] at hl; exact hl), fun P hP x ox => absurd ox (no P hP x), fun i j P Q x hP _ _ ox => absurd ox (no P (List.mem_of_getElem? hP) x), fun k x h hx => (by rw [e]; rw [hk k h] at hx; exact hx), fun P hP x hx => ?_, (by rw [e]; exact h1), (by rw [e]; exact h2), (by rw [e]; exact h3), fun x hx => ?_, fun x hx => (List.not_mem_nil hx).elim, fun s hs k h => ?_, fun s hs P hP => ?_, fun s hs => .inr fun P hP x _ ox => no P hP x ox, fun s hs i j P Q x y hP _ _ _ ox _ => absurd ox (no P (List.mem_of_getElem? hP) x)⟩
  · rw [isP P hP]
    exact ⟨Nat.le_refl _, nothing_cn (by omega), nothing_want _, (nothing_run first).symm, fun x hx => absurd hx psg_nothing, nf⟩
  · rw [isP P hP] at hx
    rw [e]
    exact hx
  · rw [e] at hx
    refine ⟨fun _ => .inl ⟨hx, fun P hP => ?_⟩, fun _ z => List.not_mem_nil z⟩
    rw [isP P hP]
    exact id
  · have : s = first := by
      rcases List.mem_cons.mp hs with h | h
      · exact h
      · exact (List.not_mem_nil h).elim
    rw [hk k h, this]
    exact List.filter_sublist
  · have : s = first := by
      rcases List.mem_cons.mp hs with h | h
      · exact h
      · exact (List.not_mem_nil h).elim
    rw [isP P hP, this]
    exact List.filter_sublist
/-- a person hears all that it didn't hear -/
def heardAll (cs : List Ch) (P : PS) : PS := ⟨hearT (cs.drop P.hd) P.u P.t, cs.length, hearU (cs.drop P.hd) P.u⟩
theorem set_self {l : List PS} {i : Nat} {P : PS} (h : l[i]? = some P) : l.set i P = l := by
  refine List.ext_getElem? fun k => ?_
  by_cases e : k = i
  · subst e
    rw [List.getElem?_set_self (List.getElem?_eq_some_iff.mp h).1, h]
  · rw [List.getElem?_set_ne (fun z => e z.symm)]
theorem J.hear (n : Nat) : ∀ {ps : List PS} {i : Nat} {P : PS}, J first cs ps left puts dr → ps[i]? = some P → cs.length = P.hd + n → hearOk (cs.drop P.hd) P.u P.t ∧ J first cs (ps.set i (heardAll cs P)) left puts dr := by
  induction n with
  | zero =>
    intro ps i P j hi hl
    have hd : cs.drop P.hd = [] := List.drop_of_length_le (by omega)
    have e : heardAll cs P = P := by
      unfold heardAll
      rw [hd, hl, Nat.add_zero]
      rfl
    rw [hd, e, set_self hi]
    exact ⟨(j.per P (List.mem_of_getElem? hi)).cn, j⟩
  | succ n ih =>
    intro ps i P j hi hl
    have hP := List.mem_of_getElem? hi
    have hlt : P.hd < cs.length := by omega
    obtain ⟨c, hc⟩ : ∃ c, cs[P.hd]? = some c := ⟨_, List.getElem?_eq_getElem hlt⟩
    obtain ⟨cc, cu, hw, ht, cn1, cn2, wn2, r1, r2, m⟩ := j.mr hP hc
    have j1 := j.hear1 hi hc
    have hi1 : (ps.set i (heard1 P c))[i]? = some (heard1 P c) := List.getElem?_set_self (List.getElem?_eq_some_iff.mp hi).1
    obtain ⟨ok, j2⟩ := ih j1 hi1 (by show cs.length = P.hd + 1 + n; omega)
    have ed : cs.drop P.hd = c :: cs.drop (P.hd + 1) := by
      rw [List.drop_eq_getElem_cons hlt]
      rw [List.getElem?_eq_getElem hlt] at hc
      rw [Option.some.inj hc]
    have eh : heardAll cs (heard1 P c) = heardAll cs P := by
      unfold heardAll
      rw [ed]
      rfl
    rw [List.set_set, eh] at j2
    rw [ed]
    exact ⟨⟨cc, cu, hw, ht, cn1, ok⟩, j2⟩
/-- nothing unsent -/
def Quiet (first : List Nat) (cs : List Ch) (P : PS) : Prop := P.t = hT first cs P.hd
theorem J.quiet1 (j : J first cs ps left puts dr) {P : PS} (h : P ∈ ps) {c : Ch} (hc : cs[P.hd]? = some c) (q : Quiet first cs P) : Quiet first cs (heard1 P c) := by
  obtain ⟨cc, cu, hw, ht, cn1, cn2, wn2, r1, r2, m⟩ := j.mr h hc
  have hlt : P.hd < cs.length := (List.getElem?_eq_some_iff.mp hc).1
  have q : P.t = hT first cs P.hd := q
  have sub : ∀ x, x ∈ mrg true c P.u (hT first cs P.hd) ↔ x ∈ hT first cs (P.hd + 1) := fun x => by
    by_cases hx : x ∈ hT first cs P.hd
    · rw [m.inT x hx, q]
      exact ⟨fun z => z.1, fun z => ⟨z, hx⟩⟩
    · rw [m.outT x hx, q]
      exact ⟨fun z => z.elim id fun w => absurd w hx, .inl⟩
  have e : (mrg true c P.u (hT first cs P.hd)).filter (mem (hT first cs (P.hd + 1))) = mrg true c P.u (hT first cs P.hd) := filter_all fun x hx => decide_eq_true ((sub x).mp hx)
  have s := m.subA
  rw [e] at s
  show runC (ledC true c P.u) P.t = hT first cs (P.hd + 1)
  rw [r1]
  exact s.eq_of_length (Nat.le_antisymm s.length_le (len_sub (j.n1 _ hlt) fun x hx => (sub x).mpr hx))
theorem J.quiet (n : Nat) : ∀ {ps : List PS} {i : Nat} {P : PS}, J first cs ps left puts dr → ps[i]? = some P → cs.length = P.hd + n → Quiet first cs P → Quiet first cs (heardAll cs P) := by
  induction n with
  | zero =>
    intro ps i P j hi hl q
    have hd : cs.drop P.hd = [] := List.drop_of_length_le (by omega)
    have e : heardAll cs P = P := by
      unfold heardAll
      rw [hd, hl, Nat.add_zero]
      rfl
    rw [e]
    exact q
  | succ n ih =>
    intro ps i P j hi hl q
    have hP := List.mem_of_getElem? hi
    have hlt : P.hd < cs.length := by omega
    obtain ⟨c, hc⟩ : ∃ c, cs[P.hd]? = some c := ⟨_, List.getElem?_eq_getElem hlt⟩
    have j1 := j.hear1 hi hc
    have hi1 : (ps.set i (heard1 P c))[i]? = some (heard1 P c) := List.getElem?_set_self (List.getElem?_eq_some_iff.mp hi).1
    have r := ih j1 hi1 (by show cs.length = P.hd + 1 + n; omega) (j.quiet1 hP hc q)
    have ed : cs.drop P.hd = c :: cs.drop (P.hd + 1) := by
      rw [List.drop_eq_getElem_cons hlt]
      rw [List.getElem?_eq_getElem hlt] at hc
      rw [Option.some.inj hc]
    have eh : heardAll cs (heard1 P c) = heardAll cs P := by
      unfold heardAll
      rw [ed]
      rfl
    rw [eh] at r
    exact r
/-- at the end -/
structure EndOk (first : List Nat) (puts : List (List Nat)) (dr : List Nat) (t : List Nat) : Prop where
  perm : t.Perm ((first ++ puts.flatten).filter fun x => !mem dr x)
  ord : ∀ s ∈ puts ++ [first], (t.filter (mem s)).Sublist s
  nd : t.Nodup
  nds : ∀ s ∈ puts ++ [first], s.Nodup
  few : (first ++ puts.flatten).length ≤ 80
  ok : ∀ x ∈ first ++ puts.flatten, x < 128
theorem perm_of {l m : List Nat} (h1 : l.Nodup) (h2 : m.Nodup) (h : ∀ x, x ∈ l ↔ x ∈ m) : l.Perm m := (List.perm_ext_iff_of_nodup h1 h2).mpr h
theorem J.fin (j : J first cs ps left puts dr) (h : ∀ P ∈ ps, Quiet first cs P ∧ P.hd = cs.length) : EndOk first puts dr (hT first cs cs.length) := by
  have all := j.all
  rw [List.nodup_append] at all
  have live : ∀ x, Live first cs ps x ↔ x ∈ hT first cs cs.length := fun x => by
    constructor
    · rintro (⟨h1, _⟩ | ⟨P, hP, ox⟩)
      · exact h1
      · have q := (h P hP).1
        exact absurd (q ▸ ox.1) ox.2
    · intro hx
      refine .inl ⟨hx, fun P hP => ?_⟩
      have q : P.t = hT first cs P.hd := (h P hP).1
      rw [q]
      exact id
  have subs : ∀ s ∈ puts ++ [first], s ∈ first :: puts := fun s hs => by
    rcases List.mem_append.mp hs with hs | hs
    · exact List.mem_cons_of_mem _ hs
    · rw [List.mem_singleton.mp hs]
      exact List.mem_cons_self
  refine ⟨perm_of (j.n1 _ (Nat.le_refl _)) (all.1.filter _) fun x => ?_, fun s hs => j.ordH s (subs s hs) _ (Nat.le_refl _), j.n1 _ (Nat.le_refl _), fun s hs => ?_, ?_, fun x hx => j.ok x (List.mem_append_left _ hx)⟩
  · rw [List.mem_filter]
    constructor
    · intro hx
      have hE := j.subH _ x (Nat.le_refl _) hx
      have := (j.live x hE).mpr ((live x).mpr hx)
      refine ⟨hE, ?_⟩
      rw [show mem dr x = false from decide_eq_false this]
      rfl
    · rintro ⟨hE, hd⟩
      have : x ∉ dr := fun z => by
        rw [show mem dr x = true from decide_eq_true z] at hd
        cases hd
      exact (live x).mp ((j.live x hE).mp this)
  · have n1 := all.1
    rw [List.nodup_append] at n1
    rcases List.mem_append.mp hs with hs | hs
    · exact (List.sublist_flatten_of_mem hs).nodup n1.2.1
    · rw [List.mem_singleton.mp hs]
      exact n1.1
  · have := j.few
    rw [List.length_append] at this
    omega
end
end K78
set_option Elab.async false
set_option linter.all false
set_option maxRecDepth 100000
set_option maxHeartbeats 4000000
namespace K78
open PySem PySem.Spec PyProof.Rows L2 SX
/-! ### the draws -/
def spPool (K : PySem.W.Frag) : Sp := fun vs H Q _ => ∃ (a : Addr) (ns : List Int) (k : Int), vs = [.ref a, .int k] ∧ SqL K H a (ns.map V.int) ∧ 0 ≤ k ∧ k < 64 ∧
  ∀ p x y H', H p = none → (∀ b o, H b = some o → H' b = some o) → H' p = some (.lst [.int x, .int y]) → 0 ≤ x → 0 ≤ y → y < 2147483629 → Q (.ref p) H'
def spTake : Sp := fun vs H Q _ => ∃ (p : Addr) (n x y : Int), vs = [.ref p, .int n] ∧ H p = some (.lst [.int x, .int y]) ∧ 0 ≤ x ∧ 0 ≤ y ∧ y < 2147483647 ∧ 0 < n ∧ n < 1073741824 ∧
  ∀ r x' y', 0 ≤ r → r < n → 0 ≤ x' → 0 ≤ y' → y' < 2147483647 → Q (.int r) (upd H p (.lst [.int x', .int y']))
theorem scPool : FnScope ["_law_script", "_law_k", "_law_cell", "_law_size", "_law_mixed"] ["_law_script", "_law_k"] (defScope s__law_pool) := ⟨rfl, rfl, rfl, by decide +kernel, rfl, by decide +kernel, by decide +kernel⟩
theorem scTake : FnScope ["_law_pool_here", "_law_many", "_law_found"] ["_law_pool_here", "_law_many"] (defScope s__law_take) := ⟨rfl, rfl, rfl, by decide +kernel, rfl, by decide +kernel, by decide +kernel⟩
theorem cut_ints (ns : List Int) (lo hi : Option Int) : ∃ ms : List Int, cutV (ns.map V.int) lo hi = ms.map V.int := by
  unfold cutV
  exact ⟨_, by rw [← List.map_drop, ← List.map_take]⟩
theorem with_rest {A : Prop} {R : Int → Prop} (k : (∀ c, R c) → A) (r : ∀ c, R c) : A := k r
section
variable {P : Program} {w : World} {K : PySem.W.Frag} {mg : Str → Option Value} {base : Heap} {fd : FuncData}
theorem ok_pool (F : FnP K d__law_pool fd) (T : Tx K mg) : FnOk P w K mg base CX0 1 (He.fAd K d__law_pool.at_) fd ["_law_script", "_law_k"] (spPool K) := by
  refine F.ok scPool (fun vs H Q E h => ?_) (fun cdv A outer s H vs Q E hr h => ?_)
  · obtain ⟨a, ns, k, rfl, _⟩ := h
    rfl
  · obtain ⟨a, ns, k, rfl, hS, hk0, hk1, q⟩ := h
    refine ⟨_, PSs.nox (pss_cons (ps_set (i := 2) scPool.nd rfl (.inl rfl) (pe_op op_add (pe_op op_mul pe_int (pe_callB (cr_sum rfl) (by rfl) T.free (by decide +kernel) (pa_cons (pe_slice sl_list (pv 0) po_none (po_some pe_int)) pa_nil))) (pv 1)))
      (pss_cons (ps_if (pt_cmpR op_lt (pv 1) (pe_callB call_len (by rfl) T.free boot_len (pa_cons (pv 0) pa_nil)) (nomark _)) (pss_one (ps_set (i := 2) scPool.nd rfl (.inl rfl) (pe_ix ix_list (pv 0) (pv 1) (fun _ _ => rfl)))) pss_nil)
      (pss_cons (ps_set (i := 3) scPool.nd rfl (.inl rfl) (pe_callB call_abs (by rfl) T.free (by decide +kernel) (pa_cons (pv 2) pa_nil)))
      (pss_cons (ps_set (i := 4) scPool.nd rfl (.inl rfl) (pe_op op_mod (pe_op op_mul (pe_op op_add (pe_op op_add (pe_op op_add (pe_op op_mod (pv 3) pe_int) (pe_op op_mul (pe_op op_mul pe_int (pv 1)) (pv 1))) (pe_op op_mul pe_int (pv 1))) pe_int) pe_int) pe_int))
      (pss_one (ps_ret (pe_lst (pa_cons (pe_op op_mul (pv 3) (pe_callTy call_int1 (by rfl) T.free (by decide +kernel) (pa_cons (pe_cmpR op_ge (pv 3) (pe_op op_pow pe_int pe_int) (nomark _)) pa_nil))) (pa_cons (pe_op op_mod (pe_op op_mul (pv 4) (pv 4)) pe_int) pa_nil))))))))), ?_⟩
    -- the cell
    refine ⟨_, rfl, 63, rfl, a, _, rfl, hS, fun p hp => ?_⟩
    obtain ⟨ms, em⟩ := cut_ints ns none (some 63)
    rw [em]
    refine ⟨p, ms, rfl, SqL.of upd_same, ?_⟩
    refine ⟨_, _, rfl, rfl, .inl ⟨by decide, by decide⟩, _, rfl, _, _, rfl, rfl, ?_⟩
    have old : ∀ b o, H b = some o → upd H p (.lst (ms.map V.int)) b = some o := fun b o e => by
      rw [upd_ne (ne_of_none e hp)]
      exact e
    have hS' : SqL K (upd H p (.lst (ms.map V.int))) a (ns.map V.int) := Same.seq old hS
    refine ⟨_, rfl, _, rfl, _, _, rfl, .inl ⟨_, hS', rfl⟩, ?_⟩
    refine ⟨_, _, rfl, rfl, _, rfl, ?_⟩
    refine' with_rest (fun rest => ite2 (fun hlt => ?_) (fun _ => ?_)) ?_
    rotate_left
    · have hlt : k < ((ns.map V.int).length : Int) := of_decide_eq_true hlt
      rw [List.length_map] at hlt
      obtain ⟨c, hc⟩ : ∃ c, ns[k.toNat]? = some c := ⟨ns[k.toNat]'(by omega), List.getElem?_eq_getElem _⟩
      refine ⟨_, rfl, _, rfl, a, _, k, .int c, rfl, rfl, hS', at_of (j := k.toNat) (by omega) (by rw [List.getElem?_map, hc]; rfl), rest c⟩
    · exact rest _
    · intro c
      refine ⟨_, rfl, c, rfl, ?_⟩
      generalize ez : (if c < 0 then -c else c) = z
      have hz : 0 ≤ z := by rw [← ez]; split <;> omega
      refine ⟨_, rfl, _, _, rfl, rfl, (by show (0 : Int) < 2147483629; decide), _, rfl, _, _, rfl, rfl, .inl ⟨by decide, by decide⟩, _, rfl, _, _, rfl, rfl, .inr ⟨by omega, by omega⟩, ?_⟩
      refine ⟨_, _, rfl, rfl, _, rfl, _, _, rfl, rfl, .inl ⟨by decide, by decide⟩, _, _, rfl, rfl, _, _, rfl, rfl, _, _, rfl, rfl, .inr ⟨by decide, by decide⟩, _, _, rfl, rfl, (by show (0 : Int) < 2147483647; decide), ?_⟩
      generalize em2 : ((z % 2147483629 + 7919 * k * k + 31 * k + 17) * 48271 % 2147483647) = m
      have hm : 0 ≤ m ∧ m < 2147483647 := by
        rw [← em2]
        exact ⟨Int.emod_nonneg _ (by decide), Int.emod_lt_of_pos _ (by decide)⟩
      refine ⟨_, rfl, _, rfl, _, _, rfl, rfl, ⟨by decide, by decide, by decide⟩, _, _, rfl, rfl, .inr ⟨_, rfl, ?_⟩⟩
      have hb : ∀ b : Bool, CMul z (if b = true then 1 else 0) := fun b => by
        cases b
        · exact .inr ⟨by decide, by decide⟩
        · exact .inr ⟨by decide, by decide⟩
      refine ⟨_, _, rfl, rfl, hb _, _, rfl, _, rfl, _, _, rfl, rfl, .inl ⟨by omega, by omega⟩, _, _, rfl, rfl, (by show (0 : Int) < 2147483629; decide), (by show 2 ≤ sizeLine; decide), fun p2 hp2 => ?_⟩
      refine q p2 _ _ _ ?_ (fun b o e => ?_) upd_same ?_ (Int.emod_nonneg _ (by decide)) (Int.emod_lt_of_pos _ (by decide))
      · cases e : H p2 with
        | none => rfl
        | some o => rw [old _ _ e] at hp2; cases hp2
      · rw [upd_ne (ne_of_none (old b o e) hp2)]
        exact old b o e
      · refine Int.mul_nonneg hz ?_
        split <;> decide
theorem ok_take (F : FnP K d__law_take fd) : FnOk P w K mg base CX0 1 (He.fAd K d__law_take.at_) fd ["_law_pool_here", "_law_many"] spTake := by
  refine F.ok scTake (fun vs H Q E h => ?_) (fun cdv A outer s H vs Q E hr h => ?_)
  · obtain ⟨p, n, x, y, rfl, _⟩ := h
    rfl
  · obtain ⟨p, n, x, y, rfl, hp, hx, hy, hy2, hn, hn2, q⟩ := h
    refine ⟨_, PSs.nox (pss_cons (ps_if (pt_cmpR op_gt (pe_ix ix_list (pv 0) pe_int (fun _ _ => rfl)) pe_int (nomark _))
        (pss_cons (ps_set (i := 2) scTake.nd rfl (.inl rfl) (pe_op op_mod (pe_ix ix_list (pv 0) pe_int (fun _ _ => rfl)) (pv 1)))
        (pss_cons (ps_asg (pe_op op_fdiv (pe_ix ix_list (pv 0) pe_int (fun _ _ => rfl)) (pv 1)) (pg_sub (pv 0) pe_int set_list)) (pss_one (ps_ret (pv 2))))) pss_nil)
      (pss_cons (ps_asg (pe_op op_mod (pe_op op_add (pe_op op_mul (pe_ix ix_list (pv 0) pe_int (fun _ _ => rfl)) pe_int) pe_int) pe_int) (pg_sub (pv 0) pe_int set_list))
      (pss_one (ps_ret (pe_op op_mod (pe_op op_fdiv (pe_op op_mod (pe_op op_mul (pe_ix ix_list (pv 0) pe_int (fun _ _ => rfl)) (pe_ix ix_list (pv 0) pe_int (fun _ _ => rfl))) pe_int) pe_int) (pv 1)))))), ?_⟩
    refine ⟨_, rfl, p, _, 0, .int x, rfl, rfl, SqL.of hp, rfl, _, _, rfl, rfl, _, rfl, ite2 (fun _ => ?_) (fun _ => ?_)⟩
    · refine ⟨_, rfl, p, _, 0, .int x, rfl, rfl, SqL.of hp, rfl, _, rfl, _, _, rfl, rfl, hn, ?_⟩
      refine ⟨_, rfl, p, _, 0, .int x, rfl, rfl, SqL.of hp, rfl, _, rfl, _, _, rfl, rfl, ⟨hn, hn2⟩, _, rfl, p, _, 0, 0, rfl, rfl, hp, rfl, _, rfl, ?_⟩
      exact q _ _ y (Int.emod_nonneg _ (by omega)) (Int.emod_lt_of_pos _ hn) (Int.ediv_nonneg hx (by omega)) hy hy2
    · have hz : 0 ≤ (y * 48271 + 11) % 2147483647 ∧ (y * 48271 + 11) % 2147483647 < 2147483647 := ⟨Int.emod_nonneg _ (by decide), Int.emod_lt_of_pos _ (by decide)⟩
      refine ⟨_, rfl, p, _, 1, .int y, rfl, rfl, SqL.of hp, rfl, _, _, rfl, rfl, .inr ⟨by decide, by decide⟩, _, _, rfl, rfl, _, _, rfl, rfl, (by show (0 : Int) < 2147483647; decide), _, rfl, p, _, 1, 1, rfl, rfl, hp, rfl, ?_⟩
      refine ⟨_, rfl, p, _, 1, _, rfl, rfl, SqL.of upd_same, rfl, _, rfl, p, _, 1, _, rfl, rfl, SqL.of upd_same, rfl, _, _, rfl, rfl, .inl ⟨Int.lt_of_lt_of_le (by decide) hz.1, Int.lt_trans hz.2 (by decide)⟩, _, _, rfl, rfl, (by show (0 : Int) < 2147483629; decide), _, _, rfl, rfl, ⟨by decide, by decide⟩, _, rfl, _, _, rfl, rfl, hn, ?_⟩
      exact q _ x _ (Int.emod_nonneg _ (by omega)) (Int.emod_lt_of_pos _ hn) hx hz.1 hz.2
end
end K78
set_option Elab.async false
set_option linter.all false
set_option maxRecDepth 100000
set_option maxHeartbeats 4000000
namespace K78
open PySem PySem.Spec PyProof.Rows L2 SX
section
variable {P : Program} {w : World} {K : PySem.W.Frag} {mg : Str → Option Value} {base : Heap} {fd : FuncData}
/-! ### the law's own dict -/
def dOwn (l : List Nat) (lp : Addr) (d : List Nat) : List (Key × V) := [(.inr "left", .str (S l)), (.inr "puts", .ref lp), (.inr "dropped", .str (S d))]
theorem k_lp : ¬ ((.inr "left" : Key) = .inr "puts") := fun h => absurd (Sum.inr.inj h) (by decide +kernel)
theorem k_pl : ¬ ((.inr "puts" : Key) = .inr "left") := fun h => absurd (Sum.inr.inj h) (by decide +kernel)
theorem k_ld : ¬ ((.inr "left" : Key) = .inr "dropped") := fun h => absurd (Sum.inr.inj h) (by decide +kernel)
theorem k_dl : ¬ ((.inr "dropped" : Key) = .inr "left") := fun h => absurd (Sum.inr.inj h) (by decide +kernel)
theorem k_pd : ¬ ((.inr "puts" : Key) = .inr "dropped") := fun h => absurd (Sum.inr.inj h) (by decide +kernel)
section
variable {l d : List Nat} {lp : Addr}
theorem g_left : valV (dOwn l lp d) (.inr "left") = some (.str (S l)) := valV_pos rfl
theorem g_puts : valV (dOwn l lp d) (.inr "puts") = some (.ref lp) := by
  unfold dOwn
  rw [valV_neg k_lp]
  exact valV_pos rfl
theorem g_dropped : valV (dOwn l lp d) (.inr "dropped") = some (.str (S d)) := by
  unfold dOwn
  rw [valV_neg k_ld, valV_neg k_pd]
  exact valV_pos rfl
theorem p_left {l' : List Nat} : putK (dOwn l lp d) (.inr "left") (.str (S l')) = dOwn l' lp d := by
  have h : ((dOwn l lp d).any fun kv => decide (kv.1 = .inr "left")) = true := by
    rw [valV_any, g_left]
    rfl
  unfold putK
  rw [if_pos h]
  unfold dOwn
  rw [List.map_cons, List.map_cons, List.map_cons, if_pos rfl, if_neg k_pl, if_neg k_dl]
  rfl
theorem p_dropped {d' : List Nat} : putK (dOwn l lp d) (.inr "dropped") (.str (S d')) = dOwn l lp d' := by
  have h : ((dOwn l lp d).any fun kv => decide (kv.1 = .inr "dropped")) = true := by
    rw [valV_any, g_dropped]
    rfl
  unfold putK
  rw [if_pos h]
  unfold dOwn
  rw [List.map_cons, List.map_cons, List.map_cons, if_neg k_ld, if_neg k_pd, if_pos rfl]
  rfl
section
variable {H : Hp} {o : Addr}
theorem gd_left (h : H o = some (.dK (dOwn l lp d))) : DGet H o (.str "left") (some (.str (S l))) := .inl ⟨_, .inr "left", .inl h, rfl, g_left.symm⟩
theorem gd_puts (h : H o = some (.dK (dOwn l lp d))) : DGet H o (.str "puts") (some (.ref lp)) := .inl ⟨_, .inr "puts", .inl h, rfl, g_puts.symm⟩
theorem gd_dropped (h : H o = some (.dK (dOwn l lp d))) : DGet H o (.str "dropped") (some (.str (S d))) := .inl ⟨_, .inr "dropped", .inl h, rfl, g_dropped.symm⟩
theorem pd_left {l' : List Nat} (h : H o = some (.dK (dOwn l lp d))) : DPut H o (.str "left") (.str (S l')) (upd H o (.dK (dOwn l' lp d))) := .inl ⟨_, .inr "left", h, rfl, by show 3 < sizeLine; decide, by rw [p_left]⟩
theorem pd_dropped {d' : List Nat} (h : H o = some (.dK (dOwn l lp d))) : DPut H o (.str "dropped") (.str (S d')) (upd H o (.dK (dOwn l lp d'))) := .inl ⟨_, .inr "dropped", h, rfl, by show 3 < sizeLine; decide, by rw [p_dropped]⟩
end
end
theorem cut_to (l : List Nat) (n : Nat) (h : n ≤ l.length) : cutS (S l) none (some (n : Int)) = S (l.take n) := by
  unfold cutS
  rw [HT.sIx_nat, S_len, Nat.min_eq_left h]
  show S ((l.drop 0).take (n - 0)) = _
  rw [Nat.sub_zero, List.drop_zero]
theorem cut_from (l : List Nat) (n : Nat) (h : n ≤ l.length) : cutS (S l) (some (n : Int)) none = S (l.drop n) := by
  unfold cutS
  rw [HT.sIx_nat, S_len, Nat.min_eq_left h]
  show S ((l.drop n).take (l.length - n)) = _
  rw [← List.length_drop, List.take_length]
theorem S_cat (a b : List Nat) : S a ++ S b = S (a ++ b) := by
  show (⟨a.toArray ++ b.toArray⟩ : Str) = ⟨(a ++ b).toArray⟩
  rw [List.append_toArray]
/-- where the draws stand -/
def PoolAt (H : Hp) (p : Addr) : Prop := ∃ x y : Int, H p = some (.lst [.int x, .int y]) ∧ 0 ≤ x ∧ 0 ≤ y ∧ y < 2147483647

def sc__law_oneN : List Str := ["_law_pool_here", "_law_some"]
theorem sc__law_one : FnScope sc__law_oneN ["_law_pool_here", "_law_some"] (defScope s__law_one) := ⟨rfl, rfl, rfl, by decide +kernel, rfl, by decide +kernel, by decide +kernel⟩
def sp_one : Sp := fun vs H Q _ => ∃ (p a : Addr) (xs : List V), vs = [.ref p, .ref a] ∧ PoolAt H p ∧ H a = some (.lst xs) ∧ p ≠ a ∧ 0 < xs.length ∧ xs.length < 1000 ∧
  ∀ (i : Nat) v H1, xs[i]? = some v → (∀ b o, H b = some o → b ≠ p → H1 b = some o) → PoolAt H1 p → Q v H1
theorem ok__law_one (F : FnP K d__law_one fd) (T : Tx K mg) {fdTK : FuncData} (FTK : FnP K d__law_take fdTK) : FnOk P w K mg base CX0 2 (He.fAd K d__law_one.at_) fd ["_law_pool_here", "_law_some"] (sp_one) := by
  have GTK : FnOk P w K mg base CX0 1 _ fdTK ["_law_pool_here", "_law_many"] spTake := ok_take FTK
  have bTK : Binds K fdTK ["_law_pool_here", "_law_many"] [] := FTK.bindsN fun _ _ _ _ _ _ us hl => match us, hl with | [_, _], _ => rfl
  refine F.ok sc__law_one (fun vs H Q E h => ?_) (fun cdv A outer s H vs Q E hr h => ?_)
  · obtain ⟨p, a, xs, rfl, ⟨x, y, hp, hx, hy, hy2⟩, ha, npa, h0, h1, q⟩ := h
    rfl
  · obtain ⟨p, a, xs, rfl, ⟨x, y, hp, hx, hy, hy2⟩, ha, npa, h0, h1, q⟩ := h
    have hr1 : Room 1 _ := hr.mono (by decide)
    refine ⟨_, PSs.nox (pss_one (ps_ret (pe_ix ix_list (pv 1) (pe_call GTK hr1 (by rfl) T.glo FTK.kp bTK .nil pass0 (pa_cons (pv 0) (pa_cons (pe_callB call_len (by rfl) T.free (by decide +kernel) (pa_cons (pv 1) pa_nil)) pa_nil))) (fun _ _ => rfl)))), ?_⟩
    refine ⟨_, rfl, _, rfl, _, rfl, _, xs.length, rfl, .inl ⟨_, SqL.of ha, rfl⟩, p, _, x, y, rfl, hp, hx, hy, hy2, by omega, by omega, fun r x' y' r0 r1 hx' hy' hy2' => ?_⟩
    obtain ⟨i, rfl⟩ := Int.eq_ofNat_of_zero_le r0
    have hi : i < xs.length := by omega
    have hv : xs[i]? = some xs[i] := List.getElem?_eq_getElem hi
    have k : ∀ b o, H b = some o → b ≠ p → upd H p (.lst [.int x', .int y']) b = some o := fun b o e n => by
      rw [upd_ne n]
      exact e
    exact ⟨a, xs, i, xs[i], rfl, rfl, SqL.of (k _ _ ha npa.symm), atI_nat hv, q i _ _ hv k ⟨x', y', upd_same, hx', hy', hy2'⟩⟩
def sc__law_writeN : List Str := ["_law_pool_here", "_law_person", "_law_own", "_law_text", "_law_at", "_law_less", "_law_many", "_law_fresh"]
theorem sc__law_write : FnScope sc__law_writeN ["_law_pool_here", "_law_person", "_law_own"] (defScope s__law_write) := ⟨rfl, rfl, rfl, by decide +kernel, rfl, by decide +kernel, by decide +kernel⟩
def sp_lwrite (K : PySem.W.Frag) : Sp := fun vs H Q _ => ∃ (p q o lp dx hb : Addr) (nm : Str) (R : PS) (left dr : List Nat) (puts : List (List Nat)), vs = [.ref p, .ref q, .ref o] ∧ PoolAt H p ∧ PerAt K H q dx hb nm R.t R.hd R.u ∧ H o = some (.dK (dOwn left lp dr)) ∧ H lp = some (.lst (puts.map fun s => V.str (S s))) ∧ p ≠ lp ∧
  Cn R.u ∧ R.t.length = makes R.u ∧ R.t.length ≤ 200 ∧ left.length ≤ 100 ∧ dr.length ≤ 10000 ∧ puts.length ≤ 1000 ∧ (∀ x ∈ left, x < 128) ∧
  ∀ (a g m : Nat) H1, a + g ≤ R.t.length → g ≤ 3 → m ≤ 3 → (∀ b u, H b = some u → b ≠ p → b ≠ q → b ≠ o → b ≠ lp → H1 b = some u) → PoolAt H1 p → PerAt K H1 q dx hb nm (wrote R a g m left).t (wrote R a g m left).hd (wrote R a g m left).u →
    H1 o = some (.dK (dOwn (left.drop m) lp (dr ++ (R.t.drop a).take g))) → H1 lp = some (.lst ((puts ++ [left.take m]).map fun s => V.str (S s))) → Q .non H1
theorem ok__law_write (F : FnP K d__law_write fd) (T : Tx K mg) {fdTK : FuncData} (FTK : FnP K d__law_take fdTK) {fdW : FuncData} (FW : FnP K d_wanted fdW) {fdC : FuncData} (FC : FnP K d_changed fdC) {fdS : FuncData} (FS : FnP K d_spelt fdS) {fdN : FuncData} (FN : FnP K d_is_number fdN) {fdV : FuncData} (FV : FnP K d_moved fdV) {fdU : FuncData} (FU : FnP K d_Person_turn fdU) {fdM : FuncData} (FM : FnP K d_makes fdM) {fdO : FuncData} (FO : FnP K d_made_of fdO) {fdG : FuncData} (FG : FnP K d_grown fdG) {fdB : FuncData} (FB : FnP K d_change_by fdB) {fdP : FuncData} (FP : FnP K d_is_part fdP) {fdA : FuncData} (FA : FnP K d_is_change fdA) {fdB2 : FuncData} (FB2 : FnP K d_behind fdB2) {fdPL : FuncData} (FPL : FnP K d_plain fdPL) {fdPT : FuncData} (FPT : FnP K d_Person_text fdPT) {fdPW : FuncData} (FPW : FnP K d_Person_write fdPW) : FnOk P w K mg base CX0 5 (He.fAd K d__law_write.at_) fd ["_law_pool_here", "_law_person", "_law_own"] (sp_lwrite K) := by
  have GTK : FnOk P w K mg base CX0 1 _ fdTK ["_law_pool_here", "_law_many"] spTake := ok_take FTK
  have GPT : FnOk P w K mg base CX0 1 _ fdPT ["self"] (sp_Person_text K) := ok_Person_text FPT T
  have GPL : FnOk P w K mg base CX0 3 _ fdPL ["text", "at", "gone", "come"] (sp_plain K) := ok_plain FPL T FN FG FB
  have GPW : FnOk P w K mg base CX0 4 _ fdPW ["self", "change"] (sp_write K) := ok_Person_write FPW T FW FC FS FN FV FU FM FO FG FB FP FA FB2
  have bPL : KBn K fdPL ["text", "at", "gone", "come"] 2 ["gone", "come"] (fun us ws => us ++ ws) (fun vs zs => vs ++ zs) := kbnN FPL fun _ _ _ _ _ _ us ws h1 h2 => match us, ws, h1, h2 with | [_, _], [_, _], _, _ => rfl
  have bTK : Binds K fdTK ["_law_pool_here", "_law_many"] [] := FTK.bindsN fun _ _ _ _ _ _ us hl => match us, hl with | [_, _], _ => rfl
  have bPT : Binds K fdPT ["self"] [] := FPT.bindsN fun _ _ _ _ _ _ us hl => match us, hl with | [_], _ => rfl
  have bPW : Binds K fdPW ["self", "change"] [] := FPW.bindsN fun _ _ _ _ _ _ us hl => match us, hl with | [_, _], _ => rfl
  refine F.ok sc__law_write (fun vs H Q E h => ?_) (fun cdv A outer s H vs Q E hr h => ?_)
  · obtain ⟨p, q, o, lp, dx, hb, nm, R, left, dr, puts, rfl, ⟨x, y, hp, hx, hy, hy2⟩, ⟨uv, pl, h1, CU, hpl⟩, ho, hlp, nplp, cu, hmk, htl, hll, hdl, hpu, hch, q0⟩ := h
    rfl
  · obtain ⟨p, q, o, lp, dx, hb, nm, R, left, dr, puts, rfl, ⟨x, y, hp, hx, hy, hy2⟩, ⟨uv, pl, h1, CU, hpl⟩, ho, hlp, nplp, cu, hmk, htl, hll, hdl, hpu, hch, q0⟩ := h
    have hr1 : Room 1 _ := hr.mono (by decide)
    have hr3 : Room 3 _ := hr.mono (by decide)
    refine ⟨_, PSs.nox (pss_cons (ps_set (i := 3) sc__law_write.nd rfl (.inl rfl) (pe_meth0 (pv 1) T.c_Person T.m_Person_text GPT hr1 bPT .nil pass0))
  (pss_cons (ps_set (i := 4) sc__law_write.nd rfl (.inl rfl) (pe_call GTK hr1 (by rfl) T.glo FTK.kp bTK .nil pass0 (pa_cons (pv 0) (pa_cons (pe_op op_add (pe_callB call_len (by rfl) T.free (by decide +kernel) (pa_cons (pv 3) pa_nil)) pe_int) pa_nil))))
  (pss_cons (ps_set (i := 5) sc__law_write.nd rfl (.inl rfl) (pe_call GTK hr1 (by rfl) T.glo FTK.kp bTK .nil pass0 (pa_cons (pv 0) (pa_cons (pe_op op_add (pe_callB (call_min2 rfl) (by rfl) T.free (by decide +kernel) (pa_cons pe_int (pa_cons (pe_op op_sub (pe_callB call_len (by rfl) T.free (by decide +kernel) (pa_cons (pv 3) pa_nil)) (pv 4)) pa_nil))) pe_int) pa_nil))))
  (pss_cons (ps_set (i := 6) sc__law_write.nd rfl (.inl rfl) (pe_callB (call_min2 rfl) (by rfl) T.free (by decide +kernel) (pa_cons (pe_call GTK hr1 (by rfl) T.glo FTK.kp bTK .nil pass0 (pa_cons (pv 0) (pa_cons pe_int pa_nil))) (pa_cons (pe_callB call_len (by rfl) T.free (by decide +kernel) (pa_cons (pe_dget (hu_of hr) (pv 2) pe_str (fun _ _ => rfl)) pa_nil)) pa_nil))))
  (pss_cons (ps_set (i := 7) sc__law_write.nd rfl (.inl rfl) (pe_slice sl_str (pe_dget (hu_of hr) (pv 2) pe_str (fun _ _ => rfl)) po_none (po_some (pv 6))))
  (pss_cons (ps_dput (hu_of hr) (pv 2) pe_str (pe_slice sl_str (pe_dget (hu_of hr) (pv 2) pe_str (fun _ _ => rfl)) (po_some (pv 6)) po_none) rfl)
  (pss_cons (ps_expr (pe_bm PySem.F.plainAttrs_list PySem.F.slot_list_append PySem.F.type_list_append mt_append (pe_dget (hu_of hr) (pv 2) pe_str (fun _ _ => rfl)) (pa_cons (pv 7) pa_nil)))
  (pss_cons (ps_dput (hu_of hr) (pv 2) pe_str (pe_op op_add_str (pe_dget (hu_of hr) (pv 2) pe_str (fun _ _ => rfl)) (pe_slice sl_str (pv 3) (po_some (pv 4)) (po_some (pe_op op_add (pv 4) (pv 5))))) rfl)
  (pss_one (ps_expr (pe_meth (pv 1) T.c_Person T.m_Person_write GPW hr bPW .nil pass0 (pa_cons (pe_callN GPL hr3 (by rfl) T.glo FPL.kp bPL pass0 (pa_cons (pv 3) (pa_cons (pv 4) pa_nil)) (pk_cons (pv 5) (pk_cons (pv 7) pk_nil))) pa_nil)))))))))))), ?_⟩
    have hlen : sizeLine = 16777216 := sizeLine_eq
    have npq : p ≠ q := fun z => by rw [z, h1] at hp; cases hp
    have npo : p ≠ o := fun z => by rw [z, ho] at hp; cases hp
    have nqo : q ≠ o := fun z => by rw [z, ho] at h1; cases h1
    have nqlp : q ≠ lp := fun z => by rw [z, hlp] at h1; cases h1
    have nolp : o ≠ lp := fun z => by rw [z, hlp] at ho; cases ho
    refine ⟨_, rfl, q, dx, _, rfl, h1, rfl, q, dx, hb, nm, R.t, R.hd, uv, pl, rfl, h1, ?_⟩
    refine ⟨_, rfl, _, rfl, _, _, rfl, ⟨by rw [S_len]; exact Nat.le_of_lt (small (by omega)), rfl⟩, _, _, rfl, rfl, p, _, x, y, rfl, hp, hx, hy, hy2, by omega, by rw [S_len]; omega, fun r1 x1 y1 r10 r11 hx1 hy1 hy12 => ?_⟩
    rw [S_len] at r11
    obtain ⟨a, rfl⟩ := Int.eq_ofNat_of_zero_le r10
    have ha : a ≤ R.t.length := by omega
    refine ⟨_, rfl, _, rfl, _, _, rfl, ⟨by rw [S_len]; exact Nat.le_of_lt (small (by omega)), rfl⟩, _, rfl, _, _, rfl, rfl, _, _, rfl, _, _, rfl, rfl, p, _, x1, y1, rfl, upd_same, hx1, hy1, hy12, ?_, ?_, fun r2 x2 y2 r20 r21 hx2 hy2' hy22 => ?_⟩
    · rw [S_len]
      split <;> omega
    · rw [S_len]
      split <;> omega
    rw [S_len] at r21
    obtain ⟨g, rfl⟩ := Int.eq_ofNat_of_zero_le r20
    have hg : a + g ≤ R.t.length ∧ g ≤ 3 := by
      split at r21 <;> omega
    refine ⟨_, rfl, p, _, x2, y2, rfl, upd_same, hx2, hy2', hy22, by decide, by decide, fun r3 x3 y3 r30 r31 hx3 hy3 hy32 => ?_⟩
    obtain ⟨m0, rfl⟩ := Int.eq_ofNat_of_zero_le r30
    have e3 : upd (upd (upd H p (.lst [.int x1, .int y1])) p (.lst [.int x2, .int y2])) p (.lst [.int x3, .int y3]) = upd H p (.lst [.int x3, .int y3]) := funext fun b => by
      by_cases hb' : b = p
      · rw [hb', upd_same, upd_same]
      · rw [upd_ne hb', upd_ne hb', upd_ne hb', upd_ne hb']
    rw [e3]
    have kp : ∀ b u, H b = some u → b ≠ p → upd H p (.lst [.int x3, .int y3]) b = some u := fun b u e n => by
      rw [upd_ne n]
      exact e
    have hp3 : upd H p (.lst [.int x3, .int y3]) p = some (.lst [.int x3, .int y3]) := upd_same
    have imP : Im H (upd H p (.lst [.int x3, .int y3])) := im_set hp rfl
    generalize upd H p (.lst [.int x3, .int y3]) = H3 at kp hp3 imP ⊢
    have ho3 := kp _ _ ho npo.symm
    have h13 := kp _ _ h1 npq.symm
    have hlp3 := kp _ _ hlp nplp.symm
    refine ⟨_, rfl, o, _, rfl, gd_left ho3, _, _, rfl, ⟨by rw [S_len]; exact Nat.le_of_lt (small (by omega)), rfl⟩, _, _, rfl, ?_⟩
    obtain ⟨m, em, hm, hm3⟩ : ∃ m : Nat, (if ((S left).length : Int) < (m0 : Int) then ((S left).length : Int) else (m0 : Int)) = (m : Int) ∧ m ≤ left.length ∧ m ≤ 3 := by
      rw [S_len]
      split
      · exact ⟨_, rfl, Nat.le_refl _, by omega⟩
      · exact ⟨_, rfl, by omega, by omega⟩
    rw [em]
    refine ⟨_, rfl, o, _, rfl, gd_left ho3, _, rfl, _, rfl, S left, rfl, by rw [S_len]; exact Nat.le_of_lt (small (by omega)), ?_⟩
    rw [cut_to _ _ hm]
    refine ⟨_, rfl, o, _, rfl, gd_left ho3, _, rfl, _, rfl, S left, rfl, by rw [S_len]; exact Nat.le_of_lt (small (by omega)), ?_⟩
    rw [cut_from _ _ hm]
    refine ⟨_, rfl, o, _, rfl, pd_left ho3, ?_⟩
    have ho4 : upd H3 o (.dK (dOwn (left.drop m) lp dr)) o = some (.dK (dOwn (left.drop m) lp dr)) := upd_same
    have hlp4 : upd H3 o (.dK (dOwn (left.drop m) lp dr)) lp = some (.lst (puts.map fun s => V.str (S s))) := by rw [upd_ne nolp.symm]; exact hlp3
    refine ⟨_, rfl, o, _, rfl, gd_puts ho4, .inl ⟨rfl, _, SqL.of hlp4⟩, _, rfl, lp, _, _, rfl, rfl, hlp4, by rw [List.length_map]; exact small (by omega), ?_⟩
    have ho5 : upd (upd H3 o (.dK (dOwn (left.drop m) lp dr))) lp (.lst ((puts.map fun s => V.str (S s)) ++ [V.str (S (left.take m))])) o = some (.dK (dOwn (left.drop m) lp dr)) := by rw [upd_ne nolp]; exact upd_same
    refine ⟨_, rfl, o, _, rfl, gd_dropped ho5, _, rfl, _, rfl, _, rfl, _, rfl, _, rfl, _, _, rfl, rfl, _, rfl, S R.t, rfl, by rw [S_len]; exact Nat.le_of_lt (small (by omega)), ?_⟩
    rw [cut_mid _ _ _ hg.1]
    have lg : ((R.t.drop a).take g).length ≤ 3 := Nat.le_trans (List.length_take_le _ _) hg.2
    refine ⟨_, _, rfl, rfl, by rw [S_len, S_len]; exact Nat.le_of_lt (small (by omega)), ?_⟩
    rw [S_cat]
    refine ⟨_, rfl, o, _, rfl, pd_dropped ho5, ?_⟩
    generalize eH : upd (upd (upd H3 o (.dK (dOwn (left.drop m) lp dr))) lp (.lst ((puts.map fun s => V.str (S s)) ++ [V.str (S (left.take m))]))) o (.dK (dOwn (left.drop m) lp (dr ++ (R.t.drop a).take g))) = H6
    have k6 : ∀ b u, H3 b = some u → b ≠ o → b ≠ lp → H6 b = some u := fun b u e n1 n2 => by
      rw [← eH, upd_ne n1, upd_ne n2, upd_ne n1]
      exact e
    have ho6 : H6 o = some (.dK (dOwn (left.drop m) lp (dr ++ (R.t.drop a).take g))) := by rw [← eH]; exact upd_same
    have hlp6 : H6 lp = some (.lst ((puts.map fun s => V.str (S s)) ++ [V.str (S (left.take m))])) := by rw [← eH, upd_ne nolp.symm]; exact upd_same
    have im6 : Im H H6 := fun b u e z => k6 b u (imP b u e z) (fun w => by
      rw [w, ho] at e
      cases e
      cases z) (fun w => by
      rw [w, hlp] at e
      cases e
      cases z)
    have h16 := k6 _ _ h13 nqo nqlp
    have lf : (left.take m).length ≤ 100 := Nat.le_trans (List.length_take_le' _ _) hll
    have po := plain_out (come := left.take m) hg.1 (by omega) (fun n hn => hch n (List.mem_of_mem_take hn))
    refine ⟨_, rfl, q, dx, _, rfl, h16, rfl, _, rfl, _, rfl, _, rfl, _, rfl, rfl, rfl, R.t, left.take m, a, g, rfl, hg.1, by omega, po.items, fun v H7 k7 C7 => ?_⟩
    refine ⟨q, dx, hb, nm, R.t, R.hd, R.u, v, _, rfl, ⟨uv, pl, k7 _ _ h16, CU.im (im6.trans k7.im), hpl⟩, C7, cu, po.cn, po.want.symm, hmk.symm.trans po.want.symm, fun H8 k8 P8 => ?_⟩
    rw [po.run] at P8
    have lw : wanted R.u = wanted R.u := rfl
    refine q0 a g m H8 hg.1 hg.2 hm3 (fun b u e n1 n2 n3 n4 => k8 _ _ (k7 _ _ (k6 _ _ (kp _ _ e n1) n3 n4)) n2) ⟨x3, y3, k8 _ _ (k7 _ _ (k6 _ _ hp3 npo nplp)) npq, hx3, hy3, hy32⟩ P8 (k8 _ _ (k7 _ _ ho6) nqo.symm) ?_
    rw [List.map_append]
    exact k8 _ _ (k7 _ _ hlp6) nqlp.symm
end
end K78
set_option Elab.async false
set_option linter.all false
set_option maxRecDepth 100000
set_option maxHeartbeats 4000000
namespace K78
open PySem PySem.Spec PyProof.Rows L2 SX
section
variable {P : Program} {w : World} {K : PySem.W.Frag} {mg : Str → Option Value} {base : Heap} {fd : FuncData}
/-! ### lists of whole numbers and of signs as data -/
theorem dp_map {H : Hp} {α : Type} (f : α → V) (g : α → PyData) (h : ∀ x, Dp K H (f x) (g x)) : ∀ l : List α, DpAll K H (l.map f) (l.map g)
  | [] => .nil
  | x :: l => .cons (h x) (dp_map f g h l)
theorem can_map {α : Type} (g : α → PyData) (h : ∀ x, (g x).canLay0 = true) : ∀ l : List α, PyData.canLayAll0 (l.map g) = true
  | [] => rfl
  | x :: l => by
    show ((g x).canLay0 && PyData.canLayAll0 (l.map g)) = true
    rw [h x, can_map g h l]
    rfl
theorem dep_map {α : Type} (g : α → PyData) (h : ∀ x, (g x).depth ≤ 1) : ∀ l : List α, PyData.depthAll (l.map g) ≤ 1
  | [] => Nat.zero_le _
  | x :: l => Nat.max_le.mpr ⟨h x, dep_map g h l⟩
theorem shaped_map {α : Type} (g : α → PyData) (h1 : ∀ x, (g x).canLay0 = true) (h2 : ∀ x, (g x).depth ≤ 1) (l : List α) : SeqAt.shaped (.list (l.map g)) = true := by
  have e1 : PyData.canLay0 (.list (l.map g)) = true := can_map g h1 l
  have e2 : (PyData.list (l.map g)).depth ≤ 64 := by
    show PyData.depthAll (l.map g) + 1 ≤ 64
    have := dep_map g h2 l
    omega
  unfold SeqAt.shaped
  rw [e1, decide_eq_true e2]
  rfl
theorem eqv_map {α : Type} (g : α → PyData) (h1 : ∀ x, (g x).canLay0 = true) (l : List α) : PyData.eqv (.list (l.map g)) (.list (l.map g)) = true := SeqAt.eqv_refl _ (can_map g h1 l)
/-! ### where a sign stands -/
theorem idx_at {t : List Nat} {c : Nat} (h : c ∈ t) : t[t.idxOf c]? = some c := by
  have hl := List.idxOf_lt_length_of_mem h
  rw [List.getElem?_eq_getElem hl, List.getElem_idxOf hl]
theorem index_one {t : List Nat} {c : Nat} (nd : t.Nodup) (h : c ∈ t) : ∃ r, Builtin.Str.occurrences (S t) (S [c]) 0 (S t).length 1 = t.idxOf c :: r := by
  rcases StrLaws.occ_head (S t) (S [c]) 1 (Nat.le_refl _) with ⟨_, no⟩ | ⟨i, r, e, hA, _⟩
  · exact absurd ((StrLaws.subAt_one (S t) c _).mpr (idx_at h)) (no _)
  · have hi : t[i]? = some c := (StrLaws.subAt_one (S t) c i).mp hA
    have hl := (List.getElem?_eq_some_iff.mp hi).1
    have := nd.idxOf_getElem i hl
    rw [(List.getElem?_eq_some_iff.mp hi).2] at this
    exact ⟨r, by rw [e, this]⟩
theorem idx_up {t : List Nat} (nd : t.Nodup) : t.Pairwise fun a b => t.idxOf a ≤ t.idxOf b := by
  rw [List.pairwise_iff_getElem]
  intro i j hi hj hij
  rw [nd.idxOf_getElem i hi, nd.idxOf_getElem j hj]
  omega
theorem same_filter {s t : List Nat} (ns : s.Nodup) (nt : t.Nodup) (h : (t.filter (mem s)).Sublist s) : s.filter (mem t) = t.filter (mem s) := by
  have h2 := h.filter (mem t)
  have e : (t.filter (mem s)).filter (mem t) = t.filter (mem s) := filter_all fun x hx => decide_eq_true (List.mem_filter.mp hx).1
  rw [e] at h2
  refine (h2.eq_of_length (Nat.le_antisymm h2.length_le (len_sub (ns.filter _) fun x hx => ?_))).symm
  obtain ⟨h3, h4⟩ := List.mem_filter.mp hx
  exact List.mem_filter.mpr ⟨of_decide_eq_true h4, decide_eq_true h3⟩
def idxs (t s : List Nat) : List Int := (s.filter (mem t)).map fun c => ((t.idxOf c : Nat) : Int)
theorem idxs_up {s t : List Nat} (ns : s.Nodup) (nt : t.Nodup) (h : (t.filter (mem s)).Sublist s) : (idxs t s).Pairwise (· ≤ ·) := by
  unfold idxs
  rw [same_filter ns nt h, List.pairwise_map]
  exact ((idx_up nt).sublist List.filter_sublist).imp fun h => by omega
theorem sorted_int {l m : List Int} (h : l.Perm m) (h1 : l.Pairwise (· ≤ ·)) (h2 : m.Pairwise (· ≤ ·)) : l = m := List.Perm.eq_of_pairwise (le := (· ≤ ·)) (fun a b _ _ x y => Int.le_antisymm x y) h1 h2 h
theorem idxs_snoc {t s : List Nat} {i c : Nat} (hc : s[i]? = some c) : idxs t (s.take (i + 1)) = idxs t (s.take i) ++ if c ∈ t then [((t.idxOf c : Nat) : Int)] else [] := by
  unfold idxs
  rw [List.take_succ, hc, List.filter_append, List.map_append]
  congr 1
  by_cases h : c ∈ t
  · rw [if_pos h, show (some c).toList = [c] from rfl, List.filter_cons_of_pos (by exact decide_eq_true h)]
    rfl
  · rw [if_neg h, show (some c).toList = [c] from rfl, List.filter_cons_of_neg (by rw [show mem t c = false from decide_eq_false h]; exact Bool.false_ne_true)]
    rfl

def sc__law_in_orderN : List Str := ["_law_text", "_law_signs", "_law_places", "_law_sign"]
theorem sc__law_in_order : FnScope sc__law_in_orderN ["_law_text", "_law_signs"] (defScope s__law_in_order) := ⟨rfl, rfl, rfl, by decide +kernel, rfl, by decide +kernel, by decide +kernel⟩
def sp_order : Sp := fun vs H Q _ => ∃ t s : List Nat, vs = [.str (S t), .str (S s)] ∧ t.Nodup ∧ s.Nodup ∧ (t.filter (mem s)).Sublist s ∧ s.length < 64 ∧
  ∀ H1, Keeps H H1 → Q (.bl true) H1
theorem ok__law_in_order (F : FnP K d__law_in_order fd) (T : Tx K mg) : FnOk P w K mg base CX0 2 (He.fAd K d__law_in_order.at_) fd ["_law_text", "_law_signs"] (sp_order) := by
  refine F.ok sc__law_in_order (fun vs H Q E h => ?_) (fun cdv A outer s H vs Q E hr h => ?_)
  · obtain ⟨t, s, rfl, nt, ns, hs, hl, q⟩ := h
    rfl
  · obtain ⟨t, s, rfl, nt, ns, hs, hl, q⟩ := h
    refine ⟨_, PSs.nox (pss_cons (ps_setLc (i := 2) (own := [("_law_sign", 3)]) (g := (gName 3)) rfl sc__law_in_order.nd rfl rfl (sw_true rfl rfl rfl (by decide +kernel)) (pi_str (pv 1)) (blkOk_by (N := sc__law_in_orderN) (sc := defScope s__law_in_order) (by decide +kernel)) (fun _ _ _ _ _ => (pg_name (i := 3) sc__law_in_order.nd rfl (.inl rfl))) (fun _ _ _ _ _ => (pts_one (pt_cmpR op_in_sign (pv 3) (pv 0) (by rfl)))) (fun _ _ _ _ _ => (pe_m1 PySem.F.slot_str_index PySem.F.type_str_index mt_sindex (pv 0) (pv 3))))
  (pss_one (ps_ret (pe_cmpR (op_eqD hr.units) (pv 2) (pe_callB cr_sorted (by rfl) T.free (by decide +kernel) (pa_cons (pv 2) pa_nil)) (nomark _))))), ?_⟩
    refine ⟨_, rfl, S s, rfl, fun D nD => lc_it walk_str (fun i H' => KB D (upd H D (.lst [])) H' ∧ H' D = some (.lst ((idxs t (s.take i)).map V.int))) ⟨KB.refl _ _, upd_same⟩ (fun _ _ _ _ => trivial) ?_ ?_⟩
    · rintro i y H1 H2 hi ⟨kb, hD⟩ ⟨rfl, c, hcc, rfl⟩
      have hc : s[i]? = some c := by
        rw [← Array.getElem?_toList] at hcc
        exact hcc
      refine ⟨rfl, _, rfl, _, rfl, c, S t, rfl, rfl, _, rfl, ?_⟩
      have es := idxs_snoc (t := t) hc
      by_cases h : c ∈ t
      · rw [if_pos h] at es
        show if decide (c ∈ t) = true then _ else _
        rw [decide_eq_true h]
        obtain ⟨r, er⟩ := index_one nt h
        refine iteT ⟨_, rfl, ⟨_, rfl⟩, _, rfl, S t, S [c], _, r, rfl, rfl, er, _, hD, ?_, kb.set, ?_⟩
        · rw [List.length_map]
          unfold idxs
          rw [List.length_map]
          exact small (Nat.le_trans (List.length_filter_le _ _) (Nat.le_trans (List.length_take_le' _ _) (by omega)))
        · rw [upd_same, es, List.map_append]
          rfl
      · rw [if_neg h] at es
        show if decide (c ∈ t) = true then _ else _
        rw [decide_eq_false h]
        refine iteF ⟨kb, ?_⟩
        rw [hD, es, List.append_nil]
    · rintro H1 ⟨kb, hD⟩
      have eT : s.take (S s).cps.size = s := List.take_of_length_le (by show s.length ≤ (s.toArray).size; rw [List.size_toArray]; exact Nat.le_refl _)
      rw [eT] at hD
      have k1 := KB.keeps ((Keeps.refl H).new nD) nD kb
      refine ⟨_, rfl, _, rfl, D, idxs t s, rfl, SqL.of hD, ?_, fun ns' p hp hu np => ?_⟩
      · unfold idxs
        rw [List.length_map]
        exact Nat.lt_of_le_of_lt (List.length_filter_le _ _) hl
      · have e := sorted_int hp hu (idxs_up ns nt hs)
        subst e
        have hz := keeps_new (o := .lst ((idxs t s).map V.int)) np
        refine ⟨_, _, .lst (SqL.of (hz _ _ hD)) (dp_map V.int PyData.int (fun i => .int i) _), .lst (SqL.of upd_same) (dp_map V.int PyData.int (fun i => .int i) _), shaped_map _ (fun _ => rfl) (fun _ => by simp [PyData.depth]) _, shaped_map _ (fun _ => rfl) (fun _ => by simp [PyData.depth]) _, ?_⟩
        rw [eqv_map _ (fun _ => rfl)]
        exact q _ (k1.new np)
end
end K78
set_option Elab.async false
set_option linter.all false
set_option maxRecDepth 100000
set_option maxHeartbeats 1000000
namespace K78
open PySem PySem.Spec PyProof.Rows L2 SX
section
variable {K : PySem.W.Frag}
/-- the objects that a cell's turns may change -/
structure Ad where
  p : Addr
  o : Addr
  lp : Addr
  hb : Addr
  lc : Addr
  pl : Addr
  dxh : Addr
  a : Nat → Addr
  dx : Nat → Addr
  nm : Nat → Str
structure Ad.Ok (A : Ad) (Hb : Hp) : Prop where
  fp : Hb A.p = none
  fo : Hb A.o = none
  flp : Hb A.lp = none
  fhb : Hb A.hb = none
  flc : Hb A.lc = none
  fpl : Hb A.pl = none
  fa : ∀ i, i < 3 → Hb (A.a i) = none
  lplp : A.p ≠ A.lp
  plc : A.p ≠ A.lc
  lplc : A.lp ≠ A.lc
  ppl : A.p ≠ A.pl
  lppl : A.lp ≠ A.pl
  lcpl : A.lc ≠ A.pl
  aa : ∀ i j, i < 3 → j < 3 → i ≠ j → A.a i ≠ A.a j
/-- where all stands -/
structure Wd (K : PySem.W.Frag) (Hb H : Hp) (A : Ad) (first : List Nat) (cs : List Ch) (ps : List PS) (left : List Nat) (puts : List (List Nat)) (dr : List Nat) : Prop where
  ad : A.Ok Hb
  kp : Keeps Hb H
  pool : PoolAt H A.p
  own : H A.o = some (.dK (dOwn left A.lp dr))
  put : H A.lp = some (.lst (puts.map fun s => V.str (S s)))
  hub : HubAt K H A.hb A.dxh A.lc (hT first cs cs.length) cs
  lst : H A.pl = some (.lst [.ref (A.a 0), .ref (A.a 1), .ref (A.a 2)])
  per : ∀ i P, ps[i]? = some P → PerAt K H (A.a i) (A.dx i) A.hb (A.nm i) P.t P.hd P.u
  n3 : ps.length = 3
  j : J first cs ps left puts dr
variable {Hb H H1 : Hp} {A : Ad} {first : List Nat} {cs : List Ch} {ps : List PS} {left : List Nat} {puts : List (List Nat)} {dr : List Nat} {i : Nat} {P : PS}
theorem Wd.lt (W : Wd K Hb H A first cs ps left puts dr) (hi : ps[i]? = some P) : i < 3 := W.n3 ▸ (List.getElem?_eq_some_iff.mp hi).1
theorem Wd.get (W : Wd K Hb H A first cs ps left puts dr) (hi : i < 3) : ∃ P, ps[i]? = some P := ⟨_, List.getElem?_eq_getElem (by rw [W.n3]; exact hi)⟩
/-- the kinds of the objects -/
structure Ne (A : Ad) (i : Nat) : Prop where
  ap : A.a i ≠ A.p
  ao : A.a i ≠ A.o
  alp : A.a i ≠ A.lp
  ahb : A.a i ≠ A.hb
  alc : A.a i ≠ A.lc
  apl : A.a i ≠ A.pl
structure Ne2 (A : Ad) : Prop where
  hbp : A.hb ≠ A.p
  hbo : A.hb ≠ A.o
  hblp : A.hb ≠ A.lp
  hblc : A.hb ≠ A.lc
  hbpl : A.hb ≠ A.pl
  op : A.o ≠ A.p
  olp : A.o ≠ A.lp
  olc : A.o ≠ A.lc
  opl : A.o ≠ A.pl
theorem Wd.ne (W : Wd K Hb H A first cs ps left puts dr) (hi : ps[i]? = some P) (nh : A.a i ≠ A.hb) : Ne A i := by
  obtain ⟨v, pl, h, _⟩ := W.per i P hi
  obtain ⟨x, y, hp, _⟩ := W.pool
  obtain ⟨_, vs, hl, _⟩ := W.hub
  exact ⟨fun z => (by rw [z, hp] at h; cases h), fun z => (by rw [z, W.own] at h; cases h), fun z => (by rw [z, W.put] at h; cases h), nh, fun z => (by rw [z, hl] at h; cases h), fun z => (by rw [z, W.lst] at h; cases h)⟩
theorem Wd.neh (W : Wd K Hb H A first cs ps left puts dr) (hi : ps[i]? = some P) : A.a i ≠ A.hb := by
  obtain ⟨v, pl, h, _⟩ := W.per i P hi
  obtain ⟨hh, _⟩ := W.hub
  intro z
  rw [z, hh] at h
  have h := HO.ins.inj (Option.some.inj h)
  have e : (7 : Nat) = 2 ∨ (2 : Nat) = 7 := by first | exact .inr (congrArg List.length h.2.2) | exact .inl (congrArg List.length h.2.2)
  omega
theorem Wd.ne1 (W : Wd K Hb H A first cs ps left puts dr) (hi : ps[i]? = some P) : Ne A i := W.ne hi (W.neh hi)
theorem Wd.ne2 (W : Wd K Hb H A first cs ps left puts dr) : Ne2 A := by
  obtain ⟨x, y, hp, _⟩ := W.pool
  obtain ⟨h, vs, hl, _⟩ := W.hub
  have o := W.own
  exact ⟨fun z => (by rw [z, hp] at h; cases h), fun z => (by rw [z, W.own] at h; cases h), fun z => (by rw [z, W.put] at h; cases h), fun z => (by rw [z, hl] at h; cases h), fun z => (by rw [z, W.lst] at h; cases h),
    fun z => (by rw [z, hp] at o; cases o), fun z => (by rw [z, W.put] at o; cases o), fun z => (by rw [z, hl] at o; cases o), fun z => (by rw [z, W.lst] at o; cases o)⟩
theorem PerAt.keep {p dx hb : Addr} {nm : Str} {t : List Nat} {hd : Nat} {u : Ch} (h : PerAt K H p dx hb nm t hd u) (e : ∀ o, H p = some o → H1 p = some o) (i : Im H H1) : PerAt K H1 p dx hb nm t hd u := by
  obtain ⟨v, pl, h1, h2, h3⟩ := h
  exact ⟨v, pl, e _ h1, h2.im i, h3⟩
theorem HubAt.keep {hb dx lc : Addr} {t : List Nat} {cs : List Ch} (h : HubAt K H hb dx lc t cs) (e : ∀ o, H hb = some o → H1 hb = some o) (e2 : ∀ o, H lc = some o → H1 lc = some o) (i : Im H H1) : HubAt K H1 hb dx lc t cs := by
  obtain ⟨h1, vs, h2, h3⟩ := h
  exact ⟨e _ h1, vs, e2 _ h2, h3.im i⟩
theorem PoolAt.keep {p : Addr} (h : PoolAt H p) (e : ∀ o, H p = some o → H1 p = some o) : PoolAt H1 p := by
  obtain ⟨x, y, h, r⟩ := h
  exact ⟨x, y, e _ h, r⟩
theorem set_at {l : List PS} {i k : Nat} {P Q : PS} (h : (l.set i P)[k]? = some Q) : (k = i ∧ Q = P) ∨ (k ≠ i ∧ l[k]? = some Q) := by
  by_cases e : k = i
  · subst e
    have hl : k < l.length := by
      have := (List.getElem?_eq_some_iff.mp h).1
      rwa [List.length_set] at this
    rw [List.getElem?_set_self hl] at h
    exact .inl ⟨rfl, (Option.some.inj h).symm⟩
  · rw [List.getElem?_set_ne (fun z => e z.symm)] at h
    exact .inr ⟨e, h⟩
/-- the draws' list is written only -/
theorem Wd.drawn (W : Wd K Hb H A first cs ps left puts dr) (k : ∀ b u, H b = some u → b ≠ A.p → H1 b = some u) (hp : PoolAt H1 A.p) : Wd K Hb H1 A first cs ps left puts dr := by
  have n2 := W.ne2
  have ok := W.ad
  have im : Im H H1 := fun b u e z => k b u e fun w => by
    obtain ⟨x, y, h, _⟩ := W.pool
    rw [w, h] at e
    cases e
    cases z
  exact ⟨ok, fun b u e => k b u (W.kp b u e) (ne_of_none e ok.fp), hp, k _ _ W.own n2.op, k _ _ W.put ok.lplp.symm, W.hub.keep (fun o e => k _ _ e n2.hbp) (fun o e => k _ _ e ok.plc.symm) im, k _ _ W.lst ok.ppl.symm,
    fun i P hi => (W.per i P hi).keep (fun o e => k _ _ e (W.ne1 hi).ap) im, W.n3, W.j⟩
/-- nothing of it is written -/
theorem Wd.keep (W : Wd K Hb H A first cs ps left puts dr) (k : Keeps H H1) : Wd K Hb H1 A first cs ps left puts dr := W.drawn (fun b u e _ => k b u e) (W.pool.keep fun o e => k _ _ e)
theorem Wd.wrote (W : Wd K Hb H A first cs ps left puts dr) (hi : ps[i]? = some P) {a g m : Nat} (hag : a + g ≤ P.t.length) (k : ∀ b u, H b = some u → b ≠ A.p → b ≠ A.a i → b ≠ A.o → b ≠ A.lp → H1 b = some u)
    (hp : PoolAt H1 A.p) (hq : PerAt K H1 (A.a i) (A.dx i) A.hb (A.nm i) (wrote P a g m left).t (wrote P a g m left).hd (wrote P a g m left).u) (ho : H1 A.o = some (.dK (dOwn (left.drop m) A.lp (dr ++ (P.t.drop a).take g))))
    (hl : H1 A.lp = some (.lst ((puts ++ [left.take m]).map fun s => V.str (S s)))) : Wd K Hb H1 A first cs (ps.set i (K78.wrote P a g m left)) (left.drop m) (puts ++ [left.take m]) (dr ++ (P.t.drop a).take g) := by
  have n2 := W.ne2
  have n1 := W.ne1 hi
  have ok := W.ad
  have h3 := W.lt hi
  have im : Im H H1 := fun b u e z => k b u e (fun w => by
    obtain ⟨x, y, h, _⟩ := W.pool
    rw [w, h] at e
    cases e
    cases z) (fun w => by
    obtain ⟨x, y, h, _⟩ := W.per i P hi
    rw [w, h] at e
    cases e
    cases z) (fun w => by
    rw [w, W.own] at e
    cases e
    cases z) (fun w => by
    rw [w, W.put] at e
    cases e
    cases z)
  refine ⟨ok, fun b u e => k b u (W.kp b u e) (ne_of_none e ok.fp) (ne_of_none e (ok.fa i h3)) (ne_of_none e ok.fo) (ne_of_none e ok.flp), hp, ho, hl, W.hub.keep (fun o e => k _ _ e n2.hbp n1.ahb.symm n2.hbo n2.hblp) (fun o e => k _ _ e ok.plc.symm n1.alc.symm n2.olc.symm ok.lplc.symm) im,
    k _ _ W.lst ok.ppl.symm n1.apl.symm n2.opl.symm ok.lppl.symm, fun q Q hQ => ?_, by rw [List.length_set]; exact W.n3, W.j.write hi hag⟩
  rcases set_at hQ with ⟨rfl, rfl⟩ | ⟨nq, hQ⟩
  · exact hq
  · have nq1 := W.ne1 hQ
    exact (W.per q Q hQ).keep (fun o e => k _ _ e nq1.ap (ok.aa q i (W.lt hQ) h3 nq) nq1.ao nq1.alp) im
theorem Wd.heard (W : Wd K Hb H A first cs ps left puts dr) (hi : ps[i]? = some P) (k : ∀ b u, H b = some u → b ≠ A.a i → H1 b = some u) (hq : PerAt K H1 (A.a i) (A.dx i) A.hb (A.nm i) (heardAll cs P).t (heardAll cs P).hd (heardAll cs P).u) :
    Wd K Hb H1 A first cs (ps.set i (heardAll cs P)) left puts dr := by
  have n2 := W.ne2
  have n1 := W.ne1 hi
  have ok := W.ad
  have h3 := W.lt hi
  have im : Im H H1 := fun b u e z => k b u e (fun w => by
    obtain ⟨x, y, h, _⟩ := W.per i P hi
    rw [w, h] at e
    cases e
    cases z)
  have hd := (W.j.per P (List.mem_of_getElem? hi)).hd
  refine ⟨ok, fun b u e => k b u (W.kp b u e) (ne_of_none e (ok.fa i h3)), W.pool.keep fun o e => k _ _ e n1.ap.symm, k _ _ W.own n1.ao.symm, k _ _ W.put n1.alp.symm, W.hub.keep (fun o e => k _ _ e n1.ahb.symm) (fun o e => k _ _ e n1.alc.symm) im,
    k _ _ W.lst n1.apl.symm, fun q Q hQ => ?_, by rw [List.length_set]; exact W.n3, (W.j.hear (cs.length - P.hd) hi (by omega)).2⟩
  rcases set_at hQ with ⟨rfl, rfl⟩ | ⟨nq, hQ⟩
  · exact hq
  · exact (W.per q Q hQ).keep (fun o e => k _ _ e (ok.aa q i (W.lt hQ) h3 nq)) im
theorem Wd.sent (W : Wd K Hb H A first cs ps left puts dr) (hi : ps[i]? = some P) (k : ∀ b u, H b = some u → b ≠ A.a i → b ≠ A.hb → b ≠ A.lc → H1 b = some u)
    (hq : PerAt K H1 (A.a i) (A.dx i) A.hb (A.nm i) (heardAll cs P).t (cs.length + 1) (nothing (heardAll cs P).t.length)) (hh : HubAt K H1 A.hb A.dxh A.lc (runC (heardAll cs P).u (hT first cs cs.length)) (cs ++ [(heardAll cs P).u])) :
    Wd K Hb H1 A first (cs ++ [(heardAll cs P).u]) (ps.set i (K78.sent (heardAll cs P) cs.length)) left puts dr := by
  have n2 := W.ne2
  have n1 := W.ne1 hi
  have ok := W.ad
  have h3 := W.lt hi
  have im : Im H H1 := fun b u e z => k b u e (fun w => by
    obtain ⟨x, y, h, _⟩ := W.per i P hi
    rw [w, h] at e
    cases e
    cases z) (fun w => by
    obtain ⟨h, _⟩ := W.hub
    rw [w, h] at e
    cases e
    cases z) (fun w => by
    obtain ⟨_, vs, h, _⟩ := W.hub
    rw [w, h] at e
    cases e
    cases z)
  have hd := (W.j.per P (List.mem_of_getElem? hi)).hd
  have j1 := (W.j.hear (cs.length - P.hd) hi (by omega)).2
  have hi1 : (ps.set i (heardAll cs P))[i]? = some (heardAll cs P) := List.getElem?_set_self (List.getElem?_eq_some_iff.mp hi).1
  have j2 := j1.send hi1 rfl
  rw [List.set_set] at j2
  refine ⟨ok, fun b u e => k b u (W.kp b u e) (ne_of_none e (ok.fa i h3)) (ne_of_none e ok.fhb) (ne_of_none e ok.flc), W.pool.keep fun o e => k _ _ e n1.ap.symm n2.hbp.symm ok.plc, k _ _ W.own n1.ao.symm n2.hbo.symm n2.olc, k _ _ W.put n1.alp.symm n2.hblp.symm ok.lplc, ?_,
    k _ _ W.lst n1.apl.symm n2.hbpl.symm ok.lcpl.symm, fun q Q hQ => ?_, by rw [List.length_set]; exact W.n3, j2⟩
  · rw [List.length_append, show [(heardAll cs P).u].length = 1 from rfl, hT_end]
    exact hh
  · rcases set_at hQ with ⟨rfl, rfl⟩ | ⟨nq, hQ⟩
    · exact hq
    · have nq1 := W.ne1 hQ
      exact (W.per q Q hQ).keep (fun o e => k _ _ e (ok.aa q i (W.lt hQ) h3 nq) nq1.ahb nq1.alc) im
/-- what hearing and sending ask -/
theorem Wd.asks (W : Wd K Hb H A first cs ps left puts dr) (hi : ps[i]? = some P) : P.hd ≤ cs.length ∧ hearOk (cs.drop P.hd) P.u P.t ∧ (hT first cs cs.length).length = wanted (heardAll cs P).u ∧ (heardAll cs P).t.length ≤ 80 ∧
    (heardAll cs P).t = runC (heardAll cs P).u (hT first cs cs.length) := by
  have hd := (W.j.per P (List.mem_of_getElem? hi)).hd
  obtain ⟨ok, j1⟩ := W.j.hear (cs.length - P.hd) hi (by omega)
  have hi1 : (ps.set i (heardAll cs P))[i]? = some (heardAll cs P) := List.getElem?_set_self (List.getElem?_eq_some_iff.mp hi).1
  have m := List.mem_of_getElem? hi1
  exact ⟨hd, ok, (j1.per _ m).want.symm, j1.plen m, (j1.per _ m).run⟩
/-- the first n persons have nothing unsent -/
def Qt (first : List Nat) (cs : List Ch) (ps : List PS) (n : Nat) : Prop := ∀ k Q, k < n → ps[k]? = some Q → Quiet first cs Q
theorem Wd.qheard (W : Wd K Hb H A first cs ps left puts dr) (hi : ps[i]? = some P) (n : Nat) (q : Qt first cs ps n) : Qt first cs (ps.set i (heardAll cs P)) n := fun k Q hk hQ => by
  rcases set_at hQ with ⟨rfl, rfl⟩ | ⟨_, hQ⟩
  · have hd := (W.j.per P (List.mem_of_getElem? hi)).hd
    exact J.quiet (cs.length - P.hd) W.j hi (by omega) (q _ _ hk hi)
  · exact q k Q hk hQ
theorem Wd.qnothing (W : Wd K Hb H A first cs ps left puts dr) (hi : ps[i]? = some P) (hn : (heardAll cs P).u = nothing (heardAll cs P).t.length) : Quiet first cs (heardAll cs P) := by
  have hd := (W.j.per P (List.mem_of_getElem? hi)).hd
  obtain ⟨ok, j1⟩ := W.j.hear (cs.length - P.hd) hi (by omega)
  have hi1 : (ps.set i (heardAll cs P))[i]? = some (heardAll cs P) := List.getElem?_set_self (List.getElem?_eq_some_iff.mp hi).1
  exact nothing_run' hn (j1.per _ (List.mem_of_getElem? hi1))
theorem Wd.qsent (W : Wd K Hb H A first cs ps left puts dr) (hi : ps[i]? = some P) (n : Nat) (q : ∀ k Q, k < n → k ≠ i → ps[k]? = some Q → Quiet first cs Q) : Qt first (cs ++ [(heardAll cs P).u]) (ps.set i (K78.sent (heardAll cs P) cs.length)) n := fun k Q hk hQ => by
  rcases set_at hQ with ⟨rfl, rfl⟩ | ⟨nk, hQ⟩
  · show (heardAll cs P).t = hT first (cs ++ [(heardAll cs P).u]) (cs.length + 1)
    rw [hT_end]
    exact (W.asks hi).2.2.2.2
  · have hd := (W.j.per Q (List.mem_of_getElem? hQ)).hd
    show Q.t = hT first (cs ++ [(heardAll cs P).u]) Q.hd
    rw [hT_app hd]
    exact q k Q hk nk hQ
end
end K78
set_option Elab.async false
set_option linter.all false
set_option maxRecDepth 100000
set_option maxHeartbeats 4000000
namespace K78
open PySem PySem.Spec PyProof.Rows L2 SX
section
variable {P : Program} {w : World} {K : PySem.W.Frag} {mg : Str → Option Value} {base : Heap} {fd : FuncData}
/-! ### what a cell begins with -/
def letters : Str := "abcdefghijklmnopqrstuvwxyzABCDEFGHIJKLMNOPQRSTUVWXYZ0123456789"
def lettersL : List Nat := letters.cps.toList
def punct : List Nat := ("!#$;&()*+,-/" : Str).cps.toList
theorem put_new {kvs : List (Key × V)} {k : Key} {v : V} (h : valV kvs k = none) : putK kvs k v = kvs ++ [(k, v)] := by
  unfold putK
  rw [valV_any, h]
  rfl
theorem merge_own {lp : Addr} : mergeK [] ([(.inr "left", .str letters), (.inr "puts", .ref lp), (.inr "dropped", .str "")] : List (Key × V)) = dOwn lettersL lp [] := by
  show putK (putK (putK [] (.inr "left" : Key) (V.str letters)) (.inr "puts" : Key) (.ref lp)) (.inr "dropped" : Key) (.str "") = _
  rw [put_new (k := .inr "left") (kvs := []) rfl, put_new (k := .inr "puts") (by
    show valV [((.inr "left" : Key), V.str letters)] _ = none
    rw [valV_neg k_lp]
    rfl), put_new (k := .inr "dropped") (by
    show valV [((.inr "left" : Key), V.str letters), (.inr "puts", .ref lp)] _ = none
    rw [valV_neg k_ld, valV_neg k_pd]
    rfl)]
  rfl
def nmOf : Nat → Str
  | 0 => "ann"
  | 1 => "bob"
  | _ => "cid"
theorem name_at {i : Nat} {v : V} (h : ([.str "ann", .str "bob", .str "cid"] : List V)[i]? = some v) : i < 3 ∧ v = .str (nmOf i) ∧ okName (nmOf i) = true := by
  match i, h with
  | 0, h => exact ⟨by decide, by cases h; rfl, by decide +kernel⟩
  | 1, h => exact ⟨by decide, by cases h; rfl, by decide +kernel⟩
  | 2, h => exact ⟨by decide, by cases h; rfl, by decide +kernel⟩
  | n + 3, h => cases h
/-- the persons that are made -/
def PInv (K : PySem.W.Frag) (H6 : Hp) (D : Addr) (H' : Hp) (hb : Addr) (first : List Nat) (i : Nat) : Prop := KB D (upd H6 D (.lst [])) H' ∧ ∃ as dxs : Nat → Addr, H' D = some (.lst ((List.range i).map fun j => V.ref (as j))) ∧
  (∀ j, j < i → H6 (as j) = none ∧ as j ≠ D ∧ PerAt K H' (as j) (dxs j) hb (nmOf j) first 0 (nothing first.length)) ∧ ∀ j k, j < i → k < i → j ≠ k → as j ≠ as k
theorem start_nd (n : Nat) : (punct.take n ++ lettersL).Nodup ∧ (punct.take n ++ lettersL).length ≤ 80 ∧ ∀ x ∈ punct.take n ++ lettersL, x < 128 := by
  have s : (punct.take n ++ lettersL).Sublist (punct ++ lettersL) := (List.take_sublist n punct).append (List.Sublist.refl _)
  have h1 : (punct ++ lettersL).Nodup := by decide +kernel
  have h2 : (punct ++ lettersL).length ≤ 80 := by decide +kernel
  have h3 : ∀ x ∈ punct ++ lettersL, x < 128 := by decide +kernel
  exact ⟨s.nodup h1, Nat.le_trans s.length_le h2, fun x hx => h3 x (s.subset hx)⟩
theorem ref_at {as : Nat → Addr} {q : Nat} {v : V} (h : ([.ref (as 0), .ref (as 1), .ref (as 2)] : List V)[q]? = some v) : q < 3 ∧ v = .ref (as q) := by
  match q, h with
  | 0, h => exact ⟨by decide, by cases h; rfl⟩
  | 1, h => exact ⟨by decide, by cases h; rfl⟩
  | 2, h => exact ⟨by decide, by cases h; rfl⟩
  | n + 3, h => cases h
theorem six_at {as : Nat → Addr} {i : Nat} {v : V} (h : ([.ref (as 0), .ref (as 1), .ref (as 2), .ref (as 0), .ref (as 1), .ref (as 2)] : List V)[i]? = some v) : ∃ q, q < 3 ∧ v = .ref (as q) ∧ i < 6 ∧ (i < 3 → q = i) := by
  match i, h with
  | 0, h => exact ⟨0, by decide, by cases h; rfl, by decide, fun _ => rfl⟩
  | 1, h => exact ⟨1, by decide, by cases h; rfl, by decide, fun _ => rfl⟩
  | 2, h => exact ⟨2, by decide, by cases h; rfl, by decide, fun _ => rfl⟩
  | 3, h => exact ⟨0, by decide, by cases h; rfl, by decide, fun z => by omega⟩
  | 4, h => exact ⟨1, by decide, by cases h; rfl, by decide, fun z => by omega⟩
  | 5, h => exact ⟨2, by decide, by cases h; rfl, by decide, fun z => by omega⟩
  | n + 6, h => cases h
theorem ne_noS {x y : V} (h : x = y) {A B : Prop} (q : B) : if (!decide (x = y)) = true then A else B := by
  rw [h, decide_eq_true rfl]
  exact iteF q
theorem joinL_e : ∀ ys : List (List Nat), TL.joinL [] ys = ys.flatten
  | [] => rfl
  | [x] => by simp [TL.joinL]
  | x :: y :: r => by
    have := joinL_e (y :: r)
    simp [TL.joinL] at this ⊢
    exact this
theorem join_e (ys : List (List Nat)) : Txt.join ("" : Str) (ys.map S) = S ys.flatten := by
  have e : ("" : Str) = S [] := by decide +kernel
  rw [e, join_S, joinL_e]
theorem can_signs : ∀ {m : List Nat}, (∀ c ∈ m, c < 128) → PyData.canLayAll0 (m.map fun c => PyData.str (S [c])) = true
  | [], _ => rfl
  | c :: m, h => by
    show (PyData.strOk (S [c]) && PyData.canLayAll0 (m.map fun c => PyData.str (S [c]))) = true
    rw [strOk_S (fun n hn => by
      have := h c List.mem_cons_self
      rw [List.mem_singleton.mp hn]
      omega), can_signs fun x hx => h x (List.mem_cons_of_mem _ hx)]
    rfl
theorem shaped_signs {m : List Nat} (h : ∀ c ∈ m, c < 128) : SeqAt.shaped (.list (m.map fun c => PyData.str (S [c]))) = true := by
  have e1 : PyData.canLay0 (.list (m.map fun c => PyData.str (S [c]))) = true := can_signs h
  have e2 : (PyData.list (m.map fun c => PyData.str (S [c]))).depth ≤ 64 := by
    show PyData.depthAll _ + 1 ≤ 64
    have := dep_map (fun c : Nat => PyData.str (S [c])) (fun _ => by simp [PyData.depth]) m
    omega
  unfold SeqAt.shaped
  rw [e1, decide_eq_true e2]
  rfl

def sc_lawN : List Str := ["_law_script", "_law_k", "_law_pool_here", "_law_own", "_law_first", "_law_hub", "_law_persons", "_law_turn", "_law_person", "_law_way", "_law_text", "_law_every", "_law_signs", "_law_name", "_law_sign"]
theorem sc_law : FnScope sc_lawN ["_law_script"] (defScope s_law) := ⟨rfl, rfl, rfl, by decide +kernel, rfl, by decide +kernel, by decide +kernel⟩
def spLaw (K : PySem.W.Frag) : Sp := fun vs H Q _ => ∃ (a : Addr) (ns : List Int), vs = [.ref a] ∧ SqL K H a (ns.map V.int) ∧ ns.length ≤ 63 ∧ ∀ H', Q (.bl true) H'
theorem ok_law (F : FnP K d_law fd) (T : Tx K mg) (Sd : He.SaysD [] fn K) : FnOk P w K mg base CX0 7 (He.fAd K d_law.at_) fd ["_law_script"] (spLaw K) := by
  obtain ⟨fdN, FN⟩ := Sd.def_ 0 (d := d_is_number) rfl
  have FN : FnP K d_is_number fdN := FN
  obtain ⟨fdP, FP⟩ := Sd.def_ 1 (d := d_is_part) rfl
  have FP : FnP K d_is_part fdP := FP
  obtain ⟨fdA, FA⟩ := Sd.def_ 2 (d := d_is_change) rfl
  have FA : FnP K d_is_change fdA := FA
  obtain ⟨fdW, FW⟩ := Sd.def_ 3 (d := d_wanted) rfl
  have FW : FnP K d_wanted fdW := FW
  obtain ⟨fdM, FM⟩ := Sd.def_ 4 (d := d_makes) rfl
  have FM : FnP K d_makes fdM := FM
  obtain ⟨fdS, FS⟩ := Sd.def_ 5 (d := d_spelt) rfl
  have FS : FnP K d_spelt fdS := FS
  obtain ⟨fdG, FG⟩ := Sd.def_ 6 (d := d_grown) rfl
  have FG : FnP K d_grown fdG := FG
  obtain ⟨fdB, FB⟩ := Sd.def_ 7 (d := d_change_by) rfl
  have FB : FnP K d_change_by fdB := FB
  obtain ⟨fdC, FC⟩ := Sd.def_ 8 (d := d_changed) rfl
  have FC : FnP K d_changed fdC := FC
  obtain ⟨fdPL, FPL⟩ := Sd.def_ 9 (d := d_plain) rfl
  have FPL : FnP K d_plain fdPL := FPL
  obtain ⟨fdO, FO⟩ := Sd.def_ 10 (d := d_made_of) rfl
  have FO : FnP K d_made_of fdO := FO
  obtain ⟨fdB2, FB2⟩ := Sd.def_ 11 (d := d_behind) rfl
  have FB2 : FnP K d_behind fdB2 := FB2
  obtain ⟨fdL, FL⟩ := Sd.def_ 12 (d := d_led) rfl
  have FL : FnP K d_led fdL := FL
  obtain ⟨fdD, FD⟩ := Sd.def_ 13 (d := d_beside) rfl
  have FD : FnP K d_beside fdD := FD
  obtain ⟨fdV, FV⟩ := Sd.def_ 14 (d := d_moved) rfl
  have FV : FnP K d_moved fdV := FV
  obtain ⟨fdIN, FIN⟩ := Sd.def_ 15 (d := d_is_name) rfl
  have FIN : FnP K d_is_name fdIN := FIN
  obtain ⟨fdNT, FNT⟩ := Sd.def_ 16 (d := d_change_of_nothing) rfl
  have FNT : FnP K d_change_of_nothing fdNT := FNT
  obtain ⟨fdPO, FPO⟩ := Sd.def_ 17 (d := d__law_pool) rfl
  have FPO : FnP K d__law_pool fdPO := FPO
  obtain ⟨fdTK, FTK⟩ := Sd.def_ 18 (d := d__law_take) rfl
  have FTK : FnP K d__law_take fdTK := FTK
  obtain ⟨fdON, FON⟩ := Sd.def_ 19 (d := d__law_one) rfl
  have FON : FnP K d__law_one fdON := FON
  obtain ⟨fdLW, FLW⟩ := Sd.def_ 20 (d := d__law_write) rfl
  have FLW : FnP K d__law_write fdLW := FLW
  obtain ⟨fdOR, FOR⟩ := Sd.def_ 21 (d := d__law_in_order) rfl
  have FOR : FnP K d__law_in_order fdOR := FOR
  obtain ⟨fdHI, FHI⟩ := Sd.def_ 23 (d := d_Hub_init) rfl
  have FHI : FnP K d_Hub_init fdHI := FHI
  obtain ⟨fdLN, FLN⟩ := Sd.def_ 24 (d := d_Hub_len) rfl
  have FLN : FnP K d_Hub_len fdLN := FLN
  obtain ⟨fdHT, FHT⟩ := Sd.def_ 25 (d := d_Hub_text) rfl
  have FHT : FnP K d_Hub_text fdHT := FHT
  obtain ⟨fdHC, FHC⟩ := Sd.def_ 26 (d := d_Hub_changes) rfl
  have FHC : FnP K d_Hub_changes fdHC := FHC
  obtain ⟨fdHK, FHK⟩ := Sd.def_ 27 (d := d_Hub_take) rfl
  have FHK : FnP K d_Hub_take fdHK := FHK
  obtain ⟨fdPI, FPI⟩ := Sd.def_ 28 (d := d_Person_init) rfl
  have FPI : FnP K d_Person_init fdPI := FPI
  obtain ⟨fdPT, FPT⟩ := Sd.def_ 29 (d := d_Person_text) rfl
  have FPT : FnP K d_Person_text fdPT := FPT
  obtain ⟨fdU, FU⟩ := Sd.def_ 30 (d := d_Person_turn) rfl
  have FU : FnP K d_Person_turn fdU := FU
  obtain ⟨fdPW, FPW⟩ := Sd.def_ 31 (d := d_Person_write) rfl
  have FPW : FnP K d_Person_write fdPW := FPW
  obtain ⟨fdHE, FHE⟩ := Sd.def_ 32 (d := d_Person_hear) rfl
  have FHE : FnP K d_Person_hear fdHE := FHE
  obtain ⟨fdSE, FSE⟩ := Sd.def_ 33 (d := d_Person_send) rfl
  have FSE : FnP K d_Person_send fdSE := FSE
  have GPO : FnOk P w K mg base CX0 1 _ fdPO ["_law_script", "_law_k"] (spPool K) := ok_pool FPO T
  have GTK : FnOk P w K mg base CX0 1 _ fdTK ["_law_pool_here", "_law_many"] spTake := ok_take FTK
  have GON : FnOk P w K mg base CX0 2 _ fdON ["_law_pool_here", "_law_some"] sp_one := ok__law_one FON T FTK
  have GLW : FnOk P w K mg base CX0 5 _ fdLW ["_law_pool_here", "_law_person", "_law_own"] (sp_lwrite K) := ok__law_write FLW T FTK FW FC FS FN FV FU FM FO FG FB FP FA FB2 FPL FPT FPW
  have GOR : FnOk P w K mg base CX0 2 _ fdOR ["_law_text", "_law_signs"] sp_order := ok__law_in_order FOR T
  have GHI : FnOk P w K mg base CX0 1 _ fdHI ["self", "text"] (sp_Hub_init K) := ok_Hub_init FHI T
  have GHT : FnOk P w K mg base CX0 1 _ fdHT ["self"] (sp_Hub_text K) := ok_Hub_text FHT T
  have GPT : FnOk P w K mg base CX0 1 _ fdPT ["self"] (sp_Person_text K) := ok_Person_text FPT T
  have GPI : FnOk P w K mg base CX0 3 _ fdPI ["self", "hub", "name", "late"] (sp_Person_init K) := ok_Person_init FPI T FIN FNT FHT FLN
  have GHE : FnOk P w K mg base CX0 5 _ fdHE ["self"] (sp_hear K) := ok_Person_hear FHE T FW FC FS FN FV FU FG FB FL FD FHC
  have GSE : FnOk P w K mg base CX0 6 _ fdSE ["self"] (sp_send K) := ok_Person_send FSE T FW FC FS FN FV FU FG FB FL FD FHC FHE FNT FHK
  obtain ⟨dsH, vH, bHI⟩ : ∃ ds, Vals [] ds ∧ Binds K fdHI ["self", "text"] ds := FHI.binds1 2 1 (fun z => by cases z) rfl fun T kV doc pm an cdv ct us its h1 h2 => match us, its, h1, h2 with | [_, _], [_], _, _ => ⟨_, rfl, rfl⟩
  obtain ⟨dsP, vP, bPI⟩ : ∃ ds, Vals [V.bl false] ds ∧ Binds K fdPI ["self", "hub", "name", "late"] ds := FPI.binds0 3 (fun z => by cases z) rfl fun D doc pm an cdv ct us ks h1 h2 => match us, ks, h1, h2 with | [_, _, _], [_], _, _ => ⟨_, _, _, _, _, _, rfl, rfl, rfl⟩
  have bPO : Binds K fdPO ["_law_script", "_law_k"] [] := FPO.bindsN fun _ _ _ _ _ _ us hl => match us, hl with | [_, _], _ => rfl
  have bTK : Binds K fdTK ["_law_pool_here", "_law_many"] [] := FTK.bindsN fun _ _ _ _ _ _ us hl => match us, hl with | [_, _], _ => rfl
  have bON : Binds K fdON ["_law_pool_here", "_law_some"] [] := FON.bindsN fun _ _ _ _ _ _ us hl => match us, hl with | [_, _], _ => rfl
  have bLW : Binds K fdLW ["_law_pool_here", "_law_person", "_law_own"] [] := FLW.bindsN fun _ _ _ _ _ _ us hl => match us, hl with | [_, _, _], _ => rfl
  have bOR : Binds K fdOR ["_law_text", "_law_signs"] [] := FOR.bindsN fun _ _ _ _ _ _ us hl => match us, hl with | [_, _], _ => rfl
  have bHT : Binds K fdHT ["self"] [] := FHT.bindsN fun _ _ _ _ _ _ us hl => match us, hl with | [_], _ => rfl
  have bPT : Binds K fdPT ["self"] [] := FPT.bindsN fun _ _ _ _ _ _ us hl => match us, hl with | [_], _ => rfl
  have bHE : Binds K fdHE ["self"] [] := FHE.bindsN fun _ _ _ _ _ _ us hl => match us, hl with | [_], _ => rfl
  have bSE : Binds K fdSE ["self"] [] := FSE.bindsN fun _ _ _ _ _ _ us hl => match us, hl with | [_], _ => rfl
  refine F.ok sc_law (fun vs H Q E h => ?_) (fun cdv A outer s H vs Q E hr h => ?_)
  · obtain ⟨a, ns, rfl, hS, hlen, q⟩ := h
    rfl
  · obtain ⟨a, ns, rfl, hS, hlen, q⟩ := h
    have hr1 : Room 1 _ := hr.mono (by decide)
    have hr2 : Room 2 _ := hr.mono (by decide)
    have hr4 : Room 4 _ := hr.mono (by decide)
    have hr5 : Room 5 _ := hr.mono (by decide)
    refine ⟨_, PSs.nox (pss_cons (ps_for PassesOwn.never rfl (pi_range1 (by rfl) T.free (pa_cons (pe_callB (call_max2 rfl) (by rfl) T.free (by decide +kernel) (pa_cons pe_int (pa_cons (pe_callB (call_min2 rfl) (by rfl) T.free (by decide +kernel) (pa_cons (pe_callB call_len (by rfl) T.free (by decide +kernel) (pa_cons (pv 0) pa_nil)) (pa_cons pe_int pa_nil))) pa_nil))) pa_nil)) (pg_name (i := 1) sc_law.nd rfl (.inl rfl)) (pss_cons (ps_set (i := 2) sc_law.nd rfl (.inl rfl) (pe_call GPO hr1 (by rfl) T.glo FPO.kp bPO .nil pass0 (pa_cons (pv 0) (pa_cons (pv 1) pa_nil))))
  (pss_cons (ps_set (i := 3) sc_law.nd rfl (.inr rfl) (pe_disp (pps_cons pe_str pe_str (pps_cons pe_str (pe_lst pa_nil) (pps_cons pe_str pe_str pps_nil))) (by rfl) (by rfl) (fun z => by cases z) (by decide)))
  (pss_cons (ps_set (i := 4) sc_law.nd rfl (.inl rfl) (pe_slice sl_str pe_str po_none (po_some (pe_call GTK hr1 (by rfl) T.glo FTK.kp bTK .nil pass0 (pa_cons (pv 2) (pa_cons pe_int pa_nil))))))
  (pss_cons (ps_set (i := 5) sc_law.nd rfl (.inr rfl) (pe_make T.mk_Hub GHI hr2 (by rfl) T.glo bHI vH  pass0 (pa_cons (pv 4) pa_nil)))
  (pss_cons (ps_setLc (i := 6) (own := [("_law_name", 13)]) (g := (gName 13)) (tt := tYes) rfl sc_law.nd rfl rfl (sw_true rfl rfl rfl (by decide +kernel)) (pi_list (pe_lst (pa_cons pe_str (pa_cons pe_str (pa_cons pe_str pa_nil))))) (blkOk_by (N := sc_lawN) (sc := defScope s_law) (by decide +kernel)) (fun _ _ _ _ _ => (pg_name (i := 13) sc_law.nd rfl (.inl rfl))) (fun _ _ _ _ _ => pts_nil) (fun _ _ _ _ _ => (pe_make T.mk_Person GPI hr4 (by rfl) T.glo bPI vP  pass0 (pa_cons (pv 5) (pa_cons (pv 13) pa_nil)))))
  (pss_cons (ps_for PassesOwn.never rfl (pi_range1 (by rfl) T.free (pa_cons pe_int pa_nil)) (pg_name (i := 7) sc_law.nd rfl (.inl rfl)) (pss_cons (ps_set (i := 8) sc_law.nd rfl (.inl rfl) (pe_call GON hr2 (by rfl) T.glo FON.kp bON .nil pass0 (pa_cons (pv 2) (pa_cons (pv 6) pa_nil))))
  (pss_cons (ps_set (i := 9) sc_law.nd rfl (.inl rfl) (pe_call GTK hr1 (by rfl) T.glo FTK.kp bTK .nil pass0 (pa_cons (pv 2) (pa_cons pe_int pa_nil))))
  (pss_one (ps_if (pt_cmpR op_lt (pv 9) pe_int (nomark _)) (pss_one (ps_expr (pe_call GLW hr5 (by rfl) T.glo FLW.kp bLW .nil pass0 (pa_cons (pv 2) (pa_cons (pv 8) (pa_cons (pv 3) pa_nil)))))) (pss_one (ps_if (pt_cmpR op_eq (pv 9) pe_int (nomark _)) (pss_one (ps_expr (pe_meth0 (pv 8) T.c_Person T.m_Person_hear GHE hr5 bHE .nil pass0))) (pss_one (ps_expr (pe_meth0 (pv 8) T.c_Person T.m_Person_send GSE hr bSE .nil pass0))))))))))
  (pss_cons (ps_for PassesOwn.never rfl (pi_list (pe_op op_cat (pv 6) (pv 6))) (pg_name (i := 8) sc_law.nd rfl (.inl rfl)) (pss_one (ps_expr (pe_meth0 (pv 8) T.c_Person T.m_Person_send GSE hr bSE .nil pass0))))
  (pss_cons (ps_set (i := 10) sc_law.nd rfl (.inl rfl) (pe_meth0 (pv 5) T.c_Hub T.m_Hub_text GHT hr1 bHT .nil pass0))
  (pss_cons (ps_for PassesOwn.never rfl (pi_list (pv 6)) (pg_name (i := 8) sc_law.nd rfl (.inl rfl)) (pss_cons (ps_expr (pe_meth0 (pv 8) T.c_Person T.m_Person_hear GHE hr5 bHE .nil pass0))
  (pss_one (ps_if (pt_cmpR op_ne (pe_meth0 (pv 8) T.c_Person T.m_Person_text GPT hr1 bPT .nil pass0) (pv 10) (nomark _)) (pss_one (ps_ret pe_bl)) pss_nil))))
  (pss_cons (ps_set (i := 11) sc_law.nd rfl (.inl rfl) (pe_op op_add_str (pv 4) (pe_join pe_str (pe_dget (hu_of hr) (pv 3) pe_str (fun _ _ => rfl)))))
  (pss_cons (ps_if (pt_cmpR (op_neD hr.units) (pe_callB (cr_sortedT rfl) (by rfl) T.free (by decide +kernel) (pa_cons (pv 10) pa_nil)) (pe_callB cr_sortedC (by rfl) T.free (by decide +kernel) (pa_cons (pe_lc (own := [("_law_sign", 14)]) (g := (gName 14)) rfl sc_law.nd (pi_str (pv 11)) (blkOk_by (N := sc_lawN) (sc := defScope s_law) (by decide +kernel)) (fun _ _ _ _ _ => (pg_name (i := 14) sc_law.nd rfl (.inl rfl))) (fun _ _ _ _ _ => (pts_one (pt_cmpR op_notIn_sign (pv 14) (pe_dget (hu_of hr) (pv 3) pe_str (fun _ _ => rfl)) (by rfl)))) (fun _ _ _ _ _ => (pv 14))) pa_nil)) (nomark _)) (pss_one (ps_ret pe_bl)) pss_nil)
  (pss_one (ps_for PassesOwn.never rfl (pi_list (pe_op op_cat (pe_dget (hu_of hr) (pv 3) pe_str (fun _ _ => rfl)) (pe_lst (pa_cons (pv 4) pa_nil)))) (pg_name (i := 12) sc_law.nd rfl (.inl rfl)) (pss_one (ps_if (pt_not (pt_val (pe_call GOR hr2 (by rfl) T.glo FOR.kp bOR .nil pass0 (pa_cons (pv 10) (pa_cons (pv 12) pa_nil))))) (pss_one (ps_ret pe_bl)) pss_nil))))))))))))))))
  (pss_one (ps_ret pe_bl))), ?_⟩
    refine ⟨_, rfl, _, _, rfl, .inl ⟨_, hS, rfl⟩, _, _, rfl, _, _, rfl, _, rfl, ?_⟩
    have hJ : ∀ m : Int, -(2 ^ 62) ≤ (if (if (6 : Int) < m then 6 else m) > 1 then (if (6 : Int) < m then 6 else m) else 1) ∧ (if (if (6 : Int) < m then 6 else m) > 1 then (if (6 : Int) < m then 6 else m) else 1) ≤ 6 := fun m => by
      split <;> split <;> omega
    refine ⟨(hJ _).1, Int.lt_of_le_of_lt (hJ _).2 (by decide), ?_⟩
    have h6 := (hJ ((ns.map V.int).length : Int)).2
    refine for_range (fun _ σ H' => (∃ v1 v2 v3 v4 v5 v6 v7 v8 v9 v10 v11 v12 v13 v14, σ = [some (.ref a), v1, v2, v3, v4, v5, v6, v7, v8, v9, v10, v11, v12, v13, v14]) ∧ Keeps H H') ⟨⟨_, _, _, _, _, _, _, _, _, _, _, _, _, _, rfl⟩, Keeps.refl _⟩ ?_ (fun σ H' _ => q H')
    rintro k σ H1 hk ⟨⟨v1, v2, v3, v4, v5, v6, v7, v8, v9, v10, v11, v12, v13, v14, rfl⟩, k1⟩
    have hk6 : (k : Int) < 6 := Int.lt_of_lt_of_le (Int.lt_toNat.mp hk) h6
    refine ⟨_, rfl, _, rfl, a, ns, (0 : Int) + (k : Int), rfl, Same.seq k1 hS, by omega, by omega, fun p x y H2 np kp hp hx hy hy2 => ?_⟩
    -- the own dict
    refine fun o no => ⟨(by show 0 ≤ sizeLine; decide), fun lp nlp => ⟨?_, [(.inr "left", .str letters), (.inr "puts", .ref lp), (.inr "dropped", .str "")], rfl, (by show 3 ≤ 15; decide), ?_⟩⟩
    · rw [upd_ne (fun z => by rw [← z, upd_same] at nlp; cases nlp), upd_same]
    rw [merge_own]
    have npo : p ≠ o := fun z => by rw [← z, hp] at no; cases no
    have nolp : o ≠ lp := fun z => by rw [← z, upd_same] at nlp; cases nlp
    have nplp : p ≠ lp := fun z => by rw [← z, upd_ne npo, hp] at nlp; cases nlp
    have nlp2 : H2 lp = none := by rw [upd_ne nolp.symm] at nlp; exact nlp
    have nH1 : ∀ {b}, H2 b = none → H1 b = none := fun {b} h => Keeps.free kp h
    generalize eH3 : upd (upd (upd H2 o (.dK [])) lp (.lst [])) o (.dK (dOwn lettersL lp [])) = H3
    have k3 : Keeps H2 H3 := fun b u e => by
      rw [← eH3, upd_ne (ne_of_none e no), upd_ne (ne_of_none e nlp2), upd_ne (ne_of_none e no)]
      exact e
    have ho3 : H3 o = some (.dK (dOwn lettersL lp [])) := by rw [← eH3]; exact upd_same
    have hlp3 : H3 lp = some (.lst []) := by rw [← eH3, upd_ne nolp.symm]; exact upd_same
    have hp3 := k3 _ _ hp
    -- the first text
    refine ⟨_, rfl, p, 13, x, y, rfl, hp3, hx, hy, by omega, by decide, by decide, fun r x' y' r0 r1 hx' hy' hy2' => ⟨_, rfl, _, rfl, (by decide +kernel), ?_⟩⟩
    obtain ⟨n, rfl⟩ := Int.eq_ofNat_of_zero_le r0
    rw [show cutS (Str.ofString "!#$;&()*+,-/") none (some (n : Int)) = S (punct.take n) from cut_to punct n (by show n ≤ 12; omega)]
    have hfl : (punct.take n).length ≤ 12 := Nat.le_trans (List.length_take_le _ _) (by omega)
    generalize hfi : punct.take n = first at hfl ⊢
    generalize eH4 : upd H3 p (.lst [.int x', .int y']) = H4
    have k4 : ∀ b u, H3 b = some u → b ≠ p → H4 b = some u := fun b u e z => by rw [← eH4, upd_ne z]; exact e
    have hp4 : PoolAt H4 p := ⟨x', y', by rw [← eH4]; exact upd_same, hx', hy', hy2'⟩
    have ho4 := k4 _ _ ho3 npo.symm
    have hlp4 := k4 _ _ hlp3 nplp.symm
    have k14 : Keeps H1 H4 := fun b u e => k4 _ _ (k3 _ _ (kp _ _ e)) (ne_of_none e np)
    -- the hub
    refine ⟨_, rfl, fun hb dxh nhb ndx ndx2 => ⟨hb, dxh, first, rfl, upd_same, fun lc H5 k5 nlc HB => ⟨rfl, ?_⟩⟩⟩
    have nlc4 : H4 lc = none := by
      have n1 : lc ≠ hb := fun z => by rw [z, upd_same] at nlc; cases nlc
      have n2 : lc ≠ dxh := fun z => by rw [upd_ne n1, z, upd_same] at nlc; cases nlc
      rw [upd_ne n1, upd_ne n2] at nlc
      exact nlc
    have k45 : Keeps H4 H5 := fun b u e => k5 _ _ (by rw [upd_ne (ne_of_none e nhb), upd_ne (ne_of_none e ndx)]; exact e) (ne_of_none e nhb)
    -- the persons
    refine ⟨(by show 3 ≤ sizeLine; decide), fun nl nnl => ⟨nl, rfl, ⟨_, SqL.of upd_same⟩, fun D nD => ?_⟩⟩
    generalize eH6 : upd H5 nl (.lst [.str "ann", .str "bob", .str "cid"]) = H6 at nD ⊢
    have k56 : Keeps H5 H6 := by rw [← eH6]; exact keeps_new nnl
    have hnl : H6 nl = some (.lst [.str "ann", .str "bob", .str "cid"]) := by rw [← eH6]; exact upd_same
    have HB6 : HubAt K H6 hb dxh lc first [] := HB.keep (fun o e => k56 _ _ e) (fun o e => k56 _ _ e) k56.im
    obtain ⟨hb6, vs6, hlc6, hvs6⟩ := HB6
    have nDnl : nl ≠ D := ne_of_none hnl nD
    have nhbD : hb ≠ D := ne_of_none hb6 nD
    have nlcD : lc ≠ D := ne_of_none hlc6 nD
    refine lc_list (K := K) (a := nl) (xs := [.str "ann", .str "bob", .str "cid"]) (fun i H' => PInv K H6 D H' hb first i) ⟨KB.refl _ _, fun _ => 0, fun _ => 0, upd_same, fun j hj => absurd hj (Nat.not_lt_zero _), fun j _ hj => absurd hj (Nat.not_lt_zero _)⟩ (fun i H' _ z => SqL.of (z.1 _ _ (by rw [upd_ne nDnl]; exact hnl) nDnl)) ?_ ?_
    · rintro i nv H7 hnv ⟨kb, as, dxs, hD, hper, hne⟩
      obtain ⟨hi3, rfl, okn⟩ := name_at hnv
      have kb7 : ∀ b u, H6 b = some u → b ≠ D → H7 b = some u := fun b u e z => kb _ _ (by rw [upd_ne z]; exact e) z
      have im67 : Im H6 H7 := (keeps_new nD).im.trans (kb.im upd_same rfl)
      refine ⟨rfl, _, rfl, _, rfl, fun qa dq nqa ndq nn => ?_⟩
      have kU : Keeps H7 (upd (upd H7 dq (.own qa)) qa (.ins (He.ga K "Person") dq [])) := fun b u e => by
        rw [upd_ne (ne_of_none e nqa), upd_ne (ne_of_none e ndq)]
        exact e
      refine ⟨qa, dq, hb, nmOf i, dxh, lc, first, [], rfl, upd_same, ?_, ?_, ?_, okn, ?_, Nat.zero_le _, fun H8 k8 P8 => ⟨rfl, ?_⟩⟩
      · exact ⟨kU _ _ (kb7 _ _ hb6 nhbD), vs6, kU _ _ (kb7 _ _ hlc6 nlcD), hvs6.im (im67.trans kU.im)⟩
      · exact fun z => by rw [z, kb7 _ _ hb6 nhbD] at nqa; cases nqa
      · exact fun z => by rw [z, kb7 _ _ hlc6 nlcD] at nqa; cases nqa
      · omega
      have nqD : qa ≠ D := fun z => by rw [z, hD] at nqa; cases nqa
      have k78 : Keeps H7 H8 := fun b u e => k8 _ _ (kU _ _ e) (ne_of_none e nqa)
      have hD8 := k78 _ _ hD
      refine ⟨_, hD8, by rw [List.length_map, List.length_range]; exact small (by omega), fun b u e z => ?_, fun j => if j = i then qa else as j, fun j => if j = i then dq else dxs j, ?_, fun j hj => ?_, fun j m hj hm njm => ?_⟩
      · rw [upd_ne z]
        exact k78 _ _ (kb _ _ e z)
      · rw [upd_same, List.range_succ, List.map_append]
        have e1 : (List.range i).map (fun j => V.ref (as j)) = (List.range i).map (fun j => V.ref (if j = i then qa else as j)) := List.map_congr_left fun j hj => by
          have := List.mem_range.mp hj
          rw [if_neg (by omega)]
        rw [e1]
        show some (HO.lst (_ ++ [V.ref qa])) = some (HO.lst (_ ++ [V.ref (if i = i then qa else as i)]))
        rw [if_pos rfl]
      · show H6 (if j = i then qa else as j) = none ∧ (if j = i then qa else as j) ≠ D ∧ PerAt K _ (if j = i then qa else as j) (if j = i then dq else dxs j) hb (nmOf j) first 0 (nothing first.length)
        by_cases e : j = i
        · rw [if_pos e, if_pos e]
          subst e
          refine ⟨?_, nqD, P8.keep (fun o e => by rw [upd_ne nqD]; exact e) (im_set hD8 rfl)⟩
          cases e6 : H6 qa with
          | none => rfl
          | some u => rw [kb7 _ _ e6 nqD] at nqa; cases nqa
        · rw [if_neg e, if_neg e]
          obtain ⟨q1, q2, q3⟩ := hper j (by omega)
          exact ⟨q1, q2, q3.keep (fun o e => by rw [upd_ne q2]; exact k78 _ _ e) (k78.im.trans (im_set hD8 rfl))⟩
      · have na : ∀ j, j < i → as j ≠ qa := fun j hj z => by
          obtain ⟨v, pl, q, _⟩ := (hper j hj).2.2
          rw [z, nqa] at q
          cases q
        show (if j = i then qa else as j) ≠ (if m = i then qa else as m)
        by_cases e : j = i
        · rw [if_pos e, if_neg (by omega)]
          exact (na m (by omega)).symm
        · rw [if_neg e]
          by_cases e2 : m = i
          · rw [if_pos e2]
            exact na j (by omega)
          · rw [if_neg e2]
            exact hne j m (by omega) (by omega) njm
    rintro H7 ⟨kb, as, dxs, hD, hper, hne⟩
    have k16 : Keeps H1 H6 := k14.trans (k45.trans k56)
    have k47 : Keeps H4 H7 := KB.keeps ((k45.trans k56).new nD) (Keeps.free (k45.trans k56) nD) kb
    have kb7 : ∀ b u, H6 b = some u → b ≠ D → H7 b = some u := fun b u e z => kb _ _ (by rw [upd_ne z]; exact e) z
    have im67 : Im H6 H7 := (keeps_new nD).im.trans (kb.im upd_same rfl)
    obtain ⟨nd1, nd2, nd3⟩ := start_nd n
    rw [hfi] at nd1 nd2 nd3
    obtain ⟨xq, yq, hq4, _⟩ := _root_.id hp4
    have W0 : Wd K H1 H7 ⟨p, o, lp, hb, lc, D, dxh, as, dxs, nmOf⟩ first [] (List.replicate 3 ⟨first, 0, nothing first.length⟩) lettersL [] [] := by
      refine ⟨⟨np, nH1 no, nH1 nlp2, Keeps.free k14 nhb, Keeps.free k14 nlc4, Keeps.free k16 nD, fun i hi => Keeps.free k16 (hper i hi).1, nplp, ne_of_none hq4 nlc4, ne_of_none hlp4 nlc4, ne_of_none (k56 _ _ (k45 _ _ hq4)) nD, ne_of_none (k56 _ _ (k45 _ _ hlp4)) nD, nlcD, hne⟩,
        k14.trans k47, hp4.keep fun o e => k47 _ _ e, k47 _ _ ho4, k47 _ _ hlp4, ⟨kb7 _ _ hb6 nhbD, vs6, kb7 _ _ hlc6 nlcD, hvs6.im im67⟩, hD, fun i Q hQ => ?_, rfl, J.start 3 nd1 nd2 nd3⟩
      have hi : i < 3 := (List.getElem?_eq_some_iff.mp hQ).1
      have eQ := (List.mem_replicate.mp (List.mem_of_getElem? hQ)).2
      rw [eQ]
      exact (hper i hi).2.2
    clear hper hne hD kb7 im67
    -- the turns
    refine ⟨30, rfl, by decide, by decide, for_range (fun i σ H' => ∃ v7 v8 v9 v10 v11 v12 v13 v14 cs ps left puts dr, σ = [some (.ref a), some (.int ((0 : Int) + (k : Int))), some (.ref p), some (.ref o), some (.str (S first)), some (.ref hb), some (.ref D), v7, v8, v9, v10, v11, v12, v13, v14] ∧
      Wd K H1 H' ⟨p, o, lp, hb, lc, D, dxh, as, dxs, nmOf⟩ first cs ps left puts dr ∧ cs.length ≤ i ∧ puts.length ≤ i ∧ dr.length ≤ 3 * i ∧ ∀ s ∈ puts, s.length ≤ 3) ⟨_, _, _, _, _, _, _, _, [], _, _, [], [], rfl, W0, Nat.le_refl _, Nat.le_refl _, Nat.le_refl _, fun s hs => (List.not_mem_nil hs).elim⟩ ?_ ?_⟩
    · rintro i σ Ha hi ⟨v7, v8, v9, v10, v11, v12, v13, v14, cs, ps, left, puts, dr, rfl, W, c1, c2, c3, c4⟩
      have hi : i < 30 := hi
      refine ⟨_, rfl, _, rfl, p, D, _, rfl, W.pool, W.lst, W.ad.ppl, Nat.succ_pos _, (by show 3 < 1000; decide), fun q v Hb hv kb' hp' => ?_⟩
      have W1 := W.drawn kb' hp'
      obtain ⟨hq3, rfl⟩ := ref_at hv
      obtain ⟨R, hR⟩ := W1.get hq3
      obtain ⟨x3, y3, e3, hx3, hy3, hy32⟩ := W1.pool
      refine ⟨_, rfl, p, 4, x3, y3, rfl, e3, hx3, hy3, hy32, by decide, by decide, fun r x4 y4 r0 r1 hx4 hy4 hy42 => ?_⟩
      have W2 := W1.drawn (H1 := upd Hb p (.lst [.int x4, .int y4])) (fun b u e n => by rw [upd_ne n]; exact e) ⟨x4, y4, upd_same, hx4, hy4, hy42⟩
      generalize upd Hb p (.lst [.int x4, .int y4]) = Hc at W2 ⊢
      have hm := List.mem_of_getElem? hR
      have pR := W2.j.per R hm
      have lR := W2.j.plen hm
      have hle : left.length ≤ 80 := by
        have := W2.j.few
        rw [List.length_append] at this
        omega
      obtain ⟨hd1, hok, hw, hl8, _⟩ := W2.asks hR
      obtain ⟨uv, pl, h1, CU, hpl⟩ := W2.per q R hR
      have n1 := W2.ne1 hR
      refine ⟨_, rfl, _, _, rfl, rfl, _, rfl, ite2 (fun _ => ?_) (fun _ => ?_)⟩
      · refine ⟨_, rfl, _, rfl, _, rfl, p, as q, o, lp, dxs q, hb, nmOf q, R, left, dr, puts, rfl, W2.pool, W2.per q R hR, W2.own, W2.put, W2.ad.lplp, pR.cn, ?_, by omega, by omega, by omega, by omega, fun z hz => W2.j.ok z (List.mem_append_right _ hz), fun a' g m He hag hg hm3 k' hp' hq' ho' hl' => ?_⟩
        · rw [pR.run, run_len _ _ pR.want.symm]
        · refine ⟨_, _, _, _, _, _, _, _, cs, _, _, _, _, rfl, W2.wrote hR hag k' hp' hq' ho' hl', by omega, ?_, ?_, fun s hs => ?_⟩
          · rw [List.length_append]
            show puts.length + 1 ≤ i + 1
            omega
          · rw [List.length_append]
            have := List.length_take_le g (R.t.drop a')
            omega
          · rcases List.mem_append.mp hs with hs | hs
            · exact c4 s hs
            · rw [List.mem_singleton.mp hs]
              exact Nat.le_trans (List.length_take_le _ _) hm3
      · refine ⟨_, rfl, rfl, _, rfl, ite2 (fun _ => ?_) (fun _ => ?_)⟩
        · refine ⟨_, rfl, as q, dxs q, _, rfl, h1, rfl, as q, dxs q, hb, nmOf q, R.t, R.hd, R.u, dxh, lc, _, cs, rfl, W2.per q R hR, W2.hub, n1.ahb, hd1, by omega, hok, fun v He k' P' => ?_⟩
          exact ⟨_, _, _, _, _, _, _, _, cs, _, _, _, _, rfl, W2.heard hR k' P', by omega, by omega, by omega, c4⟩
        · refine ⟨_, rfl, as q, dxs q, _, rfl, h1, rfl, as q, dxs q, hb, nmOf q, R.t, R.hd, R.u, dxh, lc, _, cs, rfl, W2.per q R hR, W2.hub, n1.ahb, n1.alc, W2.ne2.hblc, hd1, by omega, hok, hw, Nat.le_trans hl8 (by decide), fun _ v He k' P' => ?_, fun v He k' P' HB' => ?_⟩
          · exact ⟨_, _, _, _, _, _, _, _, cs, _, _, _, _, rfl, W2.heard hR k' P', by omega, by omega, by omega, c4⟩
          · refine ⟨_, _, _, _, _, _, _, _, _, _, _, _, _, rfl, W2.sent hR k' P' HB', ?_, by omega, by omega, c4⟩
            rw [List.length_append]
            show cs.length + 1 ≤ i + 1
            omega
    clear W0
    rintro σ Ha ⟨v7, v8, v9, v10, v11, v12, v13, v14, cs, ps, left, puts, dr, rfl, W, c1, c2, c3, c4⟩
    have c1 : cs.length ≤ 30 := c1
    have c2 : puts.length ≤ 30 := c2
    have c3 : dr.length ≤ 90 := c3
    -- all send, twice
    refine ⟨_, rfl, _, rfl, D, D, _, _, rfl, rfl, W.lst, W.lst, (by show 6 ≤ sizeLine; decide), fun l6 nl6 => ⟨l6, rfl, ⟨_, SqL.of upd_same⟩, ?_⟩⟩
    have nlc6 : lc ≠ l6 := by
      obtain ⟨_, vs, hl, _⟩ := W.hub
      exact ne_of_none hl nl6
    refine for_list (K := K) (a := l6) (xs := [.ref (as 0), .ref (as 1), .ref (as 2), .ref (as 0), .ref (as 1), .ref (as 2)]) (fun i σ H' => ∃ v8 cs ps, σ = [some (.ref a), some (.int ((0 : Int) + (k : Int))), some (.ref p), some (.ref o), some (.str (S first)), some (.ref hb), some (.ref D), v7, v8, v9, v10, v11, v12, v13, v14] ∧
      Wd K H1 H' ⟨p, o, lp, hb, lc, D, dxh, as, dxs, nmOf⟩ first cs ps left puts dr ∧ cs.length ≤ 30 + i ∧ H' l6 = some (.lst [.ref (as 0), .ref (as 1), .ref (as 2), .ref (as 0), .ref (as 1), .ref (as 2)]) ∧ Qt first cs ps (min i 3)) ⟨_, cs, ps, rfl, W.keep (keeps_new nl6), c1, upd_same, fun k Q hk => absurd hk (by omega)⟩ (fun i σ H' _ z => by
        obtain ⟨_, _, _, _, _, _, h, _⟩ := z
        exact SqL.of h) ?_ ?_
    · clear W c1
      rintro i v σ Hc hv ⟨v8, cs, ps, rfl, W2, c1, h6, qt⟩
      obtain ⟨q, hq3, rfl, hi6, hqi⟩ := six_at hv
      obtain ⟨R, hR⟩ := W2.get hq3
      have hm := List.mem_of_getElem? hR
      obtain ⟨hd1, hok, hw, hl8, _⟩ := W2.asks hR
      obtain ⟨uv, pl, h1, CU, hpl⟩ := W2.per q R hR
      have n1 := W2.ne1 hR
      have nq6 : l6 ≠ as q := fun z => by rw [z, h1] at h6; cases h6
      have nh6 : l6 ≠ hb := fun z => by rw [z, W2.hub.1] at h6; cases h6
      refine ⟨_, rfl, as q, dxs q, _, rfl, h1, rfl, as q, dxs q, hb, nmOf q, R.t, R.hd, R.u, dxh, lc, _, cs, rfl, W2.per q R hR, W2.hub, n1.ahb, n1.alc, W2.ne2.hblc, hd1, by omega, hok, hw, Nat.le_trans hl8 (by decide), fun en v He k' P' => ?_, fun v He k' P' HB' => ?_⟩
      · refine ⟨_, cs, _, rfl, W2.heard hR k' P', by omega, k' _ _ h6 nq6, fun k Q hk hQ => ?_⟩
        by_cases e : k < min i 3
        · exact W2.qheard hR _ qt k Q e hQ
        · rcases set_at hQ with ⟨_, rfl⟩ | ⟨nk, _⟩
          · exact W2.qnothing hR en
          · exact absurd (hqi (by omega)) (by omega)
      · refine ⟨_, _, _, rfl, W2.sent hR k' P' HB', ?_, k' _ _ h6 nq6 nh6 nlc6.symm, W2.qsent hR _ fun k Q hk nk hQ => qt k Q ?_ hQ⟩
        · rw [List.length_append]
          show cs.length + 1 ≤ 30 + (i + 1)
          omega
        · by_cases e : i < 3
          · have := hqi e
            omega
          · omega
    clear W c1
    rintro σ Hc ⟨v8, cs, ps, rfl, W, c1, h6, qt⟩
    have c1 : cs.length ≤ 36 := c1
    have qt : Qt first cs ps 3 := qt
    obtain ⟨hh, _⟩ := _root_.id W.hub
    refine ⟨_, rfl, hb, dxh, _, rfl, hh, rfl, hb, dxh, lc, _, rfl, hh, ?_⟩
    -- all hear
    refine ⟨_, rfl, D, rfl, ⟨_, SqL.of W.lst⟩, ?_⟩
    refine for_list (K := K) (a := D) (xs := [.ref (as 0), .ref (as 1), .ref (as 2)]) (fun i σ H' => ∃ v8 ps, σ = [some (.ref a), some (.int ((0 : Int) + (k : Int))), some (.ref p), some (.ref o), some (.str (S first)), some (.ref hb), some (.ref D), v7, v8, v9, some (.str (S (hT first cs cs.length))), v11, v12, v13, v14] ∧
      Wd K H1 H' ⟨p, o, lp, hb, lc, D, dxh, as, dxs, nmOf⟩ first cs ps left puts dr ∧ Qt first cs ps 3 ∧ ∀ k R, k < i → ps[k]? = some R → R.hd = cs.length) ⟨_, ps, rfl, W, qt, fun k R hk => absurd hk (Nat.not_lt_zero _)⟩ (fun i σ H' _ z => by
        obtain ⟨_, _, _, w', _⟩ := z
        exact SqL.of w'.lst) ?_ ?_
    · clear W qt hh h6
      rintro i v σ Hc hv ⟨v8, ps, rfl, W2, qt, hds⟩
      obtain ⟨hq3, rfl⟩ := ref_at hv
      obtain ⟨R, hR⟩ := W2.get hq3
      obtain ⟨hd1, hok, hw, hl8, _⟩ := W2.asks hR
      obtain ⟨uv, pl, h1, CU, hpl⟩ := W2.per i R hR
      have n1 := W2.ne1 hR
      refine ⟨_, rfl, as i, dxs i, _, rfl, h1, rfl, as i, dxs i, hb, nmOf i, R.t, R.hd, R.u, dxh, lc, _, cs, rfl, W2.per i R hR, W2.hub, n1.ahb, hd1, by omega, hok, fun v He k' P' => ?_⟩
      have W3 := W2.heard hR k' P'
      have q3 := W2.qheard hR _ qt
      have hi1 : (ps.set i (heardAll cs R))[i]? = some (heardAll cs R) := List.getElem?_set_self (List.getElem?_eq_some_iff.mp hR).1
      obtain ⟨uv', pl', h1', CU', hpl'⟩ := P'
      refine ⟨_, rfl, as i, dxs i, _, rfl, h1', rfl, as i, dxs i, hb, nmOf i, _, _, _, _, rfl, h1', _, rfl, rfl, _, rfl, ne_noS (congrArg (fun z => V.str (S z)) (q3 i _ hq3 hi1)) ?_⟩
      refine ⟨_, _, rfl, W3, q3, fun k Q hk hQ => ?_⟩
      rcases set_at hQ with ⟨_, rfl⟩ | ⟨nk, hQ⟩
      · rfl
      · exact hds k Q (by omega) hQ
    clear W qt hh h6
    rintro σ Hd ⟨v8, ps, rfl, W, qt, hds⟩
    have E := W.j.fin fun Q hQ => by
      obtain ⟨i, hi⟩ := List.mem_iff_getElem?.mp hQ
      exact ⟨qt i Q (W.lt hi) hi, hds i Q (W.lt hi) hi⟩
    have tl : (hT first cs cs.length).length ≤ 80 := W.j.hlen (Nat.le_refl _)
    have few := E.few
    generalize hT first cs cs.length = t at E tl ⊢
    have few2 := few
    rw [List.length_append] at few2
    have hlen : sizeLine = 16777216 := sizeLine_eq
    refine ⟨_, rfl, ⟨_, rfl⟩, _, rfl, o, _, rfl, gd_puts W.own, "", lp, puts.map S, rfl, rfl, .inl (by rw [List.map_map]; exact SqL.of W.put), ?_, ?_⟩
    · rw [show (("" : Str).length) = 0 from rfl, Nat.mul_zero, Nat.add_zero, List.map_map, show ((fun x : Str => x.length) ∘ S) = List.length from funext fun x => S_len x, ← List.length_flatten]
      omega
    rw [join_e]
    refine ⟨_, _, rfl, rfl, by rw [S_len, S_len]; omega, ?_⟩
    rw [S_cat]
    -- the same signs
    refine ⟨_, rfl, t, rfl, by omega, fun m p1 pm1 up1 np1 => ?_⟩
    have W1 := W.keep (keeps_new (o := .lst (m.map fun c => V.str (S [c]))) np1)
    have hp1 : upd Hd p1 (.lst (m.map fun c => V.str (S [c]))) p1 = some (.lst (m.map fun c => V.str (S [c]))) := upd_same
    generalize upd Hd p1 (.lst (m.map fun c => V.str (S [c]))) = He at W1 hp1 ⊢
    refine ⟨_, rfl, S (first ++ puts.flatten), rfl, fun D2 nD2 => lc_it walk_str (fun i H' => KB D2 (upd He D2 (.lst [])) H' ∧ H' D2 = some (.lst ((((first ++ puts.flatten).take i).filter fun x => !mem dr x).map fun c => V.str (S [c])))) ⟨KB.refl _ _, upd_same⟩ (fun _ _ _ _ => trivial) ?_ ?_⟩
    · rintro i y Hx Hy hi ⟨kb, hDx⟩ ⟨rfl, c, hcc, rfl⟩
      have hc : (first ++ puts.flatten)[i]? = some c := by
        rw [← Array.getElem?_toList] at hcc
        exact hcc
      have ho : Hy o = some (.dK (dOwn left lp dr)) := kb _ _ (keeps_new nD2 _ _ W1.own) (ne_of_none W1.own nD2)
      have es : ((first ++ puts.flatten).take (i + 1)).filter (fun x => !mem dr x) = ((first ++ puts.flatten).take i).filter (fun x => !mem dr x) ++ [c].filter (fun x => !mem dr x) := by
        rw [List.take_succ, hc, List.filter_append]
        rfl
      refine ⟨rfl, _, rfl, _, rfl, o, _, rfl, gd_dropped ho, c, S dr, rfl, rfl, _, rfl, ?_⟩
      by_cases h : c ∈ dr
      · rw [show (!decide (c ∈ (S dr).cps.toList)) = false from congrArg Bool.not (decide_eq_true h)]
        refine iteF ⟨kb, ?_⟩
        rw [hDx, es, List.filter_cons_of_neg (by rw [show mem dr c = true from decide_eq_true h]; decide)]
        rw [List.filter_nil, List.append_nil]
      · rw [show (!decide (c ∈ (S dr).cps.toList)) = true from congrArg Bool.not (decide_eq_false h)]
        refine iteT ⟨_, rfl, _, hDx, ?_, kb.set, ?_⟩
        · rw [List.length_map]
          exact small (Nat.le_trans (List.length_filter_le _ _) (Nat.le_trans (List.length_take_le' _ _) (by omega)))
        · rw [upd_same, es, List.filter_cons_of_pos (by rw [show mem dr c = false from decide_eq_false h]; rfl), List.filter_nil, List.map_append]
          rfl
    rintro Hz ⟨kb, hDz⟩
    have eT : (first ++ puts.flatten).take (S (first ++ puts.flatten)).cps.size = first ++ puts.flatten := List.take_of_length_le (by show _ ≤ ((first ++ puts.flatten).toArray).size; rw [List.size_toArray]; exact Nat.le_refl _)
    rw [eT] at hDz
    have kz : Keeps He Hz := KB.keeps ((Keeps.refl He).new nD2) nD2 kb
    have W3 := W1.keep kz
    refine ⟨D2, _, rfl, SqL.of hDz, fun m2 p2 pm2 up2 np2 => ?_⟩
    have em := sorted_one (pm1.trans (E.perm.trans pm2.symm)) up1 up2
    subst em
    have okm : ∀ c ∈ m, c < 128 := fun c hc => E.ok c (List.mem_filter.mp (E.perm.mem_iff.mp (pm1.mem_iff.mp hc))).1
    have W4 := W3.keep (keeps_new (o := .lst (m.map fun c => V.str (S [c]))) np2)
    have hp1z := keeps_new (o := .lst (m.map fun c => V.str (S [c]))) np2 _ _ (kz _ _ hp1)
    refine ⟨_, _, .lst (SqL.of hp1z) (dp_map _ (fun c => PyData.str (S [c])) (fun c => .str _) _), .lst (SqL.of upd_same) (dp_map _ (fun c => PyData.str (S [c])) (fun c => .str _) _), shaped_signs okm, shaped_signs okm, _, rfl, ?_⟩
    rw [SeqAt.eqv_refl _ (show PyData.canLay0 (.list _) = true from can_signs okm)]
    refine iteF ?_
    generalize upd Hz p2 (.lst (m.map fun c => V.str (S [c]))) = H9 at W4 ⊢
    -- the order
    refine ⟨_, rfl, o, _, rfl, gd_puts W4.own, _, rfl, (by show 1 ≤ sizeLine; decide), fun l1 nl1 => ?_⟩
    have W5 := W4.keep (keeps_new (o := .lst [.str (S first)]) nl1)
    refine ⟨lp, l1, _, _, rfl, rfl, W5.put, upd_same, (by rw [List.length_map]; show puts.length + 1 ≤ sizeLine; omega), fun l2 nl2 => ⟨l2, rfl, ⟨_, SqL.of upd_same⟩, ?_⟩⟩
    have W6 := W5.keep (keeps_new (o := .lst ((puts.map fun s => V.str (S s)) ++ [.str (S first)])) nl2)
    refine for_list (K := K) (a := l2) (xs := (puts.map fun s => V.str (S s)) ++ [.str (S first)]) (fun i σ H' => ∃ v12, σ = [some (.ref a), some (.int ((0 : Int) + (k : Int))), some (.ref p), some (.ref o), some (.str (S first)), some (.ref hb), some (.ref D), v7, v8, v9, some (.str (S t)), some (.str (S (first ++ puts.flatten))), v12, v13, v14] ∧ Keeps H1 H' ∧
      H' l2 = some (.lst ((puts.map fun s => V.str (S s)) ++ [.str (S first)]))) ⟨_, rfl, W6.kp, upd_same⟩ (fun i σ H' _ z => by
        obtain ⟨_, _, _, h⟩ := z
        exact SqL.of h) ?_ ?_
    · rintro i v σ Hq hv ⟨v12, rfl, kq, hq2⟩
      have ev : ((puts.map fun s => V.str (S s)) ++ [.str (S first)]) = (puts ++ [first]).map fun s => V.str (S s) := by rw [List.map_append]; rfl
      rw [ev, List.getElem?_map] at hv
      cases es : (puts ++ [first])[i]? with
      | none => rw [es] at hv; cases hv
      | some s =>
        rw [es] at hv
        cases hv
        have hs := List.mem_of_getElem? es
        have ls : s.length < 64 := by
          rcases List.mem_append.mp hs with h | h
          · have := c4 s h
            omega
          · rw [List.mem_singleton.mp h]
            omega
        exact ⟨_, rfl, _, rfl, t, s, rfl, E.nd, E.nds s hs, E.ord s hs, ls, fun Hr kr => ⟨true, rfl, iteF ⟨_, rfl, fun b u e => kr _ _ (kq _ _ e), kr _ _ hq2⟩⟩⟩
    · rintro σ Hq ⟨v12, rfl, kq, _⟩
      exact ⟨⟨_, _, _, _, _, _, _, _, _, _, _, _, _, _, rfl⟩, k1.trans kq⟩

end
end K78
set_option Elab.async false
set_option linter.all false
set_option maxRecDepth 100000
set_option maxHeartbeats 0
open PySem PySem.W PySem.Calls PyProof.Rows
theorem PySem.Challenge.cw_pagesofproofs_k78_whole_each_sign_once_holds : PySem.Challenge.rw_pagesofproofs_k78_whole_each_sign_once.Holds := by
  w_on; o_law
  refine HandSHeadRun.head_any (r := OpenLaw.row PySem.Challenge.rw_pagesofproofs_k78_whole_each_sign_once) (q := view (OpenLaw.row PySem.Challenge.rw_pagesofproofs_k78_whole_each_sign_once).prog [37]) (H := K78.hk) (ob := K78.ob) (M := 6000) (loose := K78.loose) (d := HandSHeadRun.topDef (OpenLaw.row PySem.Challenge.rw_pagesofproofs_k78_whole_each_sign_once).prog 37) (kwd := []) K78.ob_eq
    (by kernel_rfl) (fun s => by kernel_rfl) K78.run (by kernel_rfl) (by kernel_rfl) (by kernel_rfl) (by rfl) (by first | assumption | decide +kernel) (by decide +kernel) ⟨rfl, rfl, rfl, rfl, rfl, by decide +kernel⟩ ?hw ?hc
  case hw => w_witness2
  case hc =>
    refine L2.walk_ofE (l := PySem.Challenge.rw_pagesofproofs_k78_whole_each_sign_once) (n := 63) (k := 7) (x := "_law_script") (CX := L2.CX0) rfl (by decide) (by kernel_rfl) ⟨rfl, by decide, by decide⟩ ?F (fun _ _ _ _ z => z)
    intro w mg fa h Y G hmg0
    obtain ⟨K, KX, c⟩ := Y
    have hmg : mg ("law" : PySem.Str) = some (.ref fa) := by
      have e : (HandSHeadRun.topDef (OpenLaw.row PySem.Challenge.rw_pagesofproofs_k78_whole_each_sign_once).prog 37).name = ("law" : PySem.Str) := by kernel_rfl
      rw [← e]
      exact hmg0
    have T : K78.Tx K mg := ⟨⟨h, KX, G⟩, c.more⟩
    have e := hmg.symm.trans (T.glo (x := "law"))
    cases e
    obtain ⟨fd, F⟩ := c.defs.def_ 22 (d := K78.d_law) rfl
    have F : K78.FnP K K78.d_law fd := F
    have b := L2.FunD.bindsA (ps := ["_law_script"]) F fun _ _ _ _ _ _ us hl => match us, hl with | [_], _ => rfl
    exact ⟨K, fd, K78.spLaw K, KX, fun s v => b s [v] rfl, fun H a ns hl _ hS => ⟨a, ns, rfl, hS, hl, fun _ => rfl⟩, fun base KB GB => K78.ok_law F T c.defs⟩
