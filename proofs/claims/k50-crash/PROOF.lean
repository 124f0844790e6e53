import PyProof.Rows.All
import Wide.All
import OpenK.AllK
import Wide.FinOn
import KE.KStateDown
import Lean
import HandS.ForMost
import HandS.Codes
import HandS.Property
import HandS.Defaults
import HandS.Head0
import HandS.Head1
import HandS.Head2
import HandS.HeadEnd
import HandS.HeadHook1
import HandS.HeadHook2
import PySem.Challenge.RW_crosskeep_k50_whole_crash_at_every_octet
import HandS.CallLocal
import HandS.Deep
import HandS.Style
import HandS.IsInst
import HandS.TupLe
import HandS.TupAny
import HandS.Conv
import KE.KRevSl
import KE.GoesEnum
import HandS.Iter
import HandS.More
import HandS.Walk
set_option Elab.async false
set_option linter.all false
set_option maxRecDepth 100000
/-! Hd -/
set_option maxHeartbeats 0
/-! The head: the text by places, facts by names, the run of the top. Printed by gen_head.py. -/
namespace Ck
open PySem PySem.Spec PyProof.Rows L2
def top (i : Nat) : Stmt := PySem.Challenge.pw_crosskeep_k50_whole_crash_at_every_octet.main.body.getD i (.Pass ⟨0, 0, 0, 0⟩)
abbrev s_checksum : Stmt := top 5
abbrev s_lowest_octets : Stmt := top 6
abbrev s_frame : Stmt := top 7
abbrev s_read_frames : Stmt := top 8
abbrev s_Journal_init : Stmt := inClass (top 10) 0
abbrev s_Journal_append : Stmt := inClass (top 10) 1
abbrev s_Journal_sync : Stmt := inClass (top 10) 2
abbrev s_Journal_crash : Stmt := inClass (top 10) 3
abbrev s_Journal_payloads : Stmt := inClass (top 10) 4
abbrev s_Journal_frame_count : Stmt := inClass (top 10) 6
abbrev s_Journal_synced_frames : Stmt := inClass (top 10) 7
abbrev s_Journal_fork : Stmt := inClass (top 10) 10
abbrev s_batch_of : Stmt := top 17
abbrev s_commands_of : Stmt := top 18
abbrev s_members_of_slot : Stmt := top 19
abbrev s_sevens_of : Stmt := top 34
abbrev s_pack : Stmt := top 35
abbrev s_sign_of : Stmt := top 36
abbrev s_Reader_init : Stmt := inClass (top 37) 0
abbrev s_Reader_octet : Stmt := inClass (top 37) 1
abbrev s_Reader_sevens : Stmt := inClass (top 37) 2
abbrev s_Reader_number : Stmt := inClass (top 37) 3
abbrev s_Reader_text : Stmt := inClass (top 37) 4
abbrev s_Reader_plain : Stmt := inClass (top 37) 5
abbrev s_unpack : Stmt := top 38
abbrev s_next_ballot : Stmt := top 43
abbrev s_Acceptor_init : Stmt := inClass (top 45) 0
abbrev s_Acceptor_hears : Stmt := inClass (top 45) 1
abbrev s_Acceptor_promise : Stmt := inClass (top 45) 2
abbrev s_Acceptor_accept : Stmt := inClass (top 45) 3
abbrev s_Acceptor_fork : Stmt := inClass (top 45) 4
abbrev s_Record_init : Stmt := inClass (top 50) 0
abbrev s_Record_upto : Stmt := inClass (top 50) 1
abbrev s_Record_do : Stmt := inClass (top 50) 2
abbrev s_Record_fork : Stmt := inClass (top 50) 3
abbrev s_record_of : Stmt := top 51
abbrev s_stand_aside : Stmt := top 59
abbrev s_refuse : Stmt := top 60
abbrev s_hear_ask : Stmt := top 61
abbrev s_hear_tell : Stmt := top 62
abbrev s_hear_give : Stmt := top 67
abbrev s_hear_now : Stmt := top 68
abbrev s_hear : Stmt := top 69
abbrev s_Attempt_init : Stmt := inClass (top 74) 0
abbrev s_Attempt_fork : Stmt := inClass (top 74) 3
abbrev s_Node_init : Stmt := inClass (top 78) 0
abbrev s_Node_upto : Stmt := inClass (top 78) 1
abbrev s_Node_members_now : Stmt := inClass (top 78) 2
abbrev s_Node_long_patience : Stmt := inClass (top 78) 3
abbrev s_Node_has_wishes : Stmt := inClass (top 78) 4
abbrev s_Node_wish : Stmt := inClass (top 78) 5
abbrev s_Node_note : Stmt := inClass (top 78) 6
abbrev s_Node_post : Stmt := inClass (top 78) 7
abbrev s_Node_post_all : Stmt := inClass (top 78) 8
abbrev s_Node_post_others : Stmt := inClass (top 78) 9
abbrev s_Node_begin : Stmt := inClass (top 78) 10
abbrev s_Node_begin_if_quiet : Stmt := inClass (top 78) 11
abbrev s_Node_learn : Stmt := inClass (top 78) 12
abbrev s_Node_end_step : Stmt := inClass (top 78) 14
abbrev s_Node_offer : Stmt := inClass (top 78) 15
abbrev s_Node_receive : Stmt := inClass (top 78) 17
abbrev s_Node_tick : Stmt := inClass (top 78) 18
abbrev s_Node_sync : Stmt := inClass (top 78) 19
abbrev s_Node_forget : Stmt := inClass (top 78) 20
abbrev s_Node_crash : Stmt := inClass (top 78) 21
abbrev s_Node_restart : Stmt := inClass (top 78) 22
abbrev s_Node_is_silent : Stmt := inClass (top 78) 24
abbrev s_Node_sends : Stmt := inClass (top 78) 25
abbrev s_Node_letters : Stmt := inClass (top 78) 26
abbrev s_Node_new_votes : Stmt := inClass (top 78) 27
abbrev s_Node_fork : Stmt := inClass (top 78) 28
abbrev s_Diary_init : Stmt := inClass (top 80) 0
abbrev s_Diary_apply : Stmt := inClass (top 80) 1
abbrev s_Diary_settled : Stmt := inClass (top 80) 2
abbrev s_law_row : Stmt := top 82
abbrev s_law_take : Stmt := top 83
abbrev s_law_make : Stmt := top 84
abbrev s_law_message : Stmt := top 85
abbrev s_law_step : Stmt := top 86
abbrev s_law_state : Stmt := top 87
abbrev s_law_lines : Stmt := top 88
abbrev s_law_comes_back : Stmt := top 89
abbrev s_law : Stmt := top 90

/-- a def of the top: where it stands, its names, its statement, its defaults -/
structure Gd where
  ad : PySem.W.Frag → Addr
  nm : Str
  qn : Str
  st : Stmt
  dv : List He.Dv := []
/-- the getter of a property -/
def getter (C f : Str) (K : PySem.W.Frag) : Addr := match PySem.W.findIn K (.ref (He.ga K C)) f with
  | some (some (.ref p)) => (match PySem.W.recIn K p "property" with
    | some (.ref g :: _) => g
    | _ => 0)
  | _ => 0
abbrev Tell : Type := Option (Str × Str × Arguments × FuncBody × Scope × Addr × List (Str × Addr) × Addr)
def tellOf : Obj → Tell := fun o => match o.data with
  | .func z => some (z.name, z.qualname, z.params, z.body, z.scope, z.globals, z.closure, z.builtins)
  | _ => none
def seenAt (K : PySem.W.Frag) (a : Addr) : Tell := (K.lookup a).bind tellOf
def Gd.want (d : Gd) : Tell := some (d.nm, d.qn, defArgs d.st, .stmts (defBody d.st), defScope d.st, mainGlobals, [], builtinsNs)
def sideOf (K : PySem.W.Frag) (d : Gd) : Obj → Bool := fun o => match o.data with
  | .func z => PySem.W.codeIn K z.code d.qn && He.dflB K z.defaults (d.dv.map (He.Dv.v K))
  | _ => false
def Gd.side (K : PySem.W.Frag) (d : Gd) : Bool := PySem.W.keepIn K (.ref (d.ad K)) && ((K.lookup (d.ad K)).map (sideOf K d) == some true)
abbrev Fn (K : PySem.W.Frag) (d : Gd) (fd : FuncData) : Prop := FunD K d.nm d.qn (defArgs d.st) (defBody d.st) (defScope d.st) (d.dv.map (He.Dv.v K)) [] (d.ad K) fd
theorem Gd.fn {K : PySem.W.Frag} {d : Gd} (e : seenAt K (d.ad K) = d.want) (c : d.side K = true) : ∃ fd, Fn K d fd := by
  obtain ⟨kp, c⟩ := Bool.and_eq_true_iff.mp c
  have c := beq_iff_eq.mp c
  unfold seenAt at e

  match q : K.lookup (d.ad K) with
  | none => rw [q] at c; exact nomatch c
  | some o =>
    rw [q] at c e
    have c := Option.some.inj c
    have e : tellOf o = d.want := e
    obtain ⟨k1, k2, dt, k3⟩ := o
    unfold sideOf at c
    unfold tellOf at e
    cases dt with
    | func z =>
      obtain ⟨z1, z2, z3, z4, z5, z6, z7, z8, z9, y1, y2, y3, y4, y5, y6⟩ := z
      simp only [Gd.want, Option.some.injEq, Prod.mk.injEq] at e
      obtain ⟨rfl, rfl, rfl, rfl, rfl, rfl, rfl, rfl⟩ := e
      obtain ⟨u1, u2⟩ := Bool.and_eq_true_iff.mp c
      refine ⟨_, ⟨k1, k2, z8, z9, y1, y2, y3, y4, y5, k3, rfl, q, u1, He.dflB_ok u2, .inl rfl⟩, kp⟩
    | _ => exact nomatch c
/-- a property of a class, read by its getter -/
def propB (K : PySem.W.Frag) (C f : Str) : Bool := match PySem.W.findIn K (.ref (He.ga K C)) f with
  | some (some (.ref p)) => He.eqO (PySem.W.specialIn K (.ref p) "__get__") (some (some (.builtin "property.__get__"))) && (decide (PySem.W.takesIn K (.ref p) = some true) &&
    (match PySem.W.recIn K p "property" with
    | some (.ref g :: _) => decide (g = getter C f K)
    | _ => false))
  | _ => false
theorem propB_ok {K : PySem.W.Frag} {C f : Str} (h : propB K C f = true) : ∃ p, PropOf K (He.ga K C) f p (getter C f K) := by
  unfold propB at h
  split at h
  · rename_i p hp
    obtain ⟨h1, h⟩ := Bool.and_eq_true_iff.mp h
    obtain ⟨h2, h⟩ := Bool.and_eq_true_iff.mp h
    refine ⟨p, hp, He.eqO_ok h1, of_decide_eq_true h2, ?_⟩
    split at h
    · rename_i g r hg
      rw [of_decide_eq_true h] at hg
      exact ⟨r, hg⟩
    · exact nomatch h
  · exact nomatch h

/-! ### the list of what is asked -/
def d_checksum : Gd := ⟨(He.fAd · ("checksum", none)), "checksum", "checksum", s_checksum, []⟩
def d_lowest_octets : Gd := ⟨(He.fAd · ("lowest_octets", none)), "lowest_octets", "lowest_octets", s_lowest_octets, []⟩
def d_frame : Gd := ⟨(He.fAd · ("frame", none)), "frame", "frame", s_frame, []⟩
def d_read_frames : Gd := ⟨(He.fAd · ("read_frames", none)), "read_frames", "read_frames", s_read_frames, []⟩
def d_Journal_init : Gd := ⟨(He.fAd · ("Journal", some "__init__")), "__init__", "Journal.__init__", s_Journal_init, []⟩
def d_Journal_append : Gd := ⟨(He.fAd · ("Journal", some "append")), "append", "Journal.append", s_Journal_append, []⟩
def d_Journal_sync : Gd := ⟨(He.fAd · ("Journal", some "sync")), "sync", "Journal.sync", s_Journal_sync, []⟩
def d_Journal_crash : Gd := ⟨(He.fAd · ("Journal", some "crash")), "crash", "Journal.crash", s_Journal_crash, []⟩
def d_Journal_payloads : Gd := ⟨(He.fAd · ("Journal", some "payloads")), "payloads", "Journal.payloads", s_Journal_payloads, []⟩
def d_Journal_frame_count : Gd := ⟨(getter "Journal" "frame_count"), "frame_count", "Journal.frame_count", s_Journal_frame_count, []⟩
def d_Journal_synced_frames : Gd := ⟨(getter "Journal" "synced_frames"), "synced_frames", "Journal.synced_frames", s_Journal_synced_frames, []⟩
def d_Journal_fork : Gd := ⟨(He.fAd · ("Journal", some "fork")), "fork", "Journal.fork", s_Journal_fork, []⟩
def d_batch_of : Gd := ⟨(He.fAd · ("batch_of", none)), "batch_of", "batch_of", s_batch_of, []⟩
def d_commands_of : Gd := ⟨(He.fAd · ("commands_of", none)), "commands_of", "commands_of", s_commands_of, []⟩
def d_members_of_slot : Gd := ⟨(He.fAd · ("members_of_slot", none)), "members_of_slot", "members_of_slot", s_members_of_slot, []⟩
def d_sevens_of : Gd := ⟨(He.fAd · ("sevens_of", none)), "sevens_of", "sevens_of", s_sevens_of, []⟩
def d_pack : Gd := ⟨(He.fAd · ("pack", none)), "pack", "pack", s_pack, []⟩
def d_sign_of : Gd := ⟨(He.fAd · ("sign_of", none)), "sign_of", "sign_of", s_sign_of, []⟩
def d_Reader_init : Gd := ⟨(He.fAd · ("Reader", some "__init__")), "__init__", "Reader.__init__", s_Reader_init, []⟩
def d_Reader_octet : Gd := ⟨(He.fAd · ("Reader", some "octet")), "octet", "Reader.octet", s_Reader_octet, []⟩
def d_Reader_sevens : Gd := ⟨(He.fAd · ("Reader", some "sevens")), "sevens", "Reader.sevens", s_Reader_sevens, []⟩
def d_Reader_number : Gd := ⟨(He.fAd · ("Reader", some "number")), "number", "Reader.number", s_Reader_number, []⟩
def d_Reader_text : Gd := ⟨(He.fAd · ("Reader", some "text")), "text", "Reader.text", s_Reader_text, []⟩
def d_Reader_plain : Gd := ⟨(He.fAd · ("Reader", some "plain")), "plain", "Reader.plain", s_Reader_plain, []⟩
def d_unpack : Gd := ⟨(He.fAd · ("unpack", none)), "unpack", "unpack", s_unpack, []⟩
def d_next_ballot : Gd := ⟨(He.fAd · ("next_ballot", none)), "next_ballot", "next_ballot", s_next_ballot, []⟩
def d_Acceptor_init : Gd := ⟨(He.fAd · ("Acceptor", some "__init__")), "__init__", "Acceptor.__init__", s_Acceptor_init, [.glo "NO_BALLOT", .non]⟩
def d_Acceptor_hears : Gd := ⟨(He.fAd · ("Acceptor", some "hears")), "hears", "Acceptor.hears", s_Acceptor_hears, []⟩
def d_Acceptor_promise : Gd := ⟨(He.fAd · ("Acceptor", some "promise")), "promise", "Acceptor.promise", s_Acceptor_promise, []⟩
def d_Acceptor_accept : Gd := ⟨(He.fAd · ("Acceptor", some "accept")), "accept", "Acceptor.accept", s_Acceptor_accept, []⟩
def d_Acceptor_fork : Gd := ⟨(He.fAd · ("Acceptor", some "fork")), "fork", "Acceptor.fork", s_Acceptor_fork, []⟩
def d_Record_init : Gd := ⟨(He.fAd · ("Record", some "__init__")), "__init__", "Record.__init__", s_Record_init, []⟩
def d_Record_upto : Gd := ⟨(getter "Record" "upto"), "upto", "Record.upto", s_Record_upto, []⟩
def d_Record_do : Gd := ⟨(He.fAd · ("Record", some "do")), "do", "Record.do", s_Record_do, []⟩
def d_Record_fork : Gd := ⟨(He.fAd · ("Record", some "fork")), "fork", "Record.fork", s_Record_fork, []⟩
def d_record_of : Gd := ⟨(He.fAd · ("record_of", none)), "record_of", "record_of", s_record_of, []⟩
def d_stand_aside : Gd := ⟨(He.fAd · ("stand_aside", none)), "stand_aside", "stand_aside", s_stand_aside, []⟩
def d_refuse : Gd := ⟨(He.fAd · ("refuse", none)), "refuse", "refuse", s_refuse, []⟩
def d_hear_ask : Gd := ⟨(He.fAd · ("hear_ask", none)), "hear_ask", "hear_ask", s_hear_ask, []⟩
def d_hear_tell : Gd := ⟨(He.fAd · ("hear_tell", none)), "hear_tell", "hear_tell", s_hear_tell, []⟩
def d_hear_give : Gd := ⟨(He.fAd · ("hear_give", none)), "hear_give", "hear_give", s_hear_give, []⟩
def d_hear_now : Gd := ⟨(He.fAd · ("hear_now", none)), "hear_now", "hear_now", s_hear_now, []⟩
def d_hear : Gd := ⟨(He.fAd · ("hear", none)), "hear", "hear", s_hear, []⟩
def d_Attempt_init : Gd := ⟨(He.fAd · ("Attempt", some "__init__")), "__init__", "Attempt.__init__", s_Attempt_init, []⟩
def d_Attempt_fork : Gd := ⟨(He.fAd · ("Attempt", some "fork")), "fork", "Attempt.fork", s_Attempt_fork, []⟩
def d_Node_init : Gd := ⟨(He.fAd · ("Node", some "__init__")), "__init__", "Node.__init__", s_Node_init, []⟩
def d_Node_upto : Gd := ⟨(getter "Node" "upto"), "upto", "Node.upto", s_Node_upto, []⟩
def d_Node_members_now : Gd := ⟨(getter "Node" "members_now"), "members_now", "Node.members_now", s_Node_members_now, []⟩
def d_Node_long_patience : Gd := ⟨(He.fAd · ("Node", some "long_patience")), "long_patience", "Node.long_patience", s_Node_long_patience, []⟩
def d_Node_has_wishes : Gd := ⟨(He.fAd · ("Node", some "has_wishes")), "has_wishes", "Node.has_wishes", s_Node_has_wishes, []⟩
def d_Node_wish : Gd := ⟨(He.fAd · ("Node", some "wish")), "wish", "Node.wish", s_Node_wish, []⟩
def d_Node_note : Gd := ⟨(He.fAd · ("Node", some "note")), "note", "Node.note", s_Node_note, []⟩
def d_Node_post : Gd := ⟨(He.fAd · ("Node", some "post")), "post", "Node.post", s_Node_post, []⟩
def d_Node_post_all : Gd := ⟨(He.fAd · ("Node", some "post_all")), "post_all", "Node.post_all", s_Node_post_all, []⟩
def d_Node_post_others : Gd := ⟨(He.fAd · ("Node", some "post_others")), "post_others", "Node.post_others", s_Node_post_others, []⟩
def d_Node_begin : Gd := ⟨(He.fAd · ("Node", some "begin")), "begin", "Node.begin", s_Node_begin, []⟩
def d_Node_begin_if_quiet : Gd := ⟨(He.fAd · ("Node", some "begin_if_quiet")), "begin_if_quiet", "Node.begin_if_quiet", s_Node_begin_if_quiet, []⟩
def d_Node_learn : Gd := ⟨(He.fAd · ("Node", some "learn")), "learn", "Node.learn", s_Node_learn, []⟩
def d_Node_end_step : Gd := ⟨(He.fAd · ("Node", some "end_step")), "end_step", "Node.end_step", s_Node_end_step, []⟩
def d_Node_offer : Gd := ⟨(He.fAd · ("Node", some "offer")), "offer", "Node.offer", s_Node_offer, []⟩
def d_Node_receive : Gd := ⟨(He.fAd · ("Node", some "receive")), "receive", "Node.receive", s_Node_receive, []⟩
def d_Node_tick : Gd := ⟨(He.fAd · ("Node", some "tick")), "tick", "Node.tick", s_Node_tick, []⟩
def d_Node_sync : Gd := ⟨(He.fAd · ("Node", some "sync")), "sync", "Node.sync", s_Node_sync, []⟩
def d_Node_forget : Gd := ⟨(He.fAd · ("Node", some "forget")), "forget", "Node.forget", s_Node_forget, []⟩
def d_Node_crash : Gd := ⟨(He.fAd · ("Node", some "crash")), "crash", "Node.crash", s_Node_crash, []⟩
def d_Node_restart : Gd := ⟨(He.fAd · ("Node", some "restart")), "restart", "Node.restart", s_Node_restart, []⟩
def d_Node_is_silent : Gd := ⟨(He.fAd · ("Node", some "is_silent")), "is_silent", "Node.is_silent", s_Node_is_silent, []⟩
def d_Node_sends : Gd := ⟨(He.fAd · ("Node", some "sends")), "sends", "Node.sends", s_Node_sends, []⟩
def d_Node_letters : Gd := ⟨(He.fAd · ("Node", some "letters")), "letters", "Node.letters", s_Node_letters, []⟩
def d_Node_new_votes : Gd := ⟨(He.fAd · ("Node", some "new_votes")), "new_votes", "Node.new_votes", s_Node_new_votes, []⟩
def d_Node_fork : Gd := ⟨(He.fAd · ("Node", some "fork")), "fork", "Node.fork", s_Node_fork, []⟩
def d_Diary_init : Gd := ⟨(He.fAd · ("Diary", some "__init__")), "__init__", "Diary.__init__", s_Diary_init, []⟩
def d_Diary_apply : Gd := ⟨(He.fAd · ("Diary", some "apply")), "apply", "Diary.apply", s_Diary_apply, []⟩
def d_Diary_settled : Gd := ⟨(He.fAd · ("Diary", some "settled")), "settled", "Diary.settled", s_Diary_settled, []⟩
def d_law_row : Gd := ⟨(He.fAd · ("_law_row", none)), "_law_row", "_law_row", s_law_row, []⟩
def d_law_take : Gd := ⟨(He.fAd · ("_law_take", none)), "_law_take", "_law_take", s_law_take, []⟩
def d_law_make : Gd := ⟨(He.fAd · ("_law_make", none)), "_law_make", "_law_make", s_law_make, []⟩
def d_law_message : Gd := ⟨(He.fAd · ("_law_message", none)), "_law_message", "_law_message", s_law_message, []⟩
def d_law_step : Gd := ⟨(He.fAd · ("_law_step", none)), "_law_step", "_law_step", s_law_step, []⟩
def d_law_state : Gd := ⟨(He.fAd · ("_law_state", none)), "_law_state", "_law_state", s_law_state, []⟩
def d_law_lines : Gd := ⟨(He.fAd · ("_law_lines", none)), "_law_lines", "_law_lines", s_law_lines, []⟩
def d_law_comes_back : Gd := ⟨(He.fAd · ("_law_comes_back", none)), "_law_comes_back", "_law_comes_back", s_law_comes_back, []⟩
def d_law : Gd := ⟨(He.fAd · ("law", none)), "law", "law", s_law, []⟩
def fns : List Gd := [d_checksum, d_lowest_octets, d_frame, d_read_frames, d_Journal_init, d_Journal_append, d_Journal_sync, d_Journal_crash, d_Journal_payloads, d_Journal_frame_count, d_Journal_synced_frames, d_Journal_fork, d_batch_of, d_commands_of, d_members_of_slot, d_sevens_of, d_pack, d_sign_of, d_Reader_init, d_Reader_octet, d_Reader_sevens, d_Reader_number, d_Reader_text, d_Reader_plain, d_unpack, d_next_ballot, d_Acceptor_init, d_Acceptor_hears, d_Acceptor_promise, d_Acceptor_accept, d_Acceptor_fork, d_Record_init, d_Record_upto, d_Record_do, d_Record_fork, d_record_of, d_stand_aside, d_refuse, d_hear_ask, d_hear_tell, d_hear_give, d_hear_now, d_hear, d_Attempt_init, d_Attempt_fork, d_Node_init, d_Node_upto, d_Node_members_now, d_Node_long_patience, d_Node_has_wishes, d_Node_wish, d_Node_note, d_Node_post, d_Node_post_all, d_Node_post_others, d_Node_begin, d_Node_begin_if_quiet, d_Node_learn, d_Node_end_step, d_Node_offer, d_Node_receive, d_Node_tick, d_Node_sync, d_Node_forget, d_Node_crash, d_Node_restart, d_Node_is_silent, d_Node_sends, d_Node_letters, d_Node_new_votes, d_Node_fork, d_Diary_init, d_Diary_apply, d_Diary_settled, d_law_row, d_law_take, d_law_make, d_law_message, d_law_step, d_law_state, d_law_lines, d_law_comes_back, d_law]
def fa0 : List He.Fa := [.glo "checksum", .glo "lowest_octets", .glo "frame", .glo "read_frames", .glo "batch_of", .glo "commands_of", .glo "members_of_slot", .glo "sevens_of", .glo "pack", .glo "sign_of", .glo "unpack", .glo "next_ballot", .glo "record_of", .glo "stand_aside", .glo "refuse", .glo "hear_ask", .glo "hear_tell", .glo "hear_give", .glo "hear_now", .glo "hear", .glo "_law_row", .glo "_law_take", .glo "_law_make", .glo "_law_message", .glo "_law_step", .glo "_law_state", .glo "_law_lines", .glo "_law_comes_back", .glo "law", .glo "Journal"]
def fa1 : List He.Fa := [.cls "Journal", .mkr "Journal", .noat "Journal" "rows", .noat "Journal" "safe", .glo "Reader", .cls "Reader", .mkr "Reader", .noat "Reader" "octets", .noat "Reader" "at", .glo "Acceptor", .cls "Acceptor", .mkr "Acceptor", .noat "Acceptor" "promised", .noat "Acceptor" "accepted", .glo "Record", .cls "Record", .mkr "Record", .noat "Record" "row", .noat "Record" "acceptor", .glo "Attempt", .cls "Attempt", .mkr "Attempt", .noat "Attempt" "ballot", .noat "Attempt" "entry", .noat "Attempt" "members", .noat "Attempt" "stage", .noat "Attempt" "promised_by", .noat "Attempt" "voted_by", .noat "Attempt" "bound", .glo "Node"]
def fa2 : List He.Fa := [.cls "Node", .mkr "Node", .noat "Node" "index", .noat "Node" "size", .noat "Node" "first_members", .noat "Node" "make_machine", .noat "Node" "lazy", .noat "Node" "state", .noat "Node" "journal", .noat "Node" "record", .noat "Node" "machine", .noat "Node" "waiting", .noat "Node" "wanted", .noat "Node" "attempt", .noat "Node" "patience", .noat "Node" "guest", .noat "Node" "seen", .noat "Node" "outbox", .noat "Node" "spoken", .noat "Node" "cast", .glo "Diary", .cls "Diary", .mkr "Diary", .noat "Diary" "lines", .meth "Journal" "append", .meth "Journal" "sync", .meth "Journal" "crash", .meth "Journal" "payloads", .meth "Journal" "fork", .meth "Reader" "octet"]
def fa3 : List He.Fa := [.meth "Reader" "sevens", .meth "Reader" "number", .meth "Reader" "text", .meth "Reader" "plain", .meth "Acceptor" "hears", .meth "Acceptor" "promise", .meth "Acceptor" "accept", .meth "Acceptor" "fork", .meth "Record" "do", .meth "Record" "fork", .meth "Attempt" "fork", .meth "Node" "long_patience", .meth "Node" "has_wishes", .meth "Node" "wish", .meth "Node" "note", .meth "Node" "post", .meth "Node" "post_all", .meth "Node" "post_others", .meth "Node" "begin", .meth "Node" "begin_if_quiet", .meth "Node" "learn", .meth "Node" "end_step", .meth "Node" "offer", .meth "Node" "receive", .meth "Node" "tick", .meth "Node" "sync", .meth "Node" "forget", .meth "Node" "crash", .meth "Node" "restart", .meth "Node" "is_silent"]
def fa4 : List He.Fa := [.meth "Node" "sends", .meth "Node" "letters", .meth "Node" "new_votes", .meth "Node" "fork", .meth "Diary" "apply", .meth "Diary" "settled", .int "FRAME_HEAD" 6, .int "PRIME" 4294967291, .int "FACTOR" 257, .int "MOST_BATCH" 8, .int "MOST_WAITING" 16, .int "MOST_GIVEN" 30, .str "BATCH" "batch", .str "MEMBERS" "members", .int "MOST_DEPTH" 40, .int "NOTHING" 0, .int "WHOLE" 1, .int "BELOW" 2, .int "TEXT" 3, .int "TUPLE" 4, .int "MORE" 128, .str "LOW_SIGNS" " !\"#$", .str "HIGH_SIGNS" "&'()*+,-./0123456789:;<=>?@ABCDEFGHIJKLMNOPQRSTUVWXYZ[\\]^_`abcdefghijklmnopqrstuvwxyz{|}~", .int "MOST_ROUND" 9999, .str "PROMISE" "promise", .str "ACCEPT" "accept", .str "CHOSEN" "chosen", .str "ASK" "ask", .str "TELL" "tell", .str "REFUSE" "refuse"]
def fa5 : List He.Fa := [.str "VOTED" "voted", .str "FETCH" "fetch", .str "GIVE" "give", .str "ASKING" "asking", .str "TELLING" "telling", .str "WON" "won", .str "UP" "up", .str "DOWN" "down", .int "MOST_INTEGER" 1000000000000000000, .glo "NO_BALLOT", .free "len", .free "list", .free "range", .free "max", .free "min", .free "int", .free "tuple", .free "isinstance", .free "ord", .free "str", .free "reversed", .free "enumerate", .free "sorted"]
def prs : List (Str × Str) := [("Journal", "frame_count"), ("Journal", "synced_frames"), ("Record", "upto"), ("Node", "upto"), ("Node", "members_now")]
def exB (K : PySem.W.Frag) : Bool := (prs.all fun p => propB K p.1 p.2) && He.tupB K "NO_BALLOT" [.int 0, .int 0]
def allB (K : PySem.W.Frag) : Bool := fa0.all (·.ok K) && (fa1.all (·.ok K) && (fa2.all (·.ok K) && (fa3.all (·.ok K) && (fa4.all (·.ok K) && (fa5.all (·.ok K) && (fns.all (·.side K) && exB K))))))
def asK0 : List Addr := [3, 6, 4, 21, 28, 35, 42, 49, 138, 149, 156, 163, 173, 196, 205, 210, 217, 269, 280, 281, 286, 293, 339, 382, 393, 400, 407, 414, 421, 428, 435, 442, 449, 456, 463, 470, 508, 721, 756, 767]
def asK1 : List Addr := [774, 781, 786, 793, 800, 807, 812, 817, 0, 20, 27, 34, 41, 48, 137, 148, 155, 162, 172, 195, 204, 209, 216, 268, 279, 285, 292, 338, 381, 392, 399, 406, 413, 420, 427, 434, 441, 448, 455, 462]
def asK2 : List Addr := [469, 507, 720, 755, 766, 773, 780, 785, 792, 799, 806, 811, 816, 15, 16, 17, 18, 19, 22, 23, 24, 25, 26, 29, 30, 31, 32, 33, 36, 37, 38, 39, 40, 43, 44, 45, 46, 47, 63, 70]
def asK3 : List Addr := [77, 84, 89, 96, 104, 112, 120, 128, 135, 136, 139, 140, 143, 144, 145, 146, 147, 150, 151, 152, 153, 154, 157, 158, 159, 160, 161, 171, 174, 193, 194, 199, 200, 201, 202, 203, 206, 207, 208, 211]
def asK4 : List Addr := [212, 213, 214, 215, 231, 238, 245, 252, 259, 266, 267, 270, 271, 274, 275, 276, 277, 278, 282, 283, 284, 287, 288, 289, 290, 291, 308, 315, 322, 329, 336, 337, 340, 341, 357, 365, 372, 379, 380, 383]
def asK5 : List Addr := [384, 387, 388, 389, 390, 391, 394, 395, 396, 397, 398, 401, 402, 403, 404, 405, 408, 409, 410, 411, 412, 415, 416, 417, 418, 419, 422, 423, 424, 425, 426, 429, 430, 431, 432, 433, 436, 437, 438, 439]
def asK6 : List Addr := [440, 443, 444, 445, 446, 447, 450, 451, 452, 453, 454, 457, 458, 459, 460, 461, 464, 465, 466, 467, 468, 484, 491, 498, 505, 506, 509, 510, 526, 534, 542, 549, 556, 563, 570, 577, 584, 591, 598, 605]
def asK7 : List Addr := [610, 617, 624, 631, 638, 645, 652, 659, 666, 671, 678, 685, 692, 699, 706, 711, 718, 719, 722, 723, 739, 746, 753, 754, 757, 758, 761, 762, 763, 764, 765, 768, 769, 770, 771, 772, 775, 776, 777, 778]
def asK8 : List Addr := [779, 782, 783, 784, 787, 788, 789, 790, 791, 794, 795, 796, 797, 798, 801, 802, 803, 804, 805, 808, 809, 810, 813, 814, 815, 62, 69, 76, 83, 88, 95, 103, 111, 119, 127, 134, 192, 185, 180, 230]
def asK9 : List Addr := [237, 244, 251, 258, 265, 307, 301, 314, 321, 328, 335, 356, 364, 371, 378, 483, 490, 497, 504, 525, 533, 541, 548, 555, 562, 569, 576, 583, 590, 597, 604, 609, 616, 623, 630, 637, 644, 651, 658, 665]
def asK10 : List Addr := [670, 677, 684, 691, 698, 705, 710, 717, 738, 745, 752, 57, 58, 59, 60, 61, 64, 65, 66, 67, 68, 71, 72, 73, 74, 75, 78, 79, 80, 81, 82, 85, 86, 87, 90, 91, 92, 93, 94, 102]
def asK11 : List Addr := [110, 118, 126, 129, 130, 131, 132, 133, 187, 188, 189, 190, 191, 225, 226, 227, 228, 229, 232, 233, 234, 235, 236, 239, 240, 241, 242, 243, 246, 247, 248, 249, 250, 253, 254, 255, 256, 257, 260, 261]
def asK12 : List Addr := [262, 263, 264, 302, 303, 304, 305, 306, 309, 310, 311, 312, 313, 316, 317, 318, 319, 320, 323, 324, 325, 326, 327, 330, 331, 332, 333, 334, 351, 352, 353, 354, 355, 363, 366, 367, 368, 369, 370, 373]
def asK13 : List Addr := [374, 375, 376, 377, 478, 479, 480, 481, 482, 485, 486, 487, 488, 489, 492, 493, 494, 495, 496, 499, 500, 501, 502, 503, 520, 521, 522, 523, 524, 532, 540, 543, 544, 545, 546, 547, 550, 551, 552, 553]
def asK14 : List Addr := [554, 557, 558, 559, 560, 561, 564, 565, 566, 567, 568, 571, 572, 573, 574, 575, 578, 579, 580, 581, 582, 585, 586, 587, 588, 589, 592, 593, 594, 595, 596, 599, 600, 601, 602, 603, 606, 607, 608, 611]
def asK15 : List Addr := [612, 613, 614, 615, 618, 619, 620, 621, 622, 625, 626, 627, 628, 629, 632, 633, 634, 635, 636, 639, 640, 641, 642, 643, 646, 647, 648, 649, 650, 653, 654, 655, 656, 657, 660, 661, 662, 663, 664, 667]
def asK16 : List Addr := [668, 669, 672, 673, 674, 675, 676, 679, 680, 681, 682, 683, 686, 687, 688, 689, 690, 693, 694, 695, 696, 697, 700, 701, 702, 703, 704, 707, 708, 709, 712, 713, 714, 715, 716, 733, 734, 735, 736, 737]
def asK17 : List Addr := [740, 741, 742, 743, 744, 747, 748, 749, 750, 751]
/-- the places of the heap behind the top that are looked at -/
def asK : List Addr := asK0 ++ (asK1 ++ (asK2 ++ (asK3 ++ (asK4 ++ (asK5 ++ (asK6 ++ (asK7 ++ (asK8 ++ (asK9 ++ (asK10 ++ (asK11 ++ (asK12 ++ (asK13 ++ (asK14 ++ (asK15 ++ (asK16 ++ (asK17)))))))))))))))))
abbrev Al : Type := Bool × List Tell
def look (K : PySem.W.Frag) : Al := (allB K, fns.map fun d => seenAt K (d.ad K))
def wanted : Al := (true, fns.map Gd.want)
def lookG (g : Addr → Option Obj) : Al := look (He.frG g asK)
def hook : PySem.W.Hook where
  α := Al
  obs := fun s => lookG s.heap.get?
  val := fun _ => wanted
  says := fun _ h => ∃ K : PySem.W.Frag, K.In h ∧ look K = wanted
  of := fun _ _ e => ⟨_, He.frG_in, e⟩
  keeps := fun _ _ _ z k => z.elim fun K c => ⟨K, PySem.W.Frag.In.keeps c.1 k, c.2⟩
def ob (s : PySem.W.SharedT) : Al := lookG (HandSHeadRun.getT s)
theorem ob_eq (s : PySem.W.SharedT) : ob s = hook.obs s.abs := by
  show lookG (HandSHeadRun.getT s) = lookG s.abs.heap.get?
  rw [show HandSHeadRun.getT s = s.abs.heap.get? from funext (HandSHeadRun.getT_eq s)]

/-! ### what the walks lean on -/
structure Txt (K : PySem.W.Frag) (mg : Str → Option Value) : Prop where
  g_checksum : mg "checksum" = some (.ref (He.ga K "checksum"))
  g_lowest_octets : mg "lowest_octets" = some (.ref (He.ga K "lowest_octets"))
  g_frame : mg "frame" = some (.ref (He.ga K "frame"))
  g_read_frames : mg "read_frames" = some (.ref (He.ga K "read_frames"))
  g_batch_of : mg "batch_of" = some (.ref (He.ga K "batch_of"))
  g_commands_of : mg "commands_of" = some (.ref (He.ga K "commands_of"))
  g_members_of_slot : mg "members_of_slot" = some (.ref (He.ga K "members_of_slot"))
  g_sevens_of : mg "sevens_of" = some (.ref (He.ga K "sevens_of"))
  g_pack : mg "pack" = some (.ref (He.ga K "pack"))
  g_sign_of : mg "sign_of" = some (.ref (He.ga K "sign_of"))
  g_unpack : mg "unpack" = some (.ref (He.ga K "unpack"))
  g_next_ballot : mg "next_ballot" = some (.ref (He.ga K "next_ballot"))
  g_record_of : mg "record_of" = some (.ref (He.ga K "record_of"))
  g_stand_aside : mg "stand_aside" = some (.ref (He.ga K "stand_aside"))
  g_refuse : mg "refuse" = some (.ref (He.ga K "refuse"))
  g_hear_ask : mg "hear_ask" = some (.ref (He.ga K "hear_ask"))
  g_hear_tell : mg "hear_tell" = some (.ref (He.ga K "hear_tell"))
  g_hear_give : mg "hear_give" = some (.ref (He.ga K "hear_give"))
  g_hear_now : mg "hear_now" = some (.ref (He.ga K "hear_now"))
  g_hear : mg "hear" = some (.ref (He.ga K "hear"))
  g_law_row : mg "_law_row" = some (.ref (He.ga K "_law_row"))
  g_law_take : mg "_law_take" = some (.ref (He.ga K "_law_take"))
  g_law_make : mg "_law_make" = some (.ref (He.ga K "_law_make"))
  g_law_message : mg "_law_message" = some (.ref (He.ga K "_law_message"))
  g_law_step : mg "_law_step" = some (.ref (He.ga K "_law_step"))
  g_law_state : mg "_law_state" = some (.ref (He.ga K "_law_state"))
  g_law_lines : mg "_law_lines" = some (.ref (He.ga K "_law_lines"))
  g_law_comes_back : mg "_law_comes_back" = some (.ref (He.ga K "_law_comes_back"))
  g_law : mg "law" = some (.ref (He.ga K "law"))
  g_Journal : mg "Journal" = some (.ref (He.ga K "Journal"))
  c_Journal : Cls K (He.ga K "Journal")
  k_Journal : Mk K (He.ga K "Journal") (He.ma K (He.ga K "Journal") "__init__")
  n_Journal_rows : NoAttr K (He.ga K "Journal") "rows"
  n_Journal_safe : NoAttr K (He.ga K "Journal") "safe"
  g_Reader : mg "Reader" = some (.ref (He.ga K "Reader"))
  c_Reader : Cls K (He.ga K "Reader")
  k_Reader : Mk K (He.ga K "Reader") (He.ma K (He.ga K "Reader") "__init__")
  n_Reader_octets : NoAttr K (He.ga K "Reader") "octets"
  n_Reader_at : NoAttr K (He.ga K "Reader") "at"
  g_Acceptor : mg "Acceptor" = some (.ref (He.ga K "Acceptor"))
  c_Acceptor : Cls K (He.ga K "Acceptor")
  k_Acceptor : Mk K (He.ga K "Acceptor") (He.ma K (He.ga K "Acceptor") "__init__")
  n_Acceptor_promised : NoAttr K (He.ga K "Acceptor") "promised"
  n_Acceptor_accepted : NoAttr K (He.ga K "Acceptor") "accepted"
  g_Record : mg "Record" = some (.ref (He.ga K "Record"))
  c_Record : Cls K (He.ga K "Record")
  k_Record : Mk K (He.ga K "Record") (He.ma K (He.ga K "Record") "__init__")
  n_Record_row : NoAttr K (He.ga K "Record") "row"
  n_Record_acceptor : NoAttr K (He.ga K "Record") "acceptor"
  g_Attempt : mg "Attempt" = some (.ref (He.ga K "Attempt"))
  c_Attempt : Cls K (He.ga K "Attempt")
  k_Attempt : Mk K (He.ga K "Attempt") (He.ma K (He.ga K "Attempt") "__init__")
  n_Attempt_ballot : NoAttr K (He.ga K "Attempt") "ballot"
  n_Attempt_entry : NoAttr K (He.ga K "Attempt") "entry"
  n_Attempt_members : NoAttr K (He.ga K "Attempt") "members"
  n_Attempt_stage : NoAttr K (He.ga K "Attempt") "stage"
  n_Attempt_promised_by : NoAttr K (He.ga K "Attempt") "promised_by"
  n_Attempt_voted_by : NoAttr K (He.ga K "Attempt") "voted_by"
  n_Attempt_bound : NoAttr K (He.ga K "Attempt") "bound"
  g_Node : mg "Node" = some (.ref (He.ga K "Node"))
  c_Node : Cls K (He.ga K "Node")
  k_Node : Mk K (He.ga K "Node") (He.ma K (He.ga K "Node") "__init__")
  n_Node_index : NoAttr K (He.ga K "Node") "index"
  n_Node_size : NoAttr K (He.ga K "Node") "size"
  n_Node_first_members : NoAttr K (He.ga K "Node") "first_members"
  n_Node_make_machine : NoAttr K (He.ga K "Node") "make_machine"
  n_Node_lazy : NoAttr K (He.ga K "Node") "lazy"
  n_Node_state : NoAttr K (He.ga K "Node") "state"
  n_Node_journal : NoAttr K (He.ga K "Node") "journal"
  n_Node_record : NoAttr K (He.ga K "Node") "record"
  n_Node_machine : NoAttr K (He.ga K "Node") "machine"
  n_Node_waiting : NoAttr K (He.ga K "Node") "waiting"
  n_Node_wanted : NoAttr K (He.ga K "Node") "wanted"
  n_Node_attempt : NoAttr K (He.ga K "Node") "attempt"
  n_Node_patience : NoAttr K (He.ga K "Node") "patience"
  n_Node_guest : NoAttr K (He.ga K "Node") "guest"
  n_Node_seen : NoAttr K (He.ga K "Node") "seen"
  n_Node_outbox : NoAttr K (He.ga K "Node") "outbox"
  n_Node_spoken : NoAttr K (He.ga K "Node") "spoken"
  n_Node_cast : NoAttr K (He.ga K "Node") "cast"
  g_Diary : mg "Diary" = some (.ref (He.ga K "Diary"))
  c_Diary : Cls K (He.ga K "Diary")
  k_Diary : Mk K (He.ga K "Diary") (He.ma K (He.ga K "Diary") "__init__")
  n_Diary_lines : NoAttr K (He.ga K "Diary") "lines"
  m_Journal_append : Meth K (He.ga K "Journal") "append" (He.ma K (He.ga K "Journal") "append")
  m_Journal_sync : Meth K (He.ga K "Journal") "sync" (He.ma K (He.ga K "Journal") "sync")
  m_Journal_crash : Meth K (He.ga K "Journal") "crash" (He.ma K (He.ga K "Journal") "crash")
  m_Journal_payloads : Meth K (He.ga K "Journal") "payloads" (He.ma K (He.ga K "Journal") "payloads")
  m_Journal_fork : Meth K (He.ga K "Journal") "fork" (He.ma K (He.ga K "Journal") "fork")
  m_Reader_octet : Meth K (He.ga K "Reader") "octet" (He.ma K (He.ga K "Reader") "octet")
  m_Reader_sevens : Meth K (He.ga K "Reader") "sevens" (He.ma K (He.ga K "Reader") "sevens")
  m_Reader_number : Meth K (He.ga K "Reader") "number" (He.ma K (He.ga K "Reader") "number")
  m_Reader_text : Meth K (He.ga K "Reader") "text" (He.ma K (He.ga K "Reader") "text")
  m_Reader_plain : Meth K (He.ga K "Reader") "plain" (He.ma K (He.ga K "Reader") "plain")
  m_Acceptor_hears : Meth K (He.ga K "Acceptor") "hears" (He.ma K (He.ga K "Acceptor") "hears")
  m_Acceptor_promise : Meth K (He.ga K "Acceptor") "promise" (He.ma K (He.ga K "Acceptor") "promise")
  m_Acceptor_accept : Meth K (He.ga K "Acceptor") "accept" (He.ma K (He.ga K "Acceptor") "accept")
  m_Acceptor_fork : Meth K (He.ga K "Acceptor") "fork" (He.ma K (He.ga K "Acceptor") "fork")
  m_Record_do : Meth K (He.ga K "Record") "do" (He.ma K (He.ga K "Record") "do")
  m_Record_fork : Meth K (He.ga K "Record") "fork" (He.ma K (He.ga K "Record") "fork")
  m_Attempt_fork : Meth K (He.ga K "Attempt") "fork" (He.ma K (He.ga K "Attempt") "fork")
  m_Node_long_patience : Meth K (He.ga K "Node") "long_patience" (He.ma K (He.ga K "Node") "long_patience")
  m_Node_has_wishes : Meth K (He.ga K "Node") "has_wishes" (He.ma K (He.ga K "Node") "has_wishes")
  m_Node_wish : Meth K (He.ga K "Node") "wish" (He.ma K (He.ga K "Node") "wish")
  m_Node_note : Meth K (He.ga K "Node") "note" (He.ma K (He.ga K "Node") "note")
  m_Node_post : Meth K (He.ga K "Node") "post" (He.ma K (He.ga K "Node") "post")
  m_Node_post_all : Meth K (He.ga K "Node") "post_all" (He.ma K (He.ga K "Node") "post_all")
  m_Node_post_others : Meth K (He.ga K "Node") "post_others" (He.ma K (He.ga K "Node") "post_others")
  m_Node_begin : Meth K (He.ga K "Node") "begin" (He.ma K (He.ga K "Node") "begin")
  m_Node_begin_if_quiet : Meth K (He.ga K "Node") "begin_if_quiet" (He.ma K (He.ga K "Node") "begin_if_quiet")
  m_Node_learn : Meth K (He.ga K "Node") "learn" (He.ma K (He.ga K "Node") "learn")
  m_Node_end_step : Meth K (He.ga K "Node") "end_step" (He.ma K (He.ga K "Node") "end_step")
  m_Node_offer : Meth K (He.ga K "Node") "offer" (He.ma K (He.ga K "Node") "offer")
  m_Node_receive : Meth K (He.ga K "Node") "receive" (He.ma K (He.ga K "Node") "receive")
  m_Node_tick : Meth K (He.ga K "Node") "tick" (He.ma K (He.ga K "Node") "tick")
  m_Node_sync : Meth K (He.ga K "Node") "sync" (He.ma K (He.ga K "Node") "sync")
  m_Node_forget : Meth K (He.ga K "Node") "forget" (He.ma K (He.ga K "Node") "forget")
  m_Node_crash : Meth K (He.ga K "Node") "crash" (He.ma K (He.ga K "Node") "crash")
  m_Node_restart : Meth K (He.ga K "Node") "restart" (He.ma K (He.ga K "Node") "restart")
  m_Node_is_silent : Meth K (He.ga K "Node") "is_silent" (He.ma K (He.ga K "Node") "is_silent")
  m_Node_sends : Meth K (He.ga K "Node") "sends" (He.ma K (He.ga K "Node") "sends")
  m_Node_letters : Meth K (He.ga K "Node") "letters" (He.ma K (He.ga K "Node") "letters")
  m_Node_new_votes : Meth K (He.ga K "Node") "new_votes" (He.ma K (He.ga K "Node") "new_votes")
  m_Node_fork : Meth K (He.ga K "Node") "fork" (He.ma K (He.ga K "Node") "fork")
  m_Diary_apply : Meth K (He.ga K "Diary") "apply" (He.ma K (He.ga K "Diary") "apply")
  m_Diary_settled : Meth K (He.ga K "Diary") "settled" (He.ma K (He.ga K "Diary") "settled")
  v_FRAME_HEAD : ∃ t, mg "FRAME_HEAD" = some (.int 6 t)
  v_PRIME : ∃ t, mg "PRIME" = some (.int 4294967291 t)
  v_FACTOR : ∃ t, mg "FACTOR" = some (.int 257 t)
  v_MOST_BATCH : ∃ t, mg "MOST_BATCH" = some (.int 8 t)
  v_MOST_WAITING : ∃ t, mg "MOST_WAITING" = some (.int 16 t)
  v_MOST_GIVEN : ∃ t, mg "MOST_GIVEN" = some (.int 30 t)
  v_BATCH : ∃ t, mg "BATCH" = some (.str "batch" t)
  v_MEMBERS : ∃ t, mg "MEMBERS" = some (.str "members" t)
  v_MOST_DEPTH : ∃ t, mg "MOST_DEPTH" = some (.int 40 t)
  v_NOTHING : ∃ t, mg "NOTHING" = some (.int 0 t)
  v_WHOLE : ∃ t, mg "WHOLE" = some (.int 1 t)
  v_BELOW : ∃ t, mg "BELOW" = some (.int 2 t)
  v_TEXT : ∃ t, mg "TEXT" = some (.int 3 t)
  v_TUPLE : ∃ t, mg "TUPLE" = some (.int 4 t)
  v_MORE : ∃ t, mg "MORE" = some (.int 128 t)
  v_LOW_SIGNS : ∃ t, mg "LOW_SIGNS" = some (.str " !\"#$" t)
  v_HIGH_SIGNS : ∃ t, mg "HIGH_SIGNS" = some (.str "&'()*+,-./0123456789:;<=>?@ABCDEFGHIJKLMNOPQRSTUVWXYZ[\\]^_`abcdefghijklmnopqrstuvwxyz{|}~" t)
  v_MOST_ROUND : ∃ t, mg "MOST_ROUND" = some (.int 9999 t)
  v_PROMISE : ∃ t, mg "PROMISE" = some (.str "promise" t)
  v_ACCEPT : ∃ t, mg "ACCEPT" = some (.str "accept" t)
  v_CHOSEN : ∃ t, mg "CHOSEN" = some (.str "chosen" t)
  v_ASK : ∃ t, mg "ASK" = some (.str "ask" t)
  v_TELL : ∃ t, mg "TELL" = some (.str "tell" t)
  v_REFUSE : ∃ t, mg "REFUSE" = some (.str "refuse" t)
  v_VOTED : ∃ t, mg "VOTED" = some (.str "voted" t)
  v_FETCH : ∃ t, mg "FETCH" = some (.str "fetch" t)
  v_GIVE : ∃ t, mg "GIVE" = some (.str "give" t)
  v_ASKING : ∃ t, mg "ASKING" = some (.str "asking" t)
  v_TELLING : ∃ t, mg "TELLING" = some (.str "telling" t)
  v_WON : ∃ t, mg "WON" = some (.str "won" t)
  v_UP : ∃ t, mg "UP" = some (.str "up" t)
  v_DOWN : ∃ t, mg "DOWN" = some (.str "down" t)
  v_MOST_INTEGER : ∃ t, mg "MOST_INTEGER" = some (.int 1000000000000000000 t)
  g_NO_BALLOT : mg "NO_BALLOT" = some (.ref (He.ga K "NO_BALLOT"))
  b_len : mg "len" = none
  b_list : mg "list" = none
  b_range : mg "range" = none
  b_max : mg "max" = none
  b_min : mg "min" = none
  b_int : mg "int" = none
  b_tuple : mg "tuple" = none
  b_isinstance : mg "isinstance" = none
  b_ord : mg "ord" = none
  b_str : mg "str" = none
  b_reversed : mg "reversed" = none
  b_enumerate : mg "enumerate" = none
  b_sorted : mg "sorted" = none
  p_Journal_frame_count : ∃ p, PropOf K (He.ga K "Journal") "frame_count" p (getter "Journal" "frame_count" K)
  p_Journal_synced_frames : ∃ p, PropOf K (He.ga K "Journal") "synced_frames" p (getter "Journal" "synced_frames" K)
  p_Record_upto : ∃ p, PropOf K (He.ga K "Record") "upto" p (getter "Record" "upto" K)
  p_Node_upto : ∃ p, PropOf K (He.ga K "Node") "upto" p (getter "Node" "upto" K)
  p_Node_members_now : ∃ p, PropOf K (He.ga K "Node") "members_now" p (getter "Node" "members_now" K)
  t_NO_BALLOT : ∀ H : Hp, SqT K H (He.ga K "NO_BALLOT") [.int 0, .int 0]
  f_checksum : ∃ fd, Fn K d_checksum fd
  f_lowest_octets : ∃ fd, Fn K d_lowest_octets fd
  f_frame : ∃ fd, Fn K d_frame fd
  f_read_frames : ∃ fd, Fn K d_read_frames fd
  f_Journal_init : ∃ fd, Fn K d_Journal_init fd
  f_Journal_append : ∃ fd, Fn K d_Journal_append fd
  f_Journal_sync : ∃ fd, Fn K d_Journal_sync fd
  f_Journal_crash : ∃ fd, Fn K d_Journal_crash fd
  f_Journal_payloads : ∃ fd, Fn K d_Journal_payloads fd
  f_Journal_frame_count : ∃ fd, Fn K d_Journal_frame_count fd
  f_Journal_synced_frames : ∃ fd, Fn K d_Journal_synced_frames fd
  f_Journal_fork : ∃ fd, Fn K d_Journal_fork fd
  f_batch_of : ∃ fd, Fn K d_batch_of fd
  f_commands_of : ∃ fd, Fn K d_commands_of fd
  f_members_of_slot : ∃ fd, Fn K d_members_of_slot fd
  f_sevens_of : ∃ fd, Fn K d_sevens_of fd
  f_pack : ∃ fd, Fn K d_pack fd
  f_sign_of : ∃ fd, Fn K d_sign_of fd
  f_Reader_init : ∃ fd, Fn K d_Reader_init fd
  f_Reader_octet : ∃ fd, Fn K d_Reader_octet fd
  f_Reader_sevens : ∃ fd, Fn K d_Reader_sevens fd
  f_Reader_number : ∃ fd, Fn K d_Reader_number fd
  f_Reader_text : ∃ fd, Fn K d_Reader_text fd
  f_Reader_plain : ∃ fd, Fn K d_Reader_plain fd
  f_unpack : ∃ fd, Fn K d_unpack fd
  f_next_ballot : ∃ fd, Fn K d_next_ballot fd
  f_Acceptor_init : ∃ fd, Fn K d_Acceptor_init fd
  f_Acceptor_hears : ∃ fd, Fn K d_Acceptor_hears fd
  f_Acceptor_promise : ∃ fd, Fn K d_Acceptor_promise fd
  f_Acceptor_accept : ∃ fd, Fn K d_Acceptor_accept fd
  f_Acceptor_fork : ∃ fd, Fn K d_Acceptor_fork fd
  f_Record_init : ∃ fd, Fn K d_Record_init fd
  f_Record_upto : ∃ fd, Fn K d_Record_upto fd
  f_Record_do : ∃ fd, Fn K d_Record_do fd
  f_Record_fork : ∃ fd, Fn K d_Record_fork fd
  f_record_of : ∃ fd, Fn K d_record_of fd
  f_stand_aside : ∃ fd, Fn K d_stand_aside fd
  f_refuse : ∃ fd, Fn K d_refuse fd
  f_hear_ask : ∃ fd, Fn K d_hear_ask fd
  f_hear_tell : ∃ fd, Fn K d_hear_tell fd
  f_hear_give : ∃ fd, Fn K d_hear_give fd
  f_hear_now : ∃ fd, Fn K d_hear_now fd
  f_hear : ∃ fd, Fn K d_hear fd
  f_Attempt_init : ∃ fd, Fn K d_Attempt_init fd
  f_Attempt_fork : ∃ fd, Fn K d_Attempt_fork fd
  f_Node_init : ∃ fd, Fn K d_Node_init fd
  f_Node_upto : ∃ fd, Fn K d_Node_upto fd
  f_Node_members_now : ∃ fd, Fn K d_Node_members_now fd
  f_Node_long_patience : ∃ fd, Fn K d_Node_long_patience fd
  f_Node_has_wishes : ∃ fd, Fn K d_Node_has_wishes fd
  f_Node_wish : ∃ fd, Fn K d_Node_wish fd
  f_Node_note : ∃ fd, Fn K d_Node_note fd
  f_Node_post : ∃ fd, Fn K d_Node_post fd
  f_Node_post_all : ∃ fd, Fn K d_Node_post_all fd
  f_Node_post_others : ∃ fd, Fn K d_Node_post_others fd
  f_Node_begin : ∃ fd, Fn K d_Node_begin fd
  f_Node_begin_if_quiet : ∃ fd, Fn K d_Node_begin_if_quiet fd
  f_Node_learn : ∃ fd, Fn K d_Node_learn fd
  f_Node_end_step : ∃ fd, Fn K d_Node_end_step fd
  f_Node_offer : ∃ fd, Fn K d_Node_offer fd
  f_Node_receive : ∃ fd, Fn K d_Node_receive fd
  f_Node_tick : ∃ fd, Fn K d_Node_tick fd
  f_Node_sync : ∃ fd, Fn K d_Node_sync fd
  f_Node_forget : ∃ fd, Fn K d_Node_forget fd
  f_Node_crash : ∃ fd, Fn K d_Node_crash fd
  f_Node_restart : ∃ fd, Fn K d_Node_restart fd
  f_Node_is_silent : ∃ fd, Fn K d_Node_is_silent fd
  f_Node_sends : ∃ fd, Fn K d_Node_sends fd
  f_Node_letters : ∃ fd, Fn K d_Node_letters fd
  f_Node_new_votes : ∃ fd, Fn K d_Node_new_votes fd
  f_Node_fork : ∃ fd, Fn K d_Node_fork fd
  f_Diary_init : ∃ fd, Fn K d_Diary_init fd
  f_Diary_apply : ∃ fd, Fn K d_Diary_apply fd
  f_Diary_settled : ∃ fd, Fn K d_Diary_settled fd
  f_law_row : ∃ fd, Fn K d_law_row fd
  f_law_take : ∃ fd, Fn K d_law_take fd
  f_law_make : ∃ fd, Fn K d_law_make fd
  f_law_message : ∃ fd, Fn K d_law_message fd
  f_law_step : ∃ fd, Fn K d_law_step fd
  f_law_state : ∃ fd, Fn K d_law_state fd
  f_law_lines : ∃ fd, Fn K d_law_lines fd
  f_law_comes_back : ∃ fd, Fn K d_law_comes_back fd
  f_law : ∃ fd, Fn K d_law fd
theorem all_at {α : Type} {p : α → Bool} {l : List α} (h : l.all p = true) (i : Nat) {x : α} (e : l[i]? = some x) : p x = true := List.all_eq_true.mp h x (List.mem_of_getElem? e)
theorem Txt.of {K : PySem.W.Frag} {mg : Str → Option Value} {h : Heap} (X : K.In h) (G : h.Ns mainGlobals mg) (c : look K = wanted) : Txt K mg := by
  have ca : allB K = true := congrArg (fun z : Al => z.1) c
  have cf : fns.map (fun d => seenAt K (d.ad K)) = fns.map Gd.want := congrArg (fun z : Al => z.2) c
  unfold allB at ca
  obtain ⟨a0, ca⟩ := Bool.and_eq_true_iff.mp ca
  obtain ⟨a1, ca⟩ := Bool.and_eq_true_iff.mp ca
  obtain ⟨a2, ca⟩ := Bool.and_eq_true_iff.mp ca
  obtain ⟨a3, ca⟩ := Bool.and_eq_true_iff.mp ca
  obtain ⟨a4, ca⟩ := Bool.and_eq_true_iff.mp ca
  obtain ⟨a5, ca⟩ := Bool.and_eq_true_iff.mp ca
  obtain ⟨asd, ca⟩ := Bool.and_eq_true_iff.mp ca
  obtain ⟨apr, atp⟩ := Bool.and_eq_true_iff.mp ca
  have fn : ∀ (i : Nat) (d : Gd), fns[i]? = some d → ∃ fd, Fn K d fd := fun i d e => by
    have z : (fns.map (fun d => seenAt K (d.ad K)))[i]? = (fns.map Gd.want)[i]? := by rw [cf]
    rw [List.getElem?_map, List.getElem?_map, e] at z
    exact Gd.fn (Option.some.inj z) (all_at asd i e)
  exact {
    g_checksum := He.glo_ok X G (all_at a0 0 rfl)
    g_lowest_octets := He.glo_ok X G (all_at a0 1 rfl)
    g_frame := He.glo_ok X G (all_at a0 2 rfl)
    g_read_frames := He.glo_ok X G (all_at a0 3 rfl)
    g_batch_of := He.glo_ok X G (all_at a0 4 rfl)
    g_commands_of := He.glo_ok X G (all_at a0 5 rfl)
    g_members_of_slot := He.glo_ok X G (all_at a0 6 rfl)
    g_sevens_of := He.glo_ok X G (all_at a0 7 rfl)
    g_pack := He.glo_ok X G (all_at a0 8 rfl)
    g_sign_of := He.glo_ok X G (all_at a0 9 rfl)
    g_unpack := He.glo_ok X G (all_at a0 10 rfl)
    g_next_ballot := He.glo_ok X G (all_at a0 11 rfl)
    g_record_of := He.glo_ok X G (all_at a0 12 rfl)
    g_stand_aside := He.glo_ok X G (all_at a0 13 rfl)
    g_refuse := He.glo_ok X G (all_at a0 14 rfl)
    g_hear_ask := He.glo_ok X G (all_at a0 15 rfl)
    g_hear_tell := He.glo_ok X G (all_at a0 16 rfl)
    g_hear_give := He.glo_ok X G (all_at a0 17 rfl)
    g_hear_now := He.glo_ok X G (all_at a0 18 rfl)
    g_hear := He.glo_ok X G (all_at a0 19 rfl)
    g_law_row := He.glo_ok X G (all_at a0 20 rfl)
    g_law_take := He.glo_ok X G (all_at a0 21 rfl)
    g_law_make := He.glo_ok X G (all_at a0 22 rfl)
    g_law_message := He.glo_ok X G (all_at a0 23 rfl)
    g_law_step := He.glo_ok X G (all_at a0 24 rfl)
    g_law_state := He.glo_ok X G (all_at a0 25 rfl)
    g_law_lines := He.glo_ok X G (all_at a0 26 rfl)
    g_law_comes_back := He.glo_ok X G (all_at a0 27 rfl)
    g_law := He.glo_ok X G (all_at a0 28 rfl)
    g_Journal := He.glo_ok X G (all_at a0 29 rfl)
    c_Journal := He.cls_ok (all_at a1 0 rfl)
    k_Journal := He.mkr_ok (all_at a1 1 rfl)
    n_Journal_rows := He.noat_ok (all_at a1 2 rfl)
    n_Journal_safe := He.noat_ok (all_at a1 3 rfl)
    g_Reader := He.glo_ok X G (all_at a1 4 rfl)
    c_Reader := He.cls_ok (all_at a1 5 rfl)
    k_Reader := He.mkr_ok (all_at a1 6 rfl)
    n_Reader_octets := He.noat_ok (all_at a1 7 rfl)
    n_Reader_at := He.noat_ok (all_at a1 8 rfl)
    g_Acceptor := He.glo_ok X G (all_at a1 9 rfl)
    c_Acceptor := He.cls_ok (all_at a1 10 rfl)
    k_Acceptor := He.mkr_ok (all_at a1 11 rfl)
    n_Acceptor_promised := He.noat_ok (all_at a1 12 rfl)
    n_Acceptor_accepted := He.noat_ok (all_at a1 13 rfl)
    g_Record := He.glo_ok X G (all_at a1 14 rfl)
    c_Record := He.cls_ok (all_at a1 15 rfl)
    k_Record := He.mkr_ok (all_at a1 16 rfl)
    n_Record_row := He.noat_ok (all_at a1 17 rfl)
    n_Record_acceptor := He.noat_ok (all_at a1 18 rfl)
    g_Attempt := He.glo_ok X G (all_at a1 19 rfl)
    c_Attempt := He.cls_ok (all_at a1 20 rfl)
    k_Attempt := He.mkr_ok (all_at a1 21 rfl)
    n_Attempt_ballot := He.noat_ok (all_at a1 22 rfl)
    n_Attempt_entry := He.noat_ok (all_at a1 23 rfl)
    n_Attempt_members := He.noat_ok (all_at a1 24 rfl)
    n_Attempt_stage := He.noat_ok (all_at a1 25 rfl)
    n_Attempt_promised_by := He.noat_ok (all_at a1 26 rfl)
    n_Attempt_voted_by := He.noat_ok (all_at a1 27 rfl)
    n_Attempt_bound := He.noat_ok (all_at a1 28 rfl)
    g_Node := He.glo_ok X G (all_at a1 29 rfl)
    c_Node := He.cls_ok (all_at a2 0 rfl)
    k_Node := He.mkr_ok (all_at a2 1 rfl)
    n_Node_index := He.noat_ok (all_at a2 2 rfl)
    n_Node_size := He.noat_ok (all_at a2 3 rfl)
    n_Node_first_members := He.noat_ok (all_at a2 4 rfl)
    n_Node_make_machine := He.noat_ok (all_at a2 5 rfl)
    n_Node_lazy := He.noat_ok (all_at a2 6 rfl)
    n_Node_state := He.noat_ok (all_at a2 7 rfl)
    n_Node_journal := He.noat_ok (all_at a2 8 rfl)
    n_Node_record := He.noat_ok (all_at a2 9 rfl)
    n_Node_machine := He.noat_ok (all_at a2 10 rfl)
    n_Node_waiting := He.noat_ok (all_at a2 11 rfl)
    n_Node_wanted := He.noat_ok (all_at a2 12 rfl)
    n_Node_attempt := He.noat_ok (all_at a2 13 rfl)
    n_Node_patience := He.noat_ok (all_at a2 14 rfl)
    n_Node_guest := He.noat_ok (all_at a2 15 rfl)
    n_Node_seen := He.noat_ok (all_at a2 16 rfl)
    n_Node_outbox := He.noat_ok (all_at a2 17 rfl)
    n_Node_spoken := He.noat_ok (all_at a2 18 rfl)
    n_Node_cast := He.noat_ok (all_at a2 19 rfl)
    g_Diary := He.glo_ok X G (all_at a2 20 rfl)
    c_Diary := He.cls_ok (all_at a2 21 rfl)
    k_Diary := He.mkr_ok (all_at a2 22 rfl)
    n_Diary_lines := He.noat_ok (all_at a2 23 rfl)
    m_Journal_append := He.meth_ok (all_at a2 24 rfl)
    m_Journal_sync := He.meth_ok (all_at a2 25 rfl)
    m_Journal_crash := He.meth_ok (all_at a2 26 rfl)
    m_Journal_payloads := He.meth_ok (all_at a2 27 rfl)
    m_Journal_fork := He.meth_ok (all_at a2 28 rfl)
    m_Reader_octet := He.meth_ok (all_at a2 29 rfl)
    m_Reader_sevens := He.meth_ok (all_at a3 0 rfl)
    m_Reader_number := He.meth_ok (all_at a3 1 rfl)
    m_Reader_text := He.meth_ok (all_at a3 2 rfl)
    m_Reader_plain := He.meth_ok (all_at a3 3 rfl)
    m_Acceptor_hears := He.meth_ok (all_at a3 4 rfl)
    m_Acceptor_promise := He.meth_ok (all_at a3 5 rfl)
    m_Acceptor_accept := He.meth_ok (all_at a3 6 rfl)
    m_Acceptor_fork := He.meth_ok (all_at a3 7 rfl)
    m_Record_do := He.meth_ok (all_at a3 8 rfl)
    m_Record_fork := He.meth_ok (all_at a3 9 rfl)
    m_Attempt_fork := He.meth_ok (all_at a3 10 rfl)
    m_Node_long_patience := He.meth_ok (all_at a3 11 rfl)
    m_Node_has_wishes := He.meth_ok (all_at a3 12 rfl)
    m_Node_wish := He.meth_ok (all_at a3 13 rfl)
    m_Node_note := He.meth_ok (all_at a3 14 rfl)
    m_Node_post := He.meth_ok (all_at a3 15 rfl)
    m_Node_post_all := He.meth_ok (all_at a3 16 rfl)
    m_Node_post_others := He.meth_ok (all_at a3 17 rfl)
    m_Node_begin := He.meth_ok (all_at a3 18 rfl)
    m_Node_begin_if_quiet := He.meth_ok (all_at a3 19 rfl)
    m_Node_learn := He.meth_ok (all_at a3 20 rfl)
    m_Node_end_step := He.meth_ok (all_at a3 21 rfl)
    m_Node_offer := He.meth_ok (all_at a3 22 rfl)
    m_Node_receive := He.meth_ok (all_at a3 23 rfl)
    m_Node_tick := He.meth_ok (all_at a3 24 rfl)
    m_Node_sync := He.meth_ok (all_at a3 25 rfl)
    m_Node_forget := He.meth_ok (all_at a3 26 rfl)
    m_Node_crash := He.meth_ok (all_at a3 27 rfl)
    m_Node_restart := He.meth_ok (all_at a3 28 rfl)
    m_Node_is_silent := He.meth_ok (all_at a3 29 rfl)
    m_Node_sends := He.meth_ok (all_at a4 0 rfl)
    m_Node_letters := He.meth_ok (all_at a4 1 rfl)
    m_Node_new_votes := He.meth_ok (all_at a4 2 rfl)
    m_Node_fork := He.meth_ok (all_at a4 3 rfl)
    m_Diary_apply := He.meth_ok (all_at a4 4 rfl)
    m_Diary_settled := He.meth_ok (all_at a4 5 rfl)
    v_FRAME_HEAD := He.int_ok X G (all_at a4 6 rfl)
    v_PRIME := He.int_ok X G (all_at a4 7 rfl)
    v_FACTOR := He.int_ok X G (all_at a4 8 rfl)
    v_MOST_BATCH := He.int_ok X G (all_at a4 9 rfl)
    v_MOST_WAITING := He.int_ok X G (all_at a4 10 rfl)
    v_MOST_GIVEN := He.int_ok X G (all_at a4 11 rfl)
    v_BATCH := He.str_ok X G (all_at a4 12 rfl)
    v_MEMBERS := He.str_ok X G (all_at a4 13 rfl)
    v_MOST_DEPTH := He.int_ok X G (all_at a4 14 rfl)
    v_NOTHING := He.int_ok X G (all_at a4 15 rfl)
    v_WHOLE := He.int_ok X G (all_at a4 16 rfl)
    v_BELOW := He.int_ok X G (all_at a4 17 rfl)
    v_TEXT := He.int_ok X G (all_at a4 18 rfl)
    v_TUPLE := He.int_ok X G (all_at a4 19 rfl)
    v_MORE := He.int_ok X G (all_at a4 20 rfl)
    v_LOW_SIGNS := He.str_ok X G (all_at a4 21 rfl)
    v_HIGH_SIGNS := He.str_ok X G (all_at a4 22 rfl)
    v_MOST_ROUND := He.int_ok X G (all_at a4 23 rfl)
    v_PROMISE := He.str_ok X G (all_at a4 24 rfl)
    v_ACCEPT := He.str_ok X G (all_at a4 25 rfl)
    v_CHOSEN := He.str_ok X G (all_at a4 26 rfl)
    v_ASK := He.str_ok X G (all_at a4 27 rfl)
    v_TELL := He.str_ok X G (all_at a4 28 rfl)
    v_REFUSE := He.str_ok X G (all_at a4 29 rfl)
    v_VOTED := He.str_ok X G (all_at a5 0 rfl)
    v_FETCH := He.str_ok X G (all_at a5 1 rfl)
    v_GIVE := He.str_ok X G (all_at a5 2 rfl)
    v_ASKING := He.str_ok X G (all_at a5 3 rfl)
    v_TELLING := He.str_ok X G (all_at a5 4 rfl)
    v_WON := He.str_ok X G (all_at a5 5 rfl)
    v_UP := He.str_ok X G (all_at a5 6 rfl)
    v_DOWN := He.str_ok X G (all_at a5 7 rfl)
    v_MOST_INTEGER := He.int_ok X G (all_at a5 8 rfl)
    g_NO_BALLOT := He.glo_ok X G (all_at a5 9 rfl)
    b_len := He.free_ok X G (all_at a5 10 rfl)
    b_list := He.free_ok X G (all_at a5 11 rfl)
    b_range := He.free_ok X G (all_at a5 12 rfl)
    b_max := He.free_ok X G (all_at a5 13 rfl)
    b_min := He.free_ok X G (all_at a5 14 rfl)
    b_int := He.free_ok X G (all_at a5 15 rfl)
    b_tuple := He.free_ok X G (all_at a5 16 rfl)
    b_isinstance := He.free_ok X G (all_at a5 17 rfl)
    b_ord := He.free_ok X G (all_at a5 18 rfl)
    b_str := He.free_ok X G (all_at a5 19 rfl)
    b_reversed := He.free_ok X G (all_at a5 20 rfl)
    b_enumerate := He.free_ok X G (all_at a5 21 rfl)
    b_sorted := He.free_ok X G (all_at a5 22 rfl)
    p_Journal_frame_count := propB_ok (all_at apr 0 rfl)
    p_Journal_synced_frames := propB_ok (all_at apr 1 rfl)
    p_Record_upto := propB_ok (all_at apr 2 rfl)
    p_Node_upto := propB_ok (all_at apr 3 rfl)
    p_Node_members_now := propB_ok (all_at apr 4 rfl)
    t_NO_BALLOT := He.tupB_ok atp
    f_checksum := fn 0 _ rfl
    f_lowest_octets := fn 1 _ rfl
    f_frame := fn 2 _ rfl
    f_read_frames := fn 3 _ rfl
    f_Journal_init := fn 4 _ rfl
    f_Journal_append := fn 5 _ rfl
    f_Journal_sync := fn 6 _ rfl
    f_Journal_crash := fn 7 _ rfl
    f_Journal_payloads := fn 8 _ rfl
    f_Journal_frame_count := fn 9 _ rfl
    f_Journal_synced_frames := fn 10 _ rfl
    f_Journal_fork := fn 11 _ rfl
    f_batch_of := fn 12 _ rfl
    f_commands_of := fn 13 _ rfl
    f_members_of_slot := fn 14 _ rfl
    f_sevens_of := fn 15 _ rfl
    f_pack := fn 16 _ rfl
    f_sign_of := fn 17 _ rfl
    f_Reader_init := fn 18 _ rfl
    f_Reader_octet := fn 19 _ rfl
    f_Reader_sevens := fn 20 _ rfl
    f_Reader_number := fn 21 _ rfl
    f_Reader_text := fn 22 _ rfl
    f_Reader_plain := fn 23 _ rfl
    f_unpack := fn 24 _ rfl
    f_next_ballot := fn 25 _ rfl
    f_Acceptor_init := fn 26 _ rfl
    f_Acceptor_hears := fn 27 _ rfl
    f_Acceptor_promise := fn 28 _ rfl
    f_Acceptor_accept := fn 29 _ rfl
    f_Acceptor_fork := fn 30 _ rfl
    f_Record_init := fn 31 _ rfl
    f_Record_upto := fn 32 _ rfl
    f_Record_do := fn 33 _ rfl
    f_Record_fork := fn 34 _ rfl
    f_record_of := fn 35 _ rfl
    f_stand_aside := fn 36 _ rfl
    f_refuse := fn 37 _ rfl
    f_hear_ask := fn 38 _ rfl
    f_hear_tell := fn 39 _ rfl
    f_hear_give := fn 40 _ rfl
    f_hear_now := fn 41 _ rfl
    f_hear := fn 42 _ rfl
    f_Attempt_init := fn 43 _ rfl
    f_Attempt_fork := fn 44 _ rfl
    f_Node_init := fn 45 _ rfl
    f_Node_upto := fn 46 _ rfl
    f_Node_members_now := fn 47 _ rfl
    f_Node_long_patience := fn 48 _ rfl
    f_Node_has_wishes := fn 49 _ rfl
    f_Node_wish := fn 50 _ rfl
    f_Node_note := fn 51 _ rfl
    f_Node_post := fn 52 _ rfl
    f_Node_post_all := fn 53 _ rfl
    f_Node_post_others := fn 54 _ rfl
    f_Node_begin := fn 55 _ rfl
    f_Node_begin_if_quiet := fn 56 _ rfl
    f_Node_learn := fn 57 _ rfl
    f_Node_end_step := fn 58 _ rfl
    f_Node_offer := fn 59 _ rfl
    f_Node_receive := fn 60 _ rfl
    f_Node_tick := fn 61 _ rfl
    f_Node_sync := fn 62 _ rfl
    f_Node_forget := fn 63 _ rfl
    f_Node_crash := fn 64 _ rfl
    f_Node_restart := fn 65 _ rfl
    f_Node_is_silent := fn 66 _ rfl
    f_Node_sends := fn 67 _ rfl
    f_Node_letters := fn 68 _ rfl
    f_Node_new_votes := fn 69 _ rfl
    f_Node_fork := fn 70 _ rfl
    f_Diary_init := fn 71 _ rfl
    f_Diary_apply := fn 72 _ rfl
    f_Diary_settled := fn 73 _ rfl
    f_law_row := fn 74 _ rfl
    f_law_take := fn 75 _ rfl
    f_law_make := fn 76 _ rfl
    f_law_message := fn 77 _ rfl
    f_law_step := fn 78 _ rfl
    f_law_state := fn 79 _ rfl
    f_law_lines := fn 80 _ rfl
    f_law_comes_back := fn 81 _ rfl
    f_law := fn 82 _ rfl
  }
/-! ### the run of the top -/
abbrev R : PySem.W.OpenRow := PySem.W.OpenLaw.row PySem.Challenge.rw_crosskeep_k50_whole_crash_at_every_octet
def loose0 : List Str := ["_wall", "FRAME_HEAD", "PRIME", "FACTOR", "checksum", "lowest_octets", "frame", "read_frames", "Journal", "MOST_BATCH", "MOST_WAITING", "MOST_GIVEN", "BATCH", "MEMBERS", "batch_of", "commands_of", "members_of_slot", "CrossError", "Malformed", "MOST_DEPTH", "MOST_INTEGER", "NOTHING", "WHOLE", "BELOW", "TEXT", "TUPLE", "MORE", "LOW_SIGNS", "HIGH_SIGNS", "sevens_of"]
def loose1 : List Str := ["pack", "sign_of", "Reader", "unpack", "NO_BALLOT", "MOST_ROUND", "more_than_half", "next_ballot", "Acceptor", "PROMISE", "ACCEPT", "CHOSEN", "Record", "record_of", "ASK", "TELL", "REFUSE", "VOTED", "FETCH", "GIVE", "stand_aside", "refuse", "hear_ask", "hear_tell", "hear_promise", "hear_vote", "hear_refuse", "give", "hear_give", "hear_now"]
def loose2 : List Str := ["hear", "ASKING", "TELLING", "WON", "Attempt", "UP", "DOWN", "Node", "Diary", "_law_row", "_law_take", "_law_make", "_law_message", "_law_step", "_law_state", "_law_lines", "_law_comes_back"]
def loose : List Str := loose0 ++ loose1 ++ loose2
def qv : Program := PySem.W.view R.prog [90]
end Ck
/-! Bs -/
set_option maxHeartbeats 4000000
/-! The ground: defs by their promises, what stays, data that never changes. -/
namespace Ck
open PySem PySem.Spec PyProof.Rows L2
/-! ### defs, methods, classes, properties under their names -/
section
variable {P : Program} {w : World} {K : PySem.W.Frag} {mg : Str → Option Value} {base : Heap}
/-- a promise fixes how many arguments come -/
def Fix (sp : Sp) (ps : List Str) : Prop := ∀ vs H Q E, sp vs H Q E → vs.length = ps.length
/-- the arguments go to the parameters one by one -/
def Plain (x qual : Str) (st : Stmt) (ps : List Str) : Prop := ∀ (kV doc pm : Value) (an : Option Addr) (cdv ct : Value) (us : List Value), us.length = ps.length →
  bindArgs (PySem.W.fnOf x qual (defArgs st) (defBody st) (defScope st) .none kV doc pm an cdv ct) ⟨us, []⟩ = pure (ps.zip us)
/-- a body that keeps the promise, where k calls still fit -/
def Body (P : Program) (w : World) (K : PySem.W.Frag) (mg : Str → Option Value) (base : Heap) (k : Nat) (N : List Str) (qual : Str) (st : Stmt) (f : Addr) (sp : Sp) : Prop :=
  ∀ (cdv : Value) (A : Around) (outer : List Env) (s : Shared) (H : Hp) (vs : List V) (Q : VK) (E : XK), Room k (A.deeper (envOfC qual (defScope st) s.heap.objs.size f cdv)) → sp vs H Q E →
    ∃ t, PSs (cxOf CX0 P w K mg base N qual (defScope st) f cdv A outer s H E).nox (defBody st) t ∧ t { nx := fun _ H' => Q .non H', rt := Q } (start N vs) H
theorem ok_of {x qual : Str} {st : Stmt} {dvs : List V} {f : Addr} {fd : FuncData} {N ps : List Str} {k : Nat} {sp : Sp} (F : FunD K x qual (defArgs st) (defBody st) (defScope st) dvs [] f fd) (S : C8.scC N ps (defScope st) = true) (len : Fix sp ps)
    (b : Body P w K mg base k N qual st f sp) : FnOk P w K mg base CX0 (k + 1) f fd ps sp :=
  F.ok (C8.fnScope_by S) len fun cdv A outer s H vs Q E hr h => (b cdv A outer s H vs Q E hr h).elim fun t q => ⟨t, q.1.nox, q.2⟩
theorem cal {x : Str} {st : Stmt} {f : Addr} {N ps : List Str} {k : Nat} {sp : Sp} (F : ∃ fd, FunD K x x (defArgs st) (defBody st) (defScope st) [] [] f fd) (hm : mg x = some (.ref f)) (S : C8.scC N ps (defScope st) = true) (pl : Plain x x st ps) (len : Fix sp ps)
    (b : Body P w K mg base k N x st f sp) : C8.Cal P w K mg base (k + 1) x sp [] :=
  F.elim fun fd F => ⟨f, fd, ps, [], ok_of F S len b, hm, F.kp, F.bindsN pl, .nil⟩
theorem met {m qual : Str} {st : Stmt} {C f : Addr} {N ps : List Str} {k : Nat} {sp : Sp} (c : Cls K C) (me : Meth K C m f) (F : ∃ fd, FunD K m qual (defArgs st) (defBody st) (defScope st) [] [] f fd) (S : C8.scC N ps (defScope st) = true) (pl : Plain m qual st ps) (len : Fix sp ps)
    (b : Body P w K mg base k N qual st f sp) : C8.Met P w K mg base (k + 1) C m sp [] :=
  F.elim fun fd F => ⟨f, fd, ps, [], c, me, ok_of F S len b, F.bindsN pl, .nil⟩
theorem mak {x qual : Str} {st : Stmt} {C f : Addr} {N ps : List Str} {k : Nat} {sp : Sp} (M : Mk K C f) (hm : mg x = some (.ref C)) (F : ∃ fd, FunD K "__init__" qual (defArgs st) (defBody st) (defScope st) [] [] f fd) (S : C8.scC N ps (defScope st) = true) (pl : Plain "__init__" qual st ps) (len : Fix sp ps)
    (b : Body P w K mg base k N qual st f sp) : C8.Mak P w K mg base (k + 1) x C sp [] :=
  F.elim fun fd F => ⟨f, fd, ps, [], M, ok_of F S len b, hm, F.bindsN pl, .nil⟩
/-- a property that keeps a promise -/
structure Prop1 (P : Program) (w : World) (K : PySem.W.Frag) (mg : Str → Option Value) (base : Heap) (k : Nat) (C : Addr) (f : Str) (sp : Sp) : Prop where
  ex : ∃ (p g : Addr) (fd : FuncData) (ps : List Str), Cls K C ∧ PropOf K C f p g ∧ FnOk P w K mg base CX0 k g fd ps sp ∧ Binds K fd ps []
theorem prp {m qual : Str} {st : Stmt} {C f : Addr} {N ps : List Str} {k : Nat} {sp : Sp} (c : Cls K C) (hp : ∃ p, PropOf K C m p f) (F : ∃ fd, FunD K m qual (defArgs st) (defBody st) (defScope st) [] [] f fd) (S : C8.scC N ps (defScope st) = true) (pl : Plain m qual st ps) (len : Fix sp ps)
    (b : Body P w K mg base k N qual st f sp) : Prop1 P w K mg base (k + 1) C m sp :=
  hp.elim fun p hp => F.elim fun fd F => ⟨p, f, fd, ps, c, hp, ok_of F S len b, F.bindsN pl⟩
end
section
variable {X : Cx}
theorem pe_pr {k j : Nat} {C : Addr} {f : Str} {sp : Sp} {e : Expr} {pos : Pos} {ta : TE} (c : Prop1 X.prog X.w X.K X.mg X.base k C f sp) (hr : Room j X.A) (hk : k + 1 ≤ j) (he : PE X e ta) (hab : attributeBase e f X.env (eval e X.env) = eval e X.env := by rfl) :
    PE X (.Attribute e f pos) (tProp C sp [] E0 ta) := by
  obtain ⟨p, g, fd, ps, c, hp, F, b⟩ := c.ex
  exact pe_prop he c hp F (hr.mono hk) b .nil pass0 hab
theorem pe_mk0 {k j : Nat} {C : Addr} {x : Str} {sp : Sp} {dvs : List V} {p pos : Pos} (c : C8.Mak X.prog X.w X.K X.mg X.base k x C sp dvs) (hr : Room j X.A) (hk : k + 1 ≤ j) (hg : Gl X x) (hdb : (x == ("__debug__" : Str)) = false := by decide) :
    PE X (.Call (.Name x p) [] [] pos) (tMake C sp dvs E0 tNil) := by
  obtain ⟨f, fd, ps, ds, M, F, hm, b, d⟩ := c.ex
  exact pe_make0 M F (hr.mono hk) hg hm b d pass0 hdb
end
theorem bt_list : bootBuiltins "list" = some (.type "list") := by decide +kernel
theorem bt_int : bootBuiltins "int" = some (.type "int") := by decide +kernel
theorem bt_tuple : bootBuiltins "tuple" = some (.type "tuple") := by decide +kernel
theorem bt_str : bootBuiltins "str" = some (.type "str") := by decide +kernel
theorem bt_max : bootBuiltins "max" = some (.builtin "max") := by decide +kernel
theorem bt_min : bootBuiltins "min" = some (.builtin "min") := by decide +kernel
theorem bt_ord : bootBuiltins "ord" = some (.builtin "ord") := by decide +kernel
theorem bt_isinstance : bootBuiltins "isinstance" = some (.builtin "isinstance") := by decide +kernel
theorem hu65 {k : Nat} {A : Around} (hr : Room k A) : A.units + 65 < cLine := by
  have := hr.un
  omega
theorem gi {mg : Str → Option Value} {x : Str} {i : Int} (h : ∃ t, mg x = some (.int i t)) : ∃ u, mg x = some u ∧ RelV (.int i) u := h.elim fun t h => ⟨_, h, t, rfl⟩
theorem gs {mg : Str → Option Value} {x z : Str} (h : ∃ t, mg x = some (.str z t)) : ∃ u, mg x = some u ∧ RelV (.str z) u := h.elim fun t h => ⟨_, h, t, rfl⟩
theorem gr {mg : Str → Option Value} {x : Str} {a : Addr} (h : mg x = some (.ref a)) : ∃ u, mg x = some u ∧ RelV (.ref a) u := ⟨_, h, rfl⟩

/-! ### what stays -/
/-- all that stood stands; the objects of F may have changed, F' are those that may change next: of F, or new -/
structure Go (F : Addr → Prop) (H : Hp) (F' : Addr → Prop) (H' : Hp) : Prop where
  keep : ∀ a o, H a = some o → ¬ F a → H' a = some o
  foot : ∀ a, F' a → F a ∨ H a = none
  tups : ∀ a xs, H a = some (.tup xs) → H' a = some (.tup xs)
  frzs : ∀ a o u, H a = some (.frz o u) → H' a = some (.frz o u)
  some_ : ∀ a, H' a = none → H a = none
theorem Go.refl {F : Addr → Prop} (H : Hp) : Go F H F H := ⟨fun _ _ h _ => h, fun _ h => .inl h, fun _ _ h => h, fun _ _ _ h => h, fun _ h => h⟩
theorem Go.trans {F F1 F2 : Addr → Prop} {H H1 H2 : Hp} (x : Go F H F1 H1) (y : Go F1 H1 F2 H2) : Go F H F2 H2 where
  keep := fun a o h n => y.keep a o (x.keep a o h n) fun h1 => (x.foot a h1).elim n fun z => by rw [h] at z; cases z
  foot := fun a h => (y.foot a h).elim (x.foot a) fun z => .inr (x.some_ a z)
  tups := fun a xs h => y.tups a xs (x.tups a xs h)
  frzs := fun a o u h => y.frzs a o u (x.frzs a o u h)
  some_ := fun a h => x.some_ a (y.some_ a h)
/-- a new object -/
theorem Go.new {F : Addr → Prop} {H : Hp} {p : Addr} {o : HO} (h : H p = none) : Go F H F (upd H p o) where
  keep := fun a u e _ => by rw [upd_ne (ne_of_none e h)]; exact e
  foot := fun _ h => .inl h
  tups := fun a xs e => by rw [upd_ne (ne_of_none e h)]; exact e
  frzs := fun a q u e => by rw [upd_ne (ne_of_none e h)]; exact e
  some_ := fun a e => by
    by_cases z : a = p
    · subst z; exact h
    · rw [upd_ne z] at e; exact e
/-- an object of F changes, neither a tuple nor what is frozen -/
theorem Go.put {F : Addr → Prop} {H : Hp} {p : Addr} {o u : HO} (f : F p) (h : H p = some u) (hm : Mut (some u)) : Go F H F (upd H p o) where
  keep := fun a v e n => by
    have z : a ≠ p := fun z => n (z ▸ f)
    rw [upd_ne z]; exact e
  foot := fun _ h => .inl h
  tups := fun a xs e => by
    have z : a ≠ p := fun z => by subst z; rw [e] at h; cases h; exact hm
    rw [upd_ne z]; exact e
  frzs := fun a q v e => by
    have z : a ≠ p := fun z => by subst z; rw [e] at h; cases h; exact hm
    rw [upd_ne z]; exact e
  some_ := fun a e => by
    by_cases z : a = p
    · subst z; rw [upd_same] at e; cases e
    · rw [upd_ne z] at e; exact e
/-- fewer may change next | more might have -/
theorem Go.less {F F1 F2 : Addr → Prop} {H H1 : Hp} (x : Go F H F1 H1) (s : ∀ a, F2 a → F1 a ∨ H a = none) : Go F H F2 H1 := ⟨x.keep, fun a h => (s a h).elim (x.foot a) .inr, x.tups, x.frzs, x.some_⟩
theorem Go.more {F F0 F1 : Addr → Prop} {H H1 : Hp} (x : Go F H F1 H1) (s : ∀ a, F a → F0 a) : Go F0 H F1 H1 := ⟨fun a o h n => x.keep a o h fun f => n (s a f), fun a h => (x.foot a h).imp (s a) id, x.tups, x.frzs, x.some_⟩
/-- nothing that stood changes -/
abbrev No : Addr → Prop := fun _ => False
theorem Go.any {F G : Addr → Prop} {H H1 : Hp} (x : Go No H F H1) : Go G H G H1 := ⟨fun a o h _ => x.keep a o h fun z => z, fun _ h => .inl h, x.tups, x.frzs, x.some_⟩
theorem Go.same {F : Addr → Prop} {H H1 : Hp} (x : Same H H1) : Go F H F H1 := ⟨fun a o h _ => x a o h, fun _ h => .inl h, fun a xs h => x a _ h, fun a o u h => x a _ h, fun _ h => Same.free x h⟩
theorem Go.ss {F : Addr → Prop} {H H1 : Hp} (x : Go No H F H1) : Same H H1 := fun a o h => x.keep a o h fun z => z
/-- new, and it may change next -/
theorem Go.own {F : Addr → Prop} {H : Hp} {p : Addr} {o : HO} (h : H p = none) : Go F H (fun a => F a ∨ a = p) (upd H p o) :=
  ⟨(Go.new (F := F) h).keep, fun a z => z.imp id fun z => by rw [z]; exact h, (Go.new (F := F) h).tups, (Go.new (F := F) h).frzs, (Go.new (F := F) h).some_⟩
/-- it stands and it stays as it is: not among those that may change -/
def Fz (F : Addr → Prop) (H : Hp) (a : Addr) (o : HO) : Prop := H a = some o ∧ ¬ F a
theorem Fz.go {F F' : Addr → Prop} {H H' : Hp} {a : Addr} {o : HO} (h : Fz F H a o) (x : Go F H F' H') : Fz F' H' a o :=
  ⟨x.keep a o h.1 h.2, fun z => (x.foot a z).elim h.2 fun n => by rw [h.1] at n; cases n⟩
theorem _root_.L2.Same.nw {H : Hp} {p : Addr} {o : HO} (h : H p = none) : Same H (upd H p o) := (Go.new (F := No) h).ss
theorem _root_.L2.Same.mt {H H' : Hp} {p : Addr} {o : HO} (e : Same H H') (h : H p = none) : Same H (upd H' p o) := fun a u z => by
  rw [upd_ne (ne_of_none z h)]
  exact e a u z
theorem _root_.L2.Same.back {H H' : Hp} {p : Addr} (e : Same H H') (h : H' p = none) : H p = none := e.free h

/-! ### data that never changes: None, ints, texts, tuples of such -/
mutual
inductive Im (K : PySem.W.Frag) (H : Hp) : V → PyData → Prop
  | non : Im K H .non .none
  | int (i : Int) : Im K H (.int i) (.int i)
  | str (z : Str) : Im K H (.str z) (.str z)
  | tup {a : Addr} {vs : List V} {ds : List PyData} : SqT K H a vs → Ims K H vs ds → Im K H (.ref a) (.tuple ds)
inductive Ims (K : PySem.W.Frag) (H : Hp) : List V → List PyData → Prop
  | nil : Ims K H [] []
  | cons {v : V} {d : PyData} {vs : List V} {ds : List PyData} : Im K H v d → Ims K H vs ds → Ims K H (v :: vs) (d :: ds)
end
theorem sqT_go {K : PySem.W.Frag} {F F' : Addr → Prop} {H H' : Hp} {a : Addr} {xs : List V} (x : Go F H F' H') (h : SqT K H a xs) : SqT K H' a xs := by
  rcases h with (h | ⟨o, h⟩) | h
  · exact .inl (.inl (x.tups _ _ h))
  · exact .inl (.inr ⟨o, x.frzs _ _ _ h⟩)
  · exact .inr h
mutual
theorem Im.go {K : PySem.W.Frag} {F F' : Addr → Prop} {H H' : Hp} (x : Go F H F' H') : ∀ {v : V} {d : PyData}, Im K H v d → Im K H' v d
  | _, _, .non => .non
  | _, _, .int i => .int i
  | _, _, .str z => .str z
  | _, _, .tup h r => .tup (sqT_go x h) (Ims.go x r)
theorem Ims.go {K : PySem.W.Frag} {F F' : Addr → Prop} {H H' : Hp} (x : Go F H F' H') : ∀ {vs : List V} {ds : List PyData}, Ims K H vs ds → Ims K H' vs ds
  | _, _, .nil => .nil
  | _, _, .cons h r => .cons (Im.go x h) (Ims.go x r)
end
mutual
theorem Im.dp {K : PySem.W.Frag} {H : Hp} : ∀ {v : V} {d : PyData}, Im K H v d → Dp K H v d
  | _, _, .non => .non
  | _, _, .int i => .int i
  | _, _, .str z => .str z
  | _, _, .tup h r => .tup h (Ims.dp r)
theorem Ims.dp {K : PySem.W.Frag} {H : Hp} : ∀ {vs : List V} {ds : List PyData}, Ims K H vs ds → DpAll K H vs ds
  | _, _, .nil => .nil
  | _, _, .cons h r => .cons (Im.dp h) (Ims.dp r)
end
theorem Ims.length {K : PySem.W.Frag} {H : Hp} : ∀ {vs : List V} {ds : List PyData}, Ims K H vs ds → vs.length = ds.length
  | _, _, .nil => rfl
  | _, _, .cons _ r => congrArg (· + 1) (Ims.length r)
theorem Ims.at_ {K : PySem.W.Frag} {H : Hp} : ∀ {vs : List V} {ds : List PyData} {i : Nat} {d : PyData}, Ims K H vs ds → ds[i]? = some d → ∃ v, vs[i]? = some v ∧ Im K H v d
  | _, _, _, _, .nil, h => by simp at h
  | _, _, 0, _, .cons h _, e => by
    simp only [List.getElem?_cons_zero, Option.some.injEq] at e
    exact ⟨_, rfl, e ▸ h⟩
  | _, _, i + 1, _, .cons _ r, e => by
    simp only [List.getElem?_cons_succ] at e ⊢
    exact Ims.at_ r e
theorem Ims.of {K : PySem.W.Frag} {H : Hp} : ∀ {vs : List V} {ds : List PyData} {i : Nat} {v : V}, Ims K H vs ds → vs[i]? = some v → ∃ d, ds[i]? = some d ∧ Im K H v d
  | _, _, _, _, .nil, h => by simp at h
  | _, _, 0, _, .cons h _, e => by
    simp only [List.getElem?_cons_zero, Option.some.injEq] at e
    exact ⟨_, rfl, e ▸ h⟩
  | _, _, i + 1, _, .cons _ r, e => by
    simp only [List.getElem?_cons_succ] at e ⊢
    exact Ims.of r e
theorem Ims.append {K : PySem.W.Frag} {H : Hp} : ∀ {vs us : List V} {ds es : List PyData}, Ims K H vs ds → Ims K H us es → Ims K H (vs ++ us) (ds ++ es)
  | _, _, _, _, .nil, s => s
  | _, _, _, _, .cons h r, s => .cons h (Ims.append r s)
theorem Ims.take {K : PySem.W.Frag} {H : Hp} : ∀ {vs : List V} {ds : List PyData} (n : Nat), Ims K H vs ds → Ims K H (vs.take n) (ds.take n)
  | _, _, 0, _ => .nil
  | _, _, _ + 1, .nil => .nil
  | _, _, n + 1, .cons h r => .cons h (Ims.take n r)
theorem Ims.drop {K : PySem.W.Frag} {H : Hp} : ∀ {vs : List V} {ds : List PyData} (n : Nat), Ims K H vs ds → Ims K H (vs.drop n) (ds.drop n)
  | _, _, 0, r => r
  | _, _, _ + 1, .nil => .nil
  | _, _, n + 1, .cons _ r => Ims.drop n r
theorem Im.tuple {K : PySem.W.Frag} {H : Hp} {v : V} {ds : List PyData} (h : Im K H v (.tuple ds)) : ∃ a vs, v = .ref a ∧ SqT K H a vs ∧ Ims K H vs ds := by
  cases h with
  | tup h r => exact ⟨_, _, rfl, h, r⟩
theorem Im.intE {K : PySem.W.Frag} {H : Hp} {v : V} {i : Int} (h : Im K H v (.int i)) : v = .int i := by
  cases h; rfl
theorem Im.strE {K : PySem.W.Frag} {H : Hp} {v : V} {z : Str} (h : Im K H v (.str z)) : v = .str z := by
  cases h; rfl
theorem Im.nonE {K : PySem.W.Frag} {H : Hp} {v : V} (h : Im K H v .none) : v = .non := by
  cases h; rfl
end Ck
/-! Dt -/
set_option maxHeartbeats 4000000
/-! Plain data: what == says of it, its pack. -/
namespace Ck
open PySem PySem.Spec PyProof.Rows L2
/-- None, ints, texts, lists and tuples of such, at most n deep -/
def good : Nat → PyData → Bool
  | _, .none => true
  | _, .int _ => true
  | _, .str z => PyData.strOk z
  | n + 1, .list l => l.all (good n)
  | n + 1, .tuple l => l.all (good n)
  | _, _ => false
theorem good_mono : ∀ {n : Nat} {m : Nat} {d : PyData}, n ≤ m → good n d = true → good m d = true := by
  intro n
  induction n with
  | zero =>
    intro m d _ h
    cases d with
    | none => cases m <;> rfl
    | int i => cases m <;> rfl
    | str z => cases m <;> exact h
    | _ => exact nomatch h
  | succ n ih =>
    intro m d hm h
    obtain ⟨m, rfl⟩ : ∃ k, m = k + 1 := ⟨m - 1, by omega⟩
    cases d with
    | none => rfl
    | int i => rfl
    | str z => exact h
    | list l => exact List.all_eq_true.mpr fun x hx => ih (by omega) (List.all_eq_true.mp h x hx)
    | tuple l => exact List.all_eq_true.mpr fun x hx => ih (by omega) (List.all_eq_true.mp h x hx)
    | _ => exact nomatch h
theorem eqvAll_iff {n m : Nat} (ih : ∀ {m : Nat} {d e : PyData}, good n d = true → good m e = true → (PyData.eqv d e = true ↔ d = e)) : ∀ {l k : List PyData}, l.all (good n) = true → k.all (good m) = true → (PyData.eqvAll l k = true ↔ l = k)
  | [], [], _, _ => by simp [PyData.eqvAll]
  | [], _ :: _, _, _ => by simp [PyData.eqvAll]
  | _ :: _, [], _, _ => by simp [PyData.eqvAll]
  | x :: l, y :: k, h1, h2 => by
    rw [List.all_cons, Bool.and_eq_true] at h1 h2
    rw [PyData.eqvAll, Bool.and_eq_true, ih h1.1 h2.1, eqvAll_iff ih h1.2 h2.2, List.cons.injEq]
theorem eqv_iff' : ∀ {n m : Nat} {d e : PyData}, good n d = true → good m e = true → (PyData.eqv d e = true ↔ d = e) := by
  intro n
  induction n with
  | zero =>
    intro m d e h1 h2
    cases d with
    | none => cases e <;> simp [PyData.eqv]
    | int i =>
      cases e with
      | bool b => exact absurd h2 (by cases m <;> simp [good])
      | _ => simp [PyData.eqv]
    | str z => cases e <;> simp [PyData.eqv]
    | _ => exact nomatch h1
  | succ n ih =>
    intro m d e h1 h2
    cases d with
    | none => cases e <;> simp [PyData.eqv]
    | int i =>
      cases e with
      | bool b => exact absurd h2 (by cases m <;> simp [good])
      | _ => simp [PyData.eqv]
    | str z => cases e <;> simp [PyData.eqv]
    | list l =>
      cases e with
      | list k =>
        cases m with
        | zero => exact nomatch h2
        | succ m => rw [PyData.eqv, eqvAll_iff ih h1 h2, PyData.list.injEq]
      | _ => simp [PyData.eqv]
    | tuple l =>
      cases e with
      | tuple k =>
        cases m with
        | zero => exact nomatch h2
        | succ m => rw [PyData.eqv, eqvAll_iff ih h1 h2, PyData.tuple.injEq]
      | _ => simp [PyData.eqv]
    | _ => exact nomatch h1
theorem eqv_yes {n : Nat} {d : PyData} (h : good n d = true) : PyData.eqv d d = true := (eqv_iff' h h).mpr rfl
theorem eqv_no {n m : Nat} {d e : PyData} (h1 : good n d = true) (h2 : good m e = true) (h : d ≠ e) : PyData.eqv d e = false := by
  cases z : PyData.eqv d e with
  | false => rfl
  | true => exact absurd ((eqv_iff' h1 h2).mp z) h
theorem lay_good : ∀ {n : Nat} {d : PyData}, good n d = true → d.canLay0 = true ∧ d.depth ≤ n := by
  intro n
  induction n with
  | zero =>
    intro d h
    cases d with
    | none => simp [PyData.canLay0, PyData.depth]
    | int i => simp [PyData.canLay0, PyData.depth]
    | str z => simp only [PyData.canLay0, PyData.depth]; exact ⟨h, Nat.le_refl _⟩
    | _ => exact nomatch h
  | succ n ih =>
    have all : ∀ l : List PyData, l.all (good n) = true → PyData.canLayAll0 l = true ∧ PyData.depthAll l ≤ n := by
      intro l
      induction l with
      | nil => intro _; simp [PyData.canLayAll0, PyData.depthAll]
      | cons x l il =>
        intro h
        rw [List.all_cons, Bool.and_eq_true] at h
        have h1 := ih h.1
        have h2 := il h.2
        simp only [PyData.canLayAll0, PyData.depthAll, Bool.and_eq_true]
        exact ⟨⟨h1.1, h2.1⟩, by omega⟩
    intro d h
    cases d with
    | none => simp [PyData.canLay0, PyData.depth]
    | int i => simp [PyData.canLay0, PyData.depth]
    | str z => simp only [PyData.canLay0, PyData.depth]; exact ⟨h, Nat.zero_le _⟩
    | list l =>
      have h1 := all l h
      simp only [PyData.canLay0, PyData.depth]
      exact ⟨h1.1, by omega⟩
    | tuple l =>
      have h1 := all l h
      simp only [PyData.canLay0, PyData.depth]
      exact ⟨h1.1, by omega⟩
    | _ => exact nomatch h
theorem shaped_good {n : Nat} {d : PyData} (h : good n d = true) (hn : n ≤ 64 := by decide) : SeqAt.shaped d = true := by
  obtain ⟨h1, h2⟩ := lay_good h
  show (d.canLay0 && decide (d.depth ≤ 64)) = true
  rw [h1, Bool.true_and]
  exact decide_eq_true (by omega)
theorem good_ints (ns : List Int) : good 1 (.list (ns.map PyData.int)) = true := List.all_eq_true.mpr fun x hx => by
  obtain ⟨i, _, rfl⟩ := List.mem_map.mp hx
  rfl
theorem ints_inj {ns ms : List Int} (h : ns.map PyData.int = ms.map PyData.int) : ns = ms := by
  induction ns generalizing ms with
  | nil => cases ms with
    | nil => rfl
    | cons => exact nomatch h
  | cons x r ih => cases ms with
    | nil => exact nomatch h
    | cons y k =>
      simp only [List.map_cons, List.cons.injEq, PyData.int.injEq] at h
      rw [h.1, ih h.2]
theorem dp_ints {K : PySem.W.Frag} {H : Hp} : ∀ ns : List Int, DpAll K H (ns.map V.int) (ns.map PyData.int)
  | [] => .nil
  | i :: r => .cons (.int i) (dp_ints r)

/-! ### packs -/
def sev (n : Nat) : List Int := if h : n < 128 then [(n : Int)] else (((128 + n % 128 : Nat) : Int)) :: sev (n / 128)
termination_by n
decreasing_by omega
theorem sev_small {n : Nat} (h : n < 128) : sev n = [(n : Int)] := by rw [sev, dif_pos h]
theorem sev_big {n : Nat} (h : ¬ n < 128) : sev n = (((128 + n % 128 : Nat) : Int)) :: sev (n / 128) := by rw [sev, dif_neg h]
def codes (z : Str) : List Int := z.cps.toList.map fun c => ((c : Nat) : Int)
mutual
def packD : PyData → List Int
  | .none => [0]
  | .int i => 1 :: sev i.toNat
  | .str z => 3 :: (sev z.length ++ codes z)
  | .tuple l => 4 :: (sev l.length ++ packL l)
  | .bool _ => []
  | .list _ => []
  | .dict _ => []
def packL : List PyData → List Int
  | [] => []
  | d :: l => packD d ++ packL l
end
theorem packL_append (a b : List PyData) : packL (a ++ b) = packL a ++ packL b := by
  induction a with
  | nil => simp [packL]
  | cons x a ih => simp [packL, ih]
/-- a sign that a text may have -/
def signOk (c : Nat) : Bool := (decide (32 ≤ c) && decide (c ≤ 36)) || (decide (38 ≤ c) && decide (c ≤ 126))
/-- what is packed here: None, ints from 0 to 10^18, texts, tuples, at most n deep -/
def pk : Nat → PyData → Bool
  | _, .none => true
  | _, .int i => decide (0 ≤ i) && decide (i ≤ 1000000000000000000)
  | _, .str z => z.cps.toList.all signOk && decide (z.length ≤ 100)
  | n + 1, .tuple l => l.all (pk n) && decide (l.length ≤ 100)
  | _, _ => false
theorem signOk_lt {c : Nat} (h : signOk c = true) : c < 0x110000 := by
  unfold signOk at h
  simp only [Bool.or_eq_true, Bool.and_eq_true, decide_eq_true_eq] at h
  omega
theorem pk_good : ∀ {n : Nat} {d : PyData}, pk n d = true → good n d = true := by
  have st : ∀ z : Str, (z.cps.toList.all signOk && decide (z.length ≤ 100)) = true → PyData.strOk z = true := fun z h => by
    rw [Bool.and_eq_true] at h
    show z.cps.all _ = true
    rw [← Array.all_toList]
    exact List.all_eq_true.mpr fun c hc => decide_eq_true (signOk_lt (List.all_eq_true.mp h.1 c hc))
  intro n
  induction n with
  | zero =>
    intro d h
    cases d with
    | none => rfl
    | int i => rfl
    | str z => exact st z h
    | _ => exact nomatch h
  | succ n ih =>
    intro d h
    cases d with
    | none => rfl
    | int i => rfl
    | str z => exact st z h
    | tuple l =>
      have h : (l.all (pk n) && decide (l.length ≤ 100)) = true := h
      rw [Bool.and_eq_true] at h
      exact List.all_eq_true.mpr fun x hx => ih (List.all_eq_true.mp h.1 x hx)
    | _ => exact nomatch h
end Ck
/-! Rl -/
set_option maxHeartbeats 4000000
/-! Rules that the layer lacks. -/
namespace Ck
open PySem PySem.Spec PyProof.Rows L2
/-! ### t[::-1] of a tuple -/
section
variable {prog : Program} {w : World} {A : Around} {E : Value → Shared → Prop} {s : Shared}
theorem adj_back (n : Nat) : Builtin.Slice.sliceAdjust none none (-1) (n : Int) = ((n : Int) - 1, -1) := rfl
theorem places_back (n : Nat) : Builtin.Slice.slicePlaces ((n : Int) - 1) (-1) (-1) = n := by
  unfold Builtin.Slice.slicePlaces
  rw [if_neg (by decide)]
  by_cases h : (n : Int) - 1 > -1
  · rw [if_pos h, show (-(-1) : Int) = 1 from rfl, Int.ediv_one]; omega
  · rw [if_neg h]; omega
theorem applied_back {z : Addr} {t : Tok} {n : Nat} {Q : Int × Int × Nat → Shared → Prop} (hz : s.heap.IsSliceOf z .none .none (.int (-1) t)) (h : Q ((n : Int) - 1, -1, n) s) :
    wpAny (model prog w) A (Builtin.Slice.sliceApplied (.ref z) (pure (n : Int))) Q E s := by
  obtain ⟨oz, e1, e2, e3⟩ := id hz
  unfold Builtin.Slice.sliceApplied Builtin.Slice.sliceFields
  refine wpAny_bind (wpAny_bind (wpAny_field e1 e3 (x := .none) rfl (wpAny_bind (wpAny_field e1 e3 (x := .none) rfl (wpAny_bind (wpAny_field e1 e3 (x := .int (-1) t) rfl (wpAny_pure ?_)))))))
  refine wpAny_bind (slicePart_int ?_)
  show wpAny _ _ (if ((-1 : Int) == 0) = true then _ else _) _ _ s
  rw [if_neg (by decide)]
  refine wpAny_bind (slicePart_none (wpAny_bind (slicePart_none (wpAny_bind (wpAny_pure ?_)))))
  show wpAny _ _ (match Builtin.Slice.sliceAdjust none none (-1) (n : Int) with | (a, b) => pure (a, (-1 : Int), Builtin.Slice.slicePlaces a b (-1))) _ _ s
  rw [adj_back]
  show wpAny _ _ (pure ((n : Int) - 1, (-1 : Int), Builtin.Slice.slicePlaces ((n : Int) - 1) (-1) (-1))) _ _ s
  rw [places_back]
  exact wpAny_pure h
theorem range_back (l : List Value) : ∀ k, k ≤ l.length → (List.range k).filterMap (fun m => l[l.length - 1 - m]?) = l.reverse.take k
  | 0, _ => rfl
  | k + 1, h => by
    rw [List.range_succ, List.filterMap_append, range_back l k (by omega)]
    have e1 : l[l.length - 1 - k]? = some (l[l.length - 1 - k]'(by omega)) := List.getElem?_eq_getElem (by omega)
    have e2 : (l.reverse)[k]? = some (l[l.length - 1 - k]'(by omega)) := by
      rw [List.getElem?_reverse (by omega)]; exact e1
    rw [List.take_succ, e2]
    simp [e1]
theorem pick_back (xs : Array Value) : ((List.range xs.size).filterMap fun (m : Nat) => xs[(((xs.size : Nat) : Int) - 1 + (m : Int) * (-1)).toNat]?).toArray = xs.toList.reverse.toArray := by
  congr 1
  have e := range_back xs.toList xs.toList.length (Nat.le_refl _)
  rw [List.take_of_length_le (by simp)] at e
  rw [← e, Array.length_toList]
  have key : ∀ m ∈ List.range xs.size, xs[(((xs.size : Nat) : Int) - 1 + (m : Int) * (-1)).toNat]? = xs.toList[xs.size - 1 - m]? := by
    intro m hm
    have hm := List.mem_range.mp hm
    rw [Array.getElem?_toList]
    congr 1
    omega
  generalize List.range xs.size = r at key
  induction r with
  | nil => rfl
  | cons a r ih =>
    rw [List.filterMap_cons, List.filterMap_cons, key a List.mem_cons_self, ih fun m hm => key m (List.mem_cons_of_mem _ hm)]
theorem getItem_tuple_back {t z : Addr} {u : Tok} {items : Array Value} {Q : Value → Shared → Prop} (ht : IsTup s.heap t items) (hz : s.heap.IsSliceOf z .none .none (.int (-1) u))
    (h : Q (.ref s.heap.objs.size) { s with heap := s.heap.push { cls := .type "tuple", data := .seq items.toList.reverse.toArray } }) (hsz : items.size ≤ sizeLine) : wpAny (model prog w) A (getItem (.ref t) (.ref z)) Q E s := by
  have fits : sizeOk (.seq items.toList.reverse.toArray) := by
    show items.toList.reverse.toArray.size ≤ sizeLine
    rw [List.size_toArray, List.length_reverse, Array.length_toList]
    exact hsz
  have kind : s.TypeIs (.ref z) "slice" := let ⟨oz, e1, e2, _⟩ := id hz; ⟨oz, e1, e2⟩
  unfold getItem
  try with_reducible refine wpAny_holding ?_
  first | refine wpAny_bind (wpAny_pure ?_) | skip
  refine wpAny_bind (wpAny_sequenceKey ht.typeIs (by decide) ?_)
  refine wpAny_bind (wpAny_callSpecial?_slot (name := Str.ofString "__getitem__") ht.typeIs PyProof.Rows.slot_tuple_getitem (wpAny_call_entry PyProof.Rows.slot_tuple_getitem ht.typeIs entry_tuple_getitem ?_ (args_tuple_getitem _ _)))
  show wpAny _ _ (Builtin.Tuple.tupleItemsOf (.ref t) >>= _) _ _ s
  refine wpAny_bind (tupleItemsOf_ ht (wpAny_bind (wpAny_typeOf kind ?_)))
  rw [if_pos (by decide)]
  refine wpAny_bind (applied_back hz ?_)
  show wpAny _ _ (if (((items.size : Nat) : Int) - 1 == 0 && (-1 : Int) == 1 && items.size == items.size) = true then _ else _) _ _ s
  rw [if_neg (by rw [show ((-1 : Int) == 1) = false from rfl, Bool.and_false, Bool.false_and]; exact Bool.false_ne_true), pick_back]
  first
    | exact wpAny_bind (m := Builtin.Tuple.tupleExact _) (wpAny_newObj_type (wpAny_pure ⟨_, rfl, wpAny_pure h⟩) fits)
    | exact wpAny_bind (m := Builtin.Tuple.tupleExact _) (wpAny_newObj_type (wpAny_bind (wpAny_pure (wpAny_pure ⟨_, rfl, wpAny_pure h⟩))) fits)
    | exact wpAny_bind (wpAny_bind (m := Builtin.Tuple.tupleExact _) (wpAny_newObj_type (wpAny_pure (wpAny_pure ⟨_, rfl, wpAny_pure h⟩)) fits))
    | exact wpAny_bind (wpAny_bind (m := Builtin.Tuple.tupleExact _) (wpAny_newObj_type (wpAny_pure ⟨_, rfl, wpAny_pure h⟩) fits))
end
section
variable {X : Cx}
def tBackT (K : PySem.W.Frag) (te : TE) : TE := fun σ H Q => te σ H fun x H1 => ∃ a xs, x = .ref a ∧ SqT K H1 a xs ∧ ∀ p, H1 p = none → Q (.ref p) (upd H1 p (.tup xs.reverse))
theorem pe_backT {e : Expr} {te : TE} {k : Nat} {p1 p2 p3 pos : Pos} (he : PE X e te) : PE X (.Subscript e (.Slice none none (some (.UnaryOp .USub (.Constant (.int 1) k p1) p2)) p3) pos) (tBackT X.K te) := by
  refine ⟨fun pins s σ H Q I h => ?_⟩
  refine Subscript_ (thn (he.run pins s σ H _ I h) fun v s1 z => ?_)
  obtain ⟨_, H1, I1, r1, a, xs, rfl, hx, q⟩ := z
  cases r1
  have step : PO X (some (.UnaryOp .USub (.Constant (.int 1) k p1) p2)) (tPart (tUn (rU fun i => .int (-i)) (tC (.int 1)))) := po_some (pe_un un_neg pe_int)
  refine wpAny_Slice (thn (po_none.run pins s1 σ H1 (fun o H2 => o = none ∧ H2 = H1) I1 ⟨rfl, rfl⟩) fun b1 s2 z2 => ?_)
  obtain ⟨_, _, I2, y1, rfl, rfl⟩ := z2
  refine thn (po_none.run pins s2 σ _ (fun o H3 => o = none ∧ H3 = _) I2 ⟨rfl, rfl⟩) fun b2 s3 z3 => ?_
  obtain ⟨_, _, I3, y2, rfl, rfl⟩ := z3
  refine thn (step.run pins s3 σ _ (fun o H4 => o = some (-1) ∧ H4 = _) I3 ⟨1, rfl, -1, rfl, rfl, rfl⟩) fun b3 s4 z4 => ?_
  obtain ⟨_, _, I4, y3, rfl, rfl⟩ := z4
  have I5 : Inv X pins σ _ { s4 with heap := s4.heap.push { cls := .type "slice", data := .fields #[b1, b2, b3] } } := I4.kept (t' := s4.toks) fun b ob q => Heap.get?_push_of_some _ q
  obtain ⟨its, r, ht, hz⟩ := I5.tuple hx
  have hlen := r.length
  show wpAny (model X.prog X.w) X.A (subscriptTail e (.Slice none none (some (.UnaryOp .USub (.Constant (.int 1) k p1) p2)) p3) (.ref a) (.ref s4.heap.objs.size)) (EP X pins σ Q) X.xe { s4 with heap := s4.heap.push { cls := .type "slice", data := .fields #[b1, b2, b3] } }
  cases y1
  cases y2
  cases y3
  rename_i tk
  refine tail_any (ops := [.ref a, .ref s4.heap.objs.size]) ht.typeIs PyProof.Rows.slot_tuple_getitem.lookup ?_ (by with_unfolding_all rfl)
  refine getItem_tuple_back ht (Heap.IsSliceOf.new _ .none .none (.int (-1) tk)) ?_ (by rw [List.size_toArray]; omega)
  refine ⟨.ref _, _, I5.laid (t' := s4.toks) (o := .tup xs.reverse) (fun b ob q => Heap.get?_push_of_some _ q) (Nat.le_refl _) ?_, rfl, q _ (I5.hok.fresh (Nat.le_refl _))⟩
  exact ⟨by rw [List.length_reverse]; exact hz, _, r.reverse, IsTup.new _ _⟩
end
/-! ### xs.extend(t), t a tuple -/
theorem extend_tuple (l : Addr) (items : Array Value) (n : Nat) (b : Addr) (dd : Option Addr) (sl : Array (Option Value)) (its : Array Value) (m : Nat) (h0 : ¬(!items.isEmpty && Builtin.List.listTooLong (items.size + its.size)) = true) (h1 : items.size ≤ sizeLine) (h2 : items.size + its.size ≤ sizeLine + 1) :
    Meets (Builtin.«list.extend» ⟨[.ref l, .ref b], []⟩) (fun _ R s => s.heap.get? l = some { cls := .type "list", dict := none, data := .seq items n, slots := #[] } ∧ s.heap.get? b = some { cls := .type "tuple", dict := dd, data := .seq its m, slots := sl } ∧
      R (.ok (.ret Value.none)) { s with heap := s.heap.update l (Obj.mapSeq fun x => x ++ its), toks := s.toks }) :=
  .of_wp fun prog w A R s h => by
    obtain ⟨hp, g, d, tk, os⟩ := s
    obtain ⟨hl, hb, h⟩ := h
    have f1 := AutoSeq1.idx_int; have f2 := AutoSeq1.sub_tuple_tuple
    have f3 := AutoSeq1.sub_list_list; have f4 := AutoSeq1.sub_tuple_list
    have f5 := AutoSeq1.sub_list_tuple
    have fit : (items ++ its).size ≤ sizeLine + 1 := by rw [Array.size_append]; exact h2
    wp_walk using (wpAny_updateSeq hl rfl (hz := h1) (_hz' := fit)), AutoSeq1.wpAny_loadPart' hl, AutoSeq1.wpAny_loadPart' hb
    exact ⟨_, rfl, h⟩
section
variable {X : Cx}
def rExtT (K : PySem.W.Frag) : V → List V → Hp → VK → Prop := fun x vs H Q => ∃ l b xs zs, x = .ref l ∧ vs = [.ref b] ∧ H l = some (.lst xs) ∧ SqT K H b zs ∧ xs.length + zs.length ≤ sizeLine ∧ Q .non (upd H l (.lst (xs ++ zs)))
theorem mt_extT : MtM X "list.extend" (rExtT X.K) := by
  intro pins s σ H x vs v us Q I rx rv h
  obtain ⟨l, b, xs, zs, rfl, rfl, e1, e2, room, q⟩ := h
  cases rx
  obtain ⟨u, rfl, ru⟩ := rv.one
  cases ru
  obtain ⟨z, its, n, r, hl, e⟩ := I.lstM e1
  obtain ⟨js, r2, pl, hl2⟩ := I.tuple e2
  obtain ⟨⟨oc, od, dt, osl⟩, p1, p2, m, p3⟩ := pl
  simp only at p2 p3
  subst p2 p3
  have e3 := r2.length
  have hsz : its.toArray.size + js.toArray.size ≤ sizeLine := by rw [List.size_toArray, List.size_toArray]; omega
  have short : ¬ (!its.toArray.isEmpty && Builtin.List.listTooLong (its.toArray.size + js.toArray.size)) = true := by
    rw [notLongL hsz, Bool.and_false]; exact Bool.false_ne_true
  refine call_meets F.slot_list_extend ⟨_, e, rfl⟩ F.entry_list_extend (F.args_list_extend_2 _ _) (extend_tuple l its.toArray n b od osl js.toArray m short (by omega) (by omega)) ⟨e, p1, ?_⟩
  refine ⟨.non, _, I.lset (its' := its ++ js) e1 e (by simp) (r.append r2) ?_, rfl, q⟩
  rw [List.length_append]; omega
end
/-! ### a field that holds a def, called: o.f(); a local that holds a def, called: f() -/
section
variable {X : Cx} {k j : Nat} {x m : Str} {sp : Sp} {p pos apos : Pos} {e o : Expr} {ta : TE} {C f : Addr}
def tFldCall (K : PySem.W.Frag) (C f : Addr) (m : Str) (sp : Sp) (ta : TE) : TE := fun σ H Q => ta σ H fun x H1 => ∃ a dx fs, x = .ref a ∧ H1 a = some (.ins C dx fs) ∧ fs.lookup m = some (.ref f) ∧ sp [] H1 Q E0
theorem pe_fldCall {pl : Sem Bool} (he : PE X o ta) (c : Cls X.K C) (n : NoAttr X.K C m) (F : C8.CalAt X.prog X.w X.K X.mg X.base k f sp) (hr : Room j X.A) (hk : k ≤ j)
    (ht : eval (.Call (.Attribute o m apos) [] [] pos) X.env = (do
      let rv ← eval o X.env
      standAt apos.atName
      let (g, first) ← holding [rv] (getMethod rv m pl)
      callWith pos g first (backTo pos (starEach [] X.env)) (backToKw pos (keywordEach [] X.env))) := by rfl) :
    PE X (.Call (.Attribute o m apos) [] [] pos) (tFldCall X.K C f m sp ta) := by
  refine ⟨fun pins s σ H Q I h => ?_⟩
  obtain ⟨fd, ps, G, kp, b⟩ := F.ex
  refine PySem.W.methodCall_KW (pl := pl) (thn (he.run pins s σ H _ I h) fun u s1 z => ?_) ht
  obtain ⟨v, H1, I1, rx, a, dx, fs, rfl, ea, l, q⟩ := z
  obtain rfl : u = Value.ref a := rx
  refine getmeth_fld I1 ea c n l fun u2 s2 I2 r2 => ?_
  cases r2
  exact PySem.W.callWith_K0 (first := []) I2.kIn kp (run_fn (us := []) (vs := []) G (hr.mono hk) b .nil pass0 I2 .nil q)
def tLocCall (i : Nat) (f : Addr) (sp : Sp) : TE := fun σ H Q => σ[i]? = some (some (.ref f)) ∧ sp [] H Q E0
theorem pe_locCall {i : Nat} (F : C8.CalAt X.prog X.w X.K X.mg X.base k f sp) (hr : Room j X.A) (hk : k ≤ j) (hN : X.N[i]? = some x) (hv : Vis X.env.scope x) (hdb : (x == ("__debug__" : Str)) = false := by decide) (hcd : (x == ("__classdict__" : Str)) = false := by decide) :
    PE X (.Call (.Name x p) [] [] pos) (tLocCall i f sp) := by
  refine ⟨fun pins s σ H Q I h => ?_⟩
  obtain ⟨e1, q⟩ := h
  obtain ⟨fd, ps, G, kp, b⟩ := F.ex
  refine wpAny_Call_Name_kw (thn ((pe_var (pos := p) hN hv hdb hcd).run pins s σ H (fun v H1 => v = .ref f ∧ H1 = H) I ⟨.ref f, e1, rfl, rfl⟩) fun u s1 z => ?_)
  obtain ⟨v, H1, I1, r1, rfl, rfl⟩ := z
  cases r1
  exact PySem.W.callWith_K0 (first := []) I1.kIn kp (run_fn (us := []) (vs := []) G (hr.mono hk) b .nil pass0 I1 .nil q)
end
/-- a def of the module by its address -/
theorem calAt {P : Program} {w : World} {K : PySem.W.Frag} {mg : Str → Option Value} {base : Heap} {k : Nat} {x : Str} {f : Addr} {sp : Sp} {st : Stmt} {N ps : List Str} (F : ∃ fd, FunD K x x (defArgs st) (defBody st) (defScope st) [] [] f fd) (S : C8.scC N ps (defScope st) = true) (pl : Plain x x st ps) (len : Fix sp ps)
    (b : Body P w K mg base k N x st f sp) : C8.CalAt P w K mg base (k + 1) f sp :=
  F.elim fun fd F => ⟨fd, ps, ok_of F S len b, F.kp, F.bindsN pl⟩
/-! ### t >= u of two pairs of ints: some truth value; x * n of a text -/
section
variable {X : Cx}
def signOk0 (c : Nat) : Bool := (decide (32 ≤ c) && decide (c ≤ 36)) || (decide (38 ≤ c) && decide (c ≤ 126))
def rGeT (K : PySem.W.Frag) : R2 := fun x y H Q => ∃ (a b : Addr) (n1 n2 m1 m2 : Int), x = .ref a ∧ y = .ref b ∧ SqT K H a [.int n1, .int n2] ∧ SqT K H b [.int m1, .int m2] ∧ ∀ z : Bool, Q (.bl z) H
theorem op_geT (hu : X.A.units < cLine) : OpR X (compareOp .GtE) (rGeT X.K) := by
  intro pins s σ H x y v u Q I rx ry h
  obtain ⟨a, b, n1, n2, m1, m2, rfl, rfl, ha, hb, q⟩ := h
  cases rx
  cases ry
  obtain ⟨l1, r1, p1, _⟩ := I.tuple ha
  obtain ⟨l2, r2, p2, _⟩ := I.tuple hb
  obtain ⟨u1, w1, rfl, a1, a2⟩ := vals2 r1
  obtain ⟨u2, w2, rfl, b1, b2⟩ := vals2 r2
  obtain ⟨t1, rfl⟩ := a1
  obtain ⟨t2, rfl⟩ := a2
  obtain ⟨t3, rfl⟩ := b1
  obtain ⟨t4, rfl⟩ := b2
  have R := Ob.RcOp.tuples_ge (A := X.A) (s := s) (e := fun j => if j = 0 then n1 == m1 else n2 == m2) (r := fun j => if j = 0 then decide (m1 ≤ n1) else decide (m2 ≤ n2)) p1 p2 hu (fun j h1 h2 => by
    match j, h1, h2 with
    | 0, _, _ => exact SeqAt.EqAt.int_int _ _ _ _
    | 1, _, _ => exact SeqAt.EqAt.int_int _ _ _ _) (fun j h1 h2 _ => by
    match j, h1, h2 with
    | 0, _, _ => exact Ob.RcOp.ge_int _ _ _ _
    | 1, _, _ => exact Ob.RcOp.ge_int _ _ _ _)
  exact R X.prog X.w X.xe (EP X pins σ Q) ⟨.bl _, H, I, rfl, q _⟩
theorem mul_ok {n : Int} (h0 : 0 ≤ n) (h : n < 4) : MulOk "x" n := by
  have : n = 0 ∨ n = 1 ∨ n = 2 ∨ n = 3 := by omega
  rcases this with rfl | rfl | rfl | rfl <;> (refine ⟨by decide +kernel, fun a _ => ?_, fun a _ => ?_⟩ <;> first | exact absurd (by decide) a | decide +kernel)
theorem mul_signs {n : Int} (h0 : 0 ≤ n) (h : n < 4) : ((Txt.mul "x" n).cps.toList.all signOk0 && decide ((Txt.mul "x" n).length ≤ 100)) = true := by
  have : n = 0 ∨ n = 1 ∨ n = 2 ∨ n = 3 := by omega
  rcases this with rfl | rfl | rfl | rfl <;> decide +kernel
theorem op_mulX : OpR X (binaryOp .Mult) (fun x y H Q => ∃ n : Int, x = .str "x" ∧ y = .int n ∧ 0 ≤ n ∧ n < 4 ∧ Q (.str (Txt.mul "x" n)) H) := by
  intro pins s σ H x y v u Q I rx ry h
  obtain ⟨n, rfl, rfl, h0, h4, q⟩ := h
  obtain ⟨t, rfl⟩ := rx
  obtain ⟨t2, rfl⟩ := ry
  exact SB.mul (mul_ok h0 h4) fun t' k => ⟨.str _, H, I.tok k, ⟨_, rfl⟩, q⟩
end
/-! ### the same rules, K told (for a comprehension's block) -/
section
variable {X : Cx} {K : PySem.W.Frag}
theorem pe_fldK (hK : X.K = K) {e : Expr} {f : Str} {pos : Pos} {ta : TE} (he : PE X e ta) (hb : attributeBase e f X.env (eval e X.env) = eval e X.env) : PE X (.Attribute e f pos) (tFld K ta f) := hK ▸ pe_fld he hb
theorem ix_listK (hK : X.K = K) : IxR X (rIxL K) := hK ▸ ix_list
theorem ix_tupK (hK : X.K = K) : IxR X (rIxT K) := hK ▸ ix_tup
theorem sl_tupK (hK : X.K = K) : SlR X (rSlT K) := hK ▸ sl_tup
def rListOf (K : PySem.W.Frag) : List V → Hp → VK → Prop := fun xs H Q => ∃ p ys, xs = [.ref p] ∧ (SqL K H p ys ∨ SqT K H p ys) ∧ ∀ l, H l = none → Q (.ref l) (upd H l (.lst ys))
theorem call_list_ofK (hK : X.K = K) : CallR X (.type "list") (rListOf K) := by
  subst hK
  exact call_list_of
theorem pg_tupK (hK : X.K = K) {es : List Expr} {k : Nat} {t : TGs} {n : Nat} {pos : Pos} (hc : X.calm = true) (h : PGs X es t) (hn : (assignEach es X.env).length = n := by rfl) (hst : (assignEach es X.env).findIdx? (·.1) = none := by rfl) :
    PG X (.Tuple es k pos) (gTup K n t) := by
  subst hK
  exact pg_tup hc h hn hst
end
end Ck
/-! Et -/
set_option maxHeartbeats 1000000
/-! for i, x in enumerate(t), t a tuple. -/
namespace Ck
open PySem PySem.Spec PyProof.Rows L2
theorem meets_en (v : Addr) (vals : Array Value) :
    Meets (Builtin.«enumerate.__new__» ⟨[.type "enumerate", .ref v], []⟩) (fun _ R st => st.heap.IsTuple v vals ∧
      R (.ok (.ret (.ref (st.heap.push { cls := .type "tuple_iterator", data := .fields #[.ref v, .int 0 0] }).objs.size)))
        { st with heap := (st.heap.push { cls := .type "tuple_iterator", data := .fields #[.ref v, .int 0 0] }).push { cls := .type "enumerate", data := .fields #[.none, .bool false, .ref st.heap.objs.size, rawInt 0, .none, .none] } }) :=
  .of_wp fun pr wo Ar R st hyp => by
    obtain ⟨hh, gg, dd, tt, oo⟩ := st; obtain ⟨isT, hyp⟩ := hyp
    have hsub := sub_enumerate
    have it1 : ∀ {B : Around} {X : Value → Shared → Prop} {Y : Value → Shared → Prop}, Y (.ref hh.objs.size) ⟨hh.push { cls := .type "tuple_iterator", data := .fields #[.ref v, .int 0 0] }, gg, dd, tt, oo⟩ → wpAny (model pr wo) B (pyIter (.ref v)) Y X ⟨hh, gg, dd, tt, oo⟩ :=
      fun q => (begins_tuple v vals).iter pr wo _ _ ⟨hh, gg, dd, tt, oo⟩ _ isT q
    wp_walk using it1
    refine wpAny_stack_any fun st => wpAny_pure ?_
    split
    · rename_i cc _ _ _ _ _
      cases (cc == Value.type "enumerate") <;> (wp_walk using it1; exact ⟨_, rfl, hyp⟩)
    · wp_walk using it1
      exact ⟨_, rfl, hyp⟩
section
variable {pr : Program} {wo : World} {Ar : Around} {X : Value → Shared → Prop} {st : Shared}
theorem call_en {v : Addr} {vals : Array Value} {Y : Value → Shared → Prop} (isT : st.heap.IsTuple v vals)
    (k : ∀ hp, IsEnum hp (st.heap.objs.size + 1) st.heap.objs.size 0 .none → hp.IsTupleIter st.heap.objs.size v 0 → (∀ b o, st.heap.get? b = some o → hp.get? b = some o) → Y (.ref (st.heap.objs.size + 1)) { st with heap := hp }) :
    wpAny (model pr wo) Ar (call (.type "enumerate") [.ref v]) Y X st := by
  refine callType_new F.called_enumerate (by decide) (F.typeCall_enumerate_1 _) (F.newCall_enumerate_1 _) (fun ob => F.args_object_init_2 ob _) F.entry_enumerate_new (meets_en v vals) ⟨isT, ?_⟩
  have sz1 : (st.heap.push { cls := .type "tuple_iterator", data := .fields #[.ref v, .int 0 0] }).objs.size = st.heap.objs.size + 1 := Heap.size_push ..
  show _ ∧ _
  rw [sz1]
  have en := Heap.get?_push_size (st.heap.push { cls := .type "tuple_iterator", data := .fields #[.ref v, .int 0 0] }) (o := { cls := .type "enumerate", data := .fields #[.none, .bool false, .ref st.heap.objs.size, rawInt 0, .none, .none] }) rfl
  rw [sz1] at en
  exact ⟨⟨_, en, rfl⟩, k _ en ⟨_, Heap.get?_push_of_some _ (Heap.get?_push_size _ rfl), rfl, rfl⟩ fun b o y => Heap.get?_push_of_some _ (Heap.get?_push_of_some _ y)⟩
end
def Itt (K : PySem.W.Frag) (a : Addr) (xs : List V) : It :=
  ⟨fun i H => SqT K H a xs ∧ i < xs.length, fun i H v H' => ∃ T x, v = .ref T ∧ H T = none ∧ H' = upd H T (.tup [.int (i : Nat), x]) ∧ xs[i]? = some x, fun i H => SqT K H a xs ∧ xs.length = i⟩
theorem turn_en {P : Program} {w : World} {K : PySem.W.Frag} {elts : List Expr} {kk : Nat} {tpos : Pos} (a e it : Addr) (xs : List V) :
    Turn P w K (.Tuple elts kk tpos) (Itt K a xs) [e, it] e (fun i h => (∃ old, IsEnum h e it ((i : Nat) : Int) old) ∧ h.IsTupleIter it a i ∧ e ≠ it) where
  mem := by simp
  obj := fun i h z b hb => by
    obtain ⟨⟨old, q1⟩, ⟨o, q2, _, q3⟩, _⟩ := z
    simp only [List.mem_cons, List.not_mem_nil, or_false] at hb
    rcases hb with rfl | rfl
    · exact ⟨_, q1, fun v q => nomatch q⟩
    · exact ⟨o, q2, fun v q => by rw [q3] at q; cases q⟩
  keep := fun i h h' z k => let ⟨⟨old, q1⟩, q2, q3⟩ := z; ⟨⟨old, k e (by simp) _ q1⟩, q2.at fun o q => k it (by simp) o q, q3⟩
  item := by
    intro X hP hw hK hc i pins s σ H E I hf z hg
    subst hP hw hK
    obtain ⟨⟨old, q1⟩, q2, q3⟩ := z
    obtain ⟨hq, hlt⟩ := hg
    obtain ⟨its, rv, pl, hz⟩ := I.tuple hq
    have hl := rv.length
    have ea : e ≠ a := fun z => by
      obtain ⟨o, p1, p2, _⟩ := id pl
      rw [← z, q1] at p1
      cases p1
      have p2 : Value.type "enumerate" = .type "tuple" := p2
      exact absurd p2 (by decide)
    have ia : a ≠ it := fun z => by
      obtain ⟨o, p1, p2, _⟩ := id pl
      obtain ⟨o', p3, p4, _⟩ := id q2
      rw [z, p3] at p1
      cases p1
      rw [p4] at p2
      exact absurd p2 (by decide)
    have hel : e < s.heap.objs.size := Heap.lt_size q1
    have hil : it < s.heap.objs.size := by obtain ⟨_, q, _⟩ := q2; exact Heap.lt_size q
    refine wpAny_pyNext_enum_itemD (Draws.tuple (A := X.A.in1) (I.ok.hd hc) it a ia its.toArray) q1 ⟨q2, pl⟩ (by rw [List.size_toArray]; omega) q3 (by simpa using ⟨q3, ea⟩) fun x hp tk hx ho hit hT hsz hk => ?_
    have hx' : its[i]? = some x := by simpa using hx
    obtain ⟨y, hy, ry⟩ : ∃ y, xs[i]? = some y ∧ RelV y x := by
      obtain ⟨u, hu, ru⟩ := rv.get (List.getElem?_eq_getElem hlt)
      rw [hx'] at hu
      cases hu
      exact ⟨_, List.getElem?_eq_getElem hlt, ru⟩
    refine ⟨_, rfl, wpAny_letOwnedTupleGo_enum (s := { s with heap := hp, toks := tk + 1 }) ho fun h2 he2 sb => ?_⟩
    have hT2 : h2.get? s.heap.objs.size = some { cls := .type "tuple", data := .seq #[.int i tk, x] } := (sb.2 _ (Nat.ne_of_gt hel)).trans hT
    have new : ObjOk X.prog X.w (upd H s.heap.objs.size (.tup [.int (i : Nat), y])) h2 s.heap.objs.size (.tup [.int (i : Nat), y]) :=
      ⟨by show 2 ≤ sizeLine; decide, [.int i tk, x], .cons ⟨_, rfl⟩ (.cons ry .nil), ⟨_, hT2, rfl, _, rfl⟩⟩
    have I1 : Inv X pins σ (upd H s.heap.objs.size (.tup [.int (i : Nat), y])) { s with heap := h2, toks := tk + 1 } :=
      I.turnedNew (ch := [e, it]) (fun b ob hb q => (sb.2 b (fun z => hb (by simp [z]))).trans (hk b ob (fun z => hb (by simp [z])) (fun z => hb (by simp [z])) q)) hf (Nat.le_refl _) new
    refine ⟨.ref s.heap.objs.size, _, I1, rfl, ⟨_, y, rfl, I.hok.fresh (Nat.le_refl _), rfl, hy⟩, ⟨⟨x, ?_⟩, hit.1.at fun o q => (sb.2 it (Ne.symm q3)).trans q, q3⟩, fun b hb => ?_⟩
    · rw [show ((i + 1 : Nat) : Int) = (i : Int) + 1 by omega]; exact he2
    · have lt : b < s.heap.objs.size := by
        simp only [List.mem_cons, List.not_mem_nil, or_false] at hb
        rcases hb with rfl | rfl
        · exact hel
        · exact hil
      rw [upd_ne (Nat.ne_of_lt lt)]
      exact (hf b hb).1
  done := by
    intro X hP hw hK hc i pins s σ H E I hf z hg
    subst hP hw hK
    obtain ⟨⟨old, q1⟩, q2, q3⟩ := z
    obtain ⟨hq, hle⟩ := hg
    obtain ⟨its, rv, pl, hz⟩ := I.tuple hq
    obtain ⟨f0, f1, f2, f3, f4, f5⟩ := hf it (by simp)
    have hl := rv.length
    have ia : a ≠ it := fun z => by
      obtain ⟨o, p1, p2, _⟩ := id pl
      obtain ⟨o', p3, p4, _⟩ := id q2
      rw [z, p3] at p1
      cases p1
      rw [p4] at p2
      exact absurd p2 (by decide)
    have ei : i = its.toArray.size := by rw [List.size_toArray]; omega
    exact wpAny_pyNext_enum_endD (Draws.tuple (A := X.A.in1) (I.ok.hd hc) it a ia its.toArray) q1 (by rw [← ei]; exact ⟨q2, pl⟩) fun hp eb => ⟨rfl, I.turned (t' := s.toks) (fun b o hb q => eb b o hb q) f0 f1 f3 f4 f5⟩
  self := fun A i s Q E z h => let ⟨⟨_, q1⟩, _⟩ := z; wpAny_pyIter_enum q1 h
def iEnumT (K : PySem.W.Frag) (ta : TA) : TI := fun σ H R => ta σ H fun vs H1 => ∃ a xs, vs = [.ref a] ∧ SqT K H1 a xs ∧ R (Itt K a xs) H1
theorem pi_enumT {X : Cx} {e : Expr} {ta : TA} {p pos tpos : Pos} {elts : List Expr} {kk : Nat} (glo : Gl X "enumerate") (hm : X.mg "enumerate" = none) (ha : PA X [e] ta) (hs : starEach [e] X.env = [(false, eval e X.env)] := by rfl) :
    PI X (.Tuple elts kk tpos) (.Call (.Name "enumerate" p) [e] [] pos) (iEnumT X.K ta) := by
  refine ⟨fun pins s σ H R I h => Call_ (ld_blt I glo hm boot_enumerate (PyProof.Rows.callWith_type1 (thn (ha.run pos pins s σ H _ I h) fun us s1 ⟨vs, H1, I1, r1, q1⟩ => ?_) hs rfl))⟩
  obtain ⟨a, xs, rfl, hq, q⟩ := q1
  rcases r1 with _ | ⟨r, _ | _⟩
  cases r
  obtain ⟨its, rv, pl, hz⟩ := I1.tuple hq
  refine call_en pl fun hp q1 q2 hk => wpAny_pyIter_enum q1 ?_
  refine ⟨s1.heap.objs.size + 1, [s1.heap.objs.size + 1, s1.heap.objs.size], _, _, H1, rfl, I1.kept (t' := s1.toks) hk, turn_en a (s1.heap.objs.size + 1) s1.heap.objs.size xs, ⟨⟨.none, q1⟩, q2, Nat.succ_ne_self _⟩, fun b hb => ?_, q⟩
  have le : s1.heap.objs.size ≤ b := by
    simp only [List.mem_cons, List.not_mem_nil, or_false] at hb
    rcases hb with rfl | rfl
    · exact Nat.le_succ _
    · exact Nat.le_refl _
  exact I1.fpOk le (I1.hok.fresh le)
theorem walk_enT {K : PySem.W.Frag} {a : Addr} {xs : List V} : Walk (Itt K a xs) xs.length (fun H => SqT K H a xs) (YPair (fun i => some (.int (i : Nat))) (fun i => xs[i]?)) :=
  ⟨fun _ _ hi q => ⟨q, hi⟩, fun _ q => ⟨q, rfl⟩, fun i H v H' _ q y => by
    obtain ⟨T, x, h1, h2, h3, h4⟩ := y
    exact ⟨T, _, x, h1, h2, h3, rfl, h4⟩⟩
end Ck
/-! W1 -/
set_option maxHeartbeats 4000000
namespace Ck
open PySem PySem.Spec PyProof.Rows L2
/-! ### checksums, frames -/
def cksStep (t o : Int) : Int := (t * 257 + o + 1) % 4294967291
def cks (ns : List Int) : Int := ns.foldl cksStep 1
def low (n : Nat) : Nat → List Int
  | 0 => []
  | k + 1 => ((n % 256 : Nat) : Int) :: low (n / 256) k
theorem low_length (n k : Nat) : (low n k).length = k := by
  induction k generalizing n with
  | zero => rfl
  | succ k ih => simp [low, ih]
theorem low_snoc (n k : Nat) : low n (k + 1) = low n k ++ [((n / 256 ^ k % 256 : Nat) : Int)] := by
  induction k generalizing n with
  | zero => simp [low]
  | succ k ih =>
    rw [low, ih (n / 256), low]
    simp only [List.cons_append]
    rw [Nat.div_div_eq_div_mul, Nat.pow_succ, Nat.mul_comm 256 (256 ^ k)]
def spCks (K : PySem.W.Frag) : Sp := fun vs H Q _ => ∃ (a : Addr) (ns : List Int), vs = [.ref a] ∧ SqL K H a (ns.map V.int) ∧ Q (.int (cks ns)) H
def spLow : Sp := fun vs H Q _ => ∃ (n k : Nat), vs = [.int n, .int k] ∧ k ≤ 100 ∧ ∀ p H', H p = none → Same H H' → H' p = some (.lst ((low n k).map V.int)) → Q (.ref p) H'
section
variable {P : Program} {w : World} {K : PySem.W.Frag} {mg : Str → Option Value} {base : Heap}
theorem c_checksum (T : Txt K mg) : C8.Cal P w K mg base 1 "checksum" (spCks K) [] := by
  refine cal T.f_checksum T.g_checksum (N := (["octets", "total", "octet"] : List Str)) (ps := (["octets"] : List Str)) (by decide +kernel) (fun _ _ _ _ _ _ us hl => match us, hl with | [_], _ => rfl) (fun vs H Q E h => ?_) (fun cdv A outer s H vs Q E hr h => ?_)
  · obtain ⟨a, ns, rfl, _⟩ := h; rfl
  · obtain ⟨a, ns, rfl, hS, k⟩ := h
    have nd : ((["octets", "total", "octet"] : List Str)).Nodup := by decide +kernel
    refine ⟨_,
      (pss_cons (ps_set (i := 1) nd rfl (by first | exact Or.inl rfl | exact Or.inr rfl) pe_int)
        (pss_cons (ps_for PassesOwn.never rfl (pi_list (L2.pv 0)) (pg_name (i := 2) nd rfl (by first | exact Or.inl rfl | exact Or.inr rfl)) (pss_one (ps_set (i := 1) nd rfl (by first | exact Or.inl rfl | exact Or.inr rfl) (pe_op op_mod (pe_op op_add (pe_op op_add (pe_op op_mul (L2.pv 1) (C8.pe_gc rfl (gi T.v_FACTOR))) (L2.pv 2)) pe_int) (C8.pe_gc rfl (gi T.v_PRIME))))))
        (pss_one (ps_ret (L2.pv 1)))))
      , ?_⟩
    refine ⟨_, rfl, a, rfl, ⟨_, hS⟩, for_list (K := K) (a := a) (xs := ns.map V.int) (fun i σ H' => H' = H ∧ ∃ v, σ = [some (.ref a), some (.int ((ns.take i).foldl cksStep 1)), v]) ⟨rfl, _, rfl⟩ (fun i σ H' _ z => z.1 ▸ hS) ?_ ?_⟩
    · rintro i x σ H' hi ⟨rfl, v, rfl⟩
      rw [List.getElem?_map] at hi
      obtain ⟨o, ho, rfl⟩ := Option.map_eq_some_iff.mp hi
      refine ⟨_, rfl, _, _, rfl, rfl, .inr ⟨by decide, by decide⟩, _, rfl, _, _, rfl, rfl, _, _, rfl, rfl, _, _, rfl, rfl, (by show (0 : Int) < 4294967291; decide), rfl, some (.int o), ?_⟩
      have e : ns.take (i + 1) = ns.take i ++ [o] := by rw [List.take_succ, ho]; rfl
      rw [e, List.foldl_append]
      rfl
    · rintro σ H' ⟨rfl, v, rfl⟩
      rw [List.length_map, List.take_length]
      exact ⟨_, rfl, k⟩
theorem c_lowest_octets (T : Txt K mg) : C8.Cal P w K mg base 1 "lowest_octets" spLow [] := by
  refine cal T.f_lowest_octets T.g_lowest_octets (N := (["number", "count", "octets", "_"] : List Str)) (ps := (["number", "count"] : List Str)) (by decide +kernel) (fun _ _ _ _ _ _ us hl => match us, hl with | [_, _], _ => rfl) (fun vs H Q E h => ?_) (fun cdv A outer s H vs Q E hr h => ?_)
  · obtain ⟨n, k, rfl, _⟩ := h; rfl
  · obtain ⟨n, c, rfl, hc, k⟩ := h
    have nd : ((["number", "count", "octets", "_"] : List Str)).Nodup := by decide +kernel
    refine ⟨_,
      (pss_cons (ps_set (i := 2) nd rfl (by first | exact Or.inl rfl | exact Or.inr rfl) (pe_lst pa_nil))
        (pss_cons (ps_for PassesOwn.never rfl (pi_range1 (by rfl) T.b_range (pa_cons (L2.pv 1) pa_nil)) (pg_name (i := 3) nd rfl (by first | exact Or.inl rfl | exact Or.inr rfl)) (pss_cons (ps_expr (pe_bm PySem.F.plainAttrs_list PySem.F.slot_list_append PySem.F.type_list_append mt_append (L2.pv 2) (pa_cons (pe_op op_mod (L2.pv 0) pe_int) pa_nil)))
        (pss_one (ps_set (i := 0) nd rfl (by first | exact Or.inl rfl | exact Or.inr rfl) (pe_op op_fdiv (L2.pv 0) pe_int)))))
        (pss_one (ps_ret (L2.pv 2)))))
      , ?_⟩
    refine ⟨Nat.zero_le _, fun p hp => ?_⟩
    refine ⟨_, rfl, _, rfl, by omega, by omega, for_range (lo := 0) (n := (c : Int).toNat) (fun i σ H' => Same H H' ∧ H' p = some (.lst ((low n i).map V.int)) ∧ ∃ v, σ = [some (.int ((n / 256 ^ i : Nat) : Int)), some (.int c), some (.ref p), v]) ⟨Same.nw hp, upd_same, none, by simp; rfl⟩ ?_ ?_⟩
    · rintro i σ H' hi ⟨s1, hl, v, rfl⟩
      refine ⟨_, rfl, .inl ⟨rfl, _, SqL.of hl⟩, _, rfl, _, _, rfl, rfl, (by show (0 : Int) < 256; decide), p, _, _, rfl, rfl, hl, small1000 (by rw [List.length_map, low_length]; omega), ?_⟩
      refine ⟨_, rfl, _, _, rfl, rfl, ⟨by decide, by decide⟩, s1.mt hp, ?_, some (.int (0 + (i : Int))), ?_⟩
      · rw [upd_same, low_snoc, List.map_append]; rfl
      · rw [Nat.pow_succ, ← Nat.div_div_eq_div_mul]; rfl
    · rintro σ H' ⟨s1, hl, v, rfl⟩
      exact ⟨_, rfl, k p H' hp s1 hl⟩
end
end Ck
/-! W2 -/
set_option maxHeartbeats 4000000
namespace Ck
open PySem PySem.Spec PyProof.Rows L2
theorem cks_nn (ns : List Int) : 0 ≤ cks ns := by
  unfold cks
  rcases List.eq_nil_or_concat ns with rfl | ⟨r, o, rfl⟩
  · decide
  · rw [List.concat_eq_append, List.foldl_append]
    exact Int.emod_nonneg _ (by decide)
def frm (ns : List Int) : List Int := low ns.length 2 ++ low (cks ns).toNat 4 ++ ns
theorem frm_length (ns : List Int) : (frm ns).length = 6 + ns.length := by simp [frm, low_length]; omega
def spFrame (K : PySem.W.Frag) : Sp := fun vs H Q _ => ∃ (a : Addr) (ns : List Int), vs = [.ref a] ∧ SqL K H a (ns.map V.int) ∧ ns.length ≤ 100000 ∧ ∀ p H', H p = none → Same H H' → H' p = some (.lst ((frm ns).map V.int)) → Q (.ref p) H'
section
variable {P : Program} {w : World} {K : PySem.W.Frag} {mg : Str → Option Value} {base : Heap}
theorem c_frame (T : Txt K mg) : C8.Cal P w K mg base 2 "frame" (spFrame K) [] := by
  refine cal T.f_frame T.g_frame (N := (["payload"] : List Str)) (ps := (["payload"] : List Str)) (by decide +kernel) (fun _ _ _ _ _ _ us hl => match us, hl with | [_], _ => rfl) (fun vs H Q E h => ?_) (fun cdv A outer s H vs Q E hr h => ?_)
  · obtain ⟨a, ns, rfl, _⟩ := h; rfl
  · obtain ⟨a, ns, rfl, hS, hl, k⟩ := h
    refine ⟨_,
      (pss_one (ps_ret (pe_op op_cat (pe_op op_cat (C8.pe_c (c_lowest_octets T) hr (by decide) rfl (pa_cons (pe_callB call_len_seq (by rfl) T.b_len PySem.boot_len (pa_cons (L2.pv 0) pa_nil)) (pa_cons pe_int pa_nil))) (C8.pe_c (c_lowest_octets T) hr (by decide) rfl (pa_cons (C8.pe_c (c_checksum T) hr (by decide) rfl (pa_cons (L2.pv 0) pa_nil)) (pa_cons pe_int pa_nil)))) (pe_callTy call_list_of (by rfl) T.b_list bt_list (pa_cons (L2.pv 0) pa_nil)))))
      , ?_⟩
    refine ⟨_, rfl, a, _, rfl, .inl hS, ns.length, 2, ?_, by decide, fun p1 H1 n1 s1 h1 => ?_⟩
    · rw [List.length_map]; rfl
    refine ⟨_, rfl, a, ns, rfl, s1.seq hS, (cks ns).toNat, 4, ?_, by decide, fun p2 H2 n2 s2 h2 => ?_⟩
    · rw [Int.toNat_of_nonneg (cks_nn ns)]; rfl
    refine ⟨p1, p2, _, _, rfl, rfl, s2 _ _ h1, h2, ?_, fun p3 n3 => ?_⟩
    · rw [List.length_map, List.length_map, low_length, low_length]; decide
    have s3 : Same H (upd H2 p3 (.lst ((low ns.length 2).map V.int ++ (low (cks ns).toNat 4).map V.int))) := (s1.trans s2).trans (Same.nw n3)
    refine ⟨_, rfl, a, _, rfl, .inl (s3.seq hS), fun p4 n4 => ?_⟩
    have n34 : p3 ≠ p4 := ne_of_none upd_same n4
    refine ⟨p3, p4, _, _, rfl, rfl, by rw [upd_ne n34]; exact upd_same, upd_same, ?_, fun p5 n5 => ?_⟩
    · rw [List.length_append, List.length_map, List.length_map, List.length_map, low_length, low_length]
      exact Nat.le_of_lt (Nat.lt_of_le_of_lt (Nat.add_le_add_left hl 6) (by decide))
    have s5 := (s3.trans (Same.nw (o := .lst (ns.map V.int)) n4)).trans (Same.nw (o := .lst ((low ns.length 2).map V.int ++ (low (cks ns).toNat 4).map V.int ++ ns.map V.int)) n5)
    refine k p5 _ ?_ s5 ?_
    · exact (s3.trans (Same.nw n4)).back n5
    · rw [upd_same]
      simp only [frm, List.map_append]
end
end Ck
/-! W3 -/
set_option maxHeartbeats 4000000
namespace Ck
open PySem PySem.Spec PyProof.Rows L2
theorem cut_core (xs : List V) (i j : Nat) : (xs.drop (min i xs.length)).take (min j xs.length - min i xs.length) = (xs.drop i).take (j - i) := by
  by_cases h : xs.length ≤ i
  · rw [Nat.min_eq_right h, List.drop_length, List.drop_eq_nil_of_le h, List.take_nil, List.take_nil]
  · have e1 : min i xs.length = i := by omega
    rw [e1]
    by_cases hj : j ≤ xs.length
    · rw [Nat.min_eq_left hj]
    · rw [List.take_of_length_le (by rw [List.length_drop]; omega), List.take_of_length_le (by rw [List.length_drop]; omega)]
theorem cut_nn (xs : List V) (i j : Nat) : cutV xs (some (i : Int)) (some (j : Int)) = (xs.drop i).take (j - i) := by
  unfold cutV
  rw [HT.sIx_nat, HT.sIx_nat, cut_core]
theorem cut_to (xs : List V) (j : Nat) : cutV xs none (some (j : Int)) = xs.take j := by
  unfold cutV
  rw [HT.sIx_none, HT.sIx_nat]
  have h := cut_core xs 0 j
  simpa using h
theorem cut_from (xs : List V) (i : Nat) : cutV xs (some (i : Int)) none = xs.drop i := by
  unfold cutV
  rw [HT.sIx_none, HT.sIx_nat]
  by_cases h : xs.length ≤ i
  · rw [Nat.min_eq_right h, List.drop_length, List.drop_eq_nil_of_le h, List.take_nil]
  · have e1 : min i xs.length = i := by omega
    rw [e1, List.take_of_length_le (by rw [List.length_drop]; exact Nat.le_refl _)]
theorem q_int {Q : V → Hp → Prop} {H : Hp} {i j : Int} (e : i = j) (h : Q (.int j) H) : Q (.int i) H := e ▸ h
theorem t_yes {b : Bool} {A B : Prop} (h : b = true) (x : A) : if b = true then A else B := by
  rw [if_pos h]; exact x
theorem t_no {b : Bool} {A B : Prop} (h : b = false) (x : B) : if b = true then A else B := by
  rw [if_neg (by rw [h]; exact Bool.false_ne_true)]; exact x
/-- how many frames stand whole in the first c octets -/
def kept : List (List Int) → Nat → Nat
  | [], _ => 0
  | p :: r, c => if 6 + p.length ≤ c then kept r (c - (6 + p.length)) + 1 else 0
/-- a list of lists of ints that stay as they are -/
def Pay (F : Addr → Prop) (H : Hp) (v : V) (p : List Int) : Prop := ∃ q, v = .ref q ∧ Fz F H q (.lst (p.map V.int))
inductive Pays (F : Addr → Prop) (H : Hp) : List V → List (List Int) → Prop
  | nil : Pays F H [] []
  | cons {v : V} {p : List Int} {vs : List V} {ps : List (List Int)} : Pay F H v p → Pays F H vs ps → Pays F H (v :: vs) (p :: ps)
theorem Pays.go {F F' : Addr → Prop} {H H' : Hp} (x : Go F H F' H') : ∀ {vs : List V} {ps : List (List Int)}, Pays F H vs ps → Pays F' H' vs ps
  | _, _, .nil => .nil
  | _, _, .cons ⟨q, e, h⟩ r => .cons ⟨q, e, h.go x⟩ (r.go x)
theorem Pays.append {F : Addr → Prop} {H : Hp} : ∀ {vs us : List V} {ps qs : List (List Int)}, Pays F H vs ps → Pays F H us qs → Pays F H (vs ++ us) (ps ++ qs)
  | _, _, _, _, .nil, s => s
  | _, _, _, _, .cons h r, s => .cons h (r.append s)
theorem Pays.length {F : Addr → Prop} {H : Hp} : ∀ {vs : List V} {ps : List (List Int)}, Pays F H vs ps → vs.length = ps.length
  | _, _, .nil => rfl
  | _, _, .cons _ r => congrArg (· + 1) r.length
theorem Pays.take {F : Addr → Prop} {H : Hp} : ∀ {vs : List V} {ps : List (List Int)} (n : Nat), Pays F H vs ps → Pays F H (vs.take n) (ps.take n)
  | _, _, 0, _ => .nil
  | _, _, _ + 1, .nil => .nil
  | _, _, n + 1, .cons h r => .cons h (r.take n)
theorem Pays.drop {F : Addr → Prop} {H : Hp} : ∀ {vs : List V} {ps : List (List Int)} (n : Nat), Pays F H vs ps → Pays F H (vs.drop n) (ps.drop n)
  | _, _, 0, r => r
  | _, _, _ + 1, .nil => .nil
  | _, _, n + 1, .cons _ r => r.drop n
theorem Pays.of {F : Addr → Prop} {H : Hp} : ∀ {vs : List V} {ps : List (List Int)} {i : Nat} {v : V}, Pays F H vs ps → vs[i]? = some v → ∃ p, ps[i]? = some p ∧ Pay F H v p
  | _, _, _, _, .nil, h => by simp at h
  | _, _, 0, _, .cons h _, e => by
    simp only [List.getElem?_cons_zero, Option.some.injEq] at e
    exact ⟨_, rfl, e ▸ h⟩
  | _, _, i + 1, _, .cons _ r, e => by
    simp only [List.getElem?_cons_succ] at e ⊢
    exact r.of e
theorem Pays.less {F G : Addr → Prop} {H : Hp} (s : ∀ a, G a → F a) : ∀ {vs : List V} {ps : List (List Int)}, Pays F H vs ps → Pays G H vs ps
  | _, _, .nil => .nil
  | _, _, .cons ⟨q, e, h⟩ r => .cons ⟨q, e, h.1, fun z => h.2 (s _ z)⟩ (r.less s)
theorem Pays.dp {K : PySem.W.Frag} {F : Addr → Prop} {H : Hp} : ∀ {vs : List V} {ps : List (List Int)}, Pays F H vs ps → DpAll K H vs (ps.map fun p => .list (p.map PyData.int))
  | _, _, .nil => .nil
  | _, _, .cons ⟨_, e, h⟩ r => .cons (e ▸ .lst (SqL.of h.1) (dp_ints _)) r.dp
/-- those that stood ahead -/
abbrev Old (H : Hp) : Addr → Prop := fun a => ∃ o, H a = some o
theorem old_not {H : Hp} {p : Addr} (h : H p = none) : ¬ Old H p := fun ⟨o, e⟩ => by rw [h] at e; cases e
theorem cut_head {p : List Int} {R : List Int} {cr : Nat} (h6 : 6 ≤ cr) : ((frm p ++ R).take cr).take 6 = (frm p).take 6 := by
  rw [List.take_take, Nat.min_eq_left h6, List.take_append_of_le_length (by rw [frm_length]; omega)]
theorem frm_take (p : List Int) : (frm p).take 6 = low p.length 2 ++ low (cks p).toNat 4 := by
  unfold frm
  rw [List.take_append_of_le_length (by simp [low_length]), List.take_of_length_le (by simp [low_length])]
theorem frm_drop (p R : List Int) : (frm p ++ R).drop 6 = p ++ R := by
  unfold frm
  rw [List.append_assoc, List.drop_append_of_le_length (by simp [low_length]), List.drop_of_length_le (by simp [low_length]), List.nil_append]
theorem low2 (n : Nat) : low n 2 = [((n % 256 : Nat) : Int), ((n / 256 % 256 : Nat) : Int)] := rfl
def spRead (K : PySem.W.Frag) : Sp := fun vs H Q _ => ∃ (a : Addr) (ps : List (List Int)) (c : Nat), vs = [.ref a] ∧ SqL K H a (((ps.flatMap frm).take c).map V.int) ∧ (∀ p ∈ ps, p.length < 65536) ∧ ps.length ≤ 100000 ∧
  ∀ t l n us H', H l = none → Same H H' → H' t = some (.tup [.ref l, .int n]) → H' l = some (.lst us) → Pays (Old H) H' us (ps.take (kept ps c)) → Q (.ref t) H'
section
variable {P : Program} {w : World} {K : PySem.W.Frag} {mg : Str → Option Value} {base : Heap}
theorem c_read_frames (T : Txt K mg) : C8.Cal P w K mg base 3 "read_frames" (spRead K) [] := by
  refine cal T.f_read_frames T.g_read_frames (N := (["octets", "payloads", "at", "count", "payload"] : List Str)) (ps := (["octets"] : List Str)) (by decide +kernel) (fun _ _ _ _ _ _ us hl => match us, hl with | [_], _ => rfl) (fun vs H Q E h => ?_) (fun cdv A outer s H vs Q E hr h => ?_)
  · obtain ⟨a, ps, c, rfl, _⟩ := h; rfl
  · obtain ⟨a, ps, c, rfl, hS, h64, hps, k⟩ := h
    have nd : ((["octets", "payloads", "at", "count", "payload"] : List Str)).Nodup := by decide +kernel
    refine ⟨_,
      (pss_cons (ps_set (i := 1) nd rfl (by first | exact Or.inl rfl | exact Or.inr rfl) (pe_lst pa_nil))
        (pss_cons (ps_set (i := 2) nd rfl (by first | exact Or.inl rfl | exact Or.inr rfl) pe_int)
        (pss_cons (ps_while PassesOwn.never (pt_cmpR op_le (pe_op op_add (L2.pv 2) (C8.pe_gc rfl (gi T.v_FRAME_HEAD))) (pe_callB call_len_seq (by rfl) T.b_len PySem.boot_len (pa_cons (L2.pv 0) pa_nil)) (nomark _)) (pss_cons (ps_set (i := 3) nd rfl (by first | exact Or.inl rfl | exact Or.inr rfl) (pe_op op_add (pe_ix ix_list (L2.pv 0) (L2.pv 2) (fun _ _ => rfl)) (pe_op op_mul pe_int (pe_ix ix_list (L2.pv 0) (pe_op op_add (L2.pv 2) pe_int) (fun _ _ => rfl)))))
        (pss_cons (ps_set (i := 4) nd rfl (by first | exact Or.inl rfl | exact Or.inr rfl) (pe_slice sl_list (L2.pv 0) (po_some (pe_op op_add (L2.pv 2) (C8.pe_gc rfl (gi T.v_FRAME_HEAD)))) (po_some (pe_op op_add (pe_op op_add (L2.pv 2) (C8.pe_gc rfl (gi T.v_FRAME_HEAD))) (L2.pv 3)))))
        (pss_cons (ps_if (PW.pt (pw_or (pt_cmpR op_lt (pe_callB call_len_seq (by rfl) T.b_len PySem.boot_len (pa_cons (L2.pv 4) pa_nil)) (L2.pv 3) (nomark _)) (pw_or1 (pt_cmpR (op_neD hr.units) (pe_slice sl_list (L2.pv 0) (po_some (L2.pv 2)) (po_some (pe_op op_add (L2.pv 2) (C8.pe_gc rfl (gi T.v_FRAME_HEAD))))) (pe_slice sl_list (C8.pe_c (c_frame T) hr (by decide) rfl (pa_cons (L2.pv 4) pa_nil)) po_none (po_some (C8.pe_gc rfl (gi T.v_FRAME_HEAD)))) (nomark _))))) (pss_one ps_break) pss_nil)
        (pss_cons (ps_expr (pe_bm PySem.F.plainAttrs_list PySem.F.slot_list_append PySem.F.type_list_append mt_append (L2.pv 1) (pa_cons (L2.pv 4) pa_nil)))
        (pss_one (ps_aug (i := 2) nd rfl (by first | exact Or.inl rfl | exact Or.inr rfl) (pe_op op_add (C8.pe_gc rfl (gi T.v_FRAME_HEAD)) (L2.pv 3)) ip_add)))))))
        (pss_one (ps_ret (pe_tup (pa_cons (L2.pv 1) (pa_cons (L2.pv 2) pa_nil))))))))
      , ?_⟩
    refine ⟨Nat.zero_le _, fun l hl => ?_⟩
    -- what follows the loop
    generalize hbs : (ps.flatMap frm).take c = bs at hS
    have fin : ∀ (us : List V) (n : Int) (v3 v4 : Option V) (H' : Hp), Same H H' → H' l = some (.lst us) → Pays (fun a => Old H a ∨ a = l) H' us (ps.take (kept ps c)) →
        (tRet (tTup (tCons (tVar 1) (tCons (tVar 2) tNil)))) { nx := fun _ H' => Q .non H', rt := Q } [some (.ref a), some (.ref l), some (.int n), v3, v4] H' := by
      intro us n v3 v4 H' s1 h1 hp
      refine ⟨_, rfl, _, rfl, by show 2 ≤ sizeLine; decide, fun t ht => ?_⟩
      have z : l ≠ t := ne_of_none h1 ht
      exact k t l n us _ hl (s1.trans (Same.nw ht)) upd_same (by rw [upd_ne z]; exact h1) ((hp.go (Go.same (Same.nw ht))).less fun _ => .inl)
    refine ⟨fun m σ H' => ∃ (pre rest : List (List Int)) (us : List V) (v3 v4 : Option V), m = rest.length ∧ ps = pre ++ rest ∧ (pre.flatMap frm).length ≤ c ∧
        ps.take (kept ps c) = pre ++ rest.take (kept rest (c - (pre.flatMap frm).length)) ∧ σ = [some (.ref a), some (.ref l), some (.int ((pre.flatMap frm).length : Nat)), v3, v4] ∧ Same H H' ∧ H' l = some (.lst us) ∧ Pays (fun a => Old H a ∨ a = l) H' us pre,
      ⟨ps.length, [], ps, [], none, none, rfl, rfl, Nat.zero_le _, rfl, rfl, Same.nw hl, upd_same, .nil⟩, ?_⟩
    rintro m σ H1 ⟨pre, rest, us, v3, v4, rfl, hpr, ho, hk, rfl, s1, h1, hp⟩
    generalize hoo : (pre.flatMap frm).length = o at ho hk ⊢
    have htail : bs.drop o = (rest.flatMap frm).take (c - o) := by
      rw [← hbs, hpr, List.flatMap_append, List.drop_take, ← hoo, List.drop_left]
    have hlen : bs.length = o + (bs.drop o).length := by
      have : o ≤ bs.length := by
        rw [← hbs, hpr, List.flatMap_append, List.length_take, List.length_append, hoo]
        omega
      rw [List.length_drop]; omega
    have sA := s1.seq hS
    -- at + 6 <= len(octets)
    refine ⟨_, rfl, _, _, rfl, rfl, _, rfl, a, _, rfl, .inl sA, _, _, rfl, rfl, _, rfl, ?_⟩
    rw [List.length_map, hlen]
    have fin0 : kept rest (c - o) = 0 → (tRet (tTup (tCons (tVar 1) (tCons (tVar 2) tNil)))) { nx := fun _ H' => Q .non H', rt := Q } [some (.ref a), some (.ref l), some (.int (o : Nat)), v3, v4] H1 := fun z => by
      refine fin us o v3 v4 H1 s1 h1 ?_
      rw [hk, z, List.take_zero, List.append_nil]
      exact hp
    cases rest with
    | nil =>
      refine t_no (decide_eq_false (by rw [htail]; simp; omega)) ?_
      exact fin0 rfl
    | cons p r =>
      by_cases h6 : c - o < 6
      · refine t_no (decide_eq_false (by rw [htail, List.length_take]; omega)) ?_
        refine fin0 ?_
        rw [kept, if_neg (by omega)]
      · have hL : (bs.drop o).length = min (c - o) (6 + p.length + (r.flatMap frm).length) := by
          rw [htail, List.length_take, List.flatMap_cons, List.length_append, frm_length]
        refine t_yes (decide_eq_true (by rw [hL]; omega)) ?_
        have ht6 : (bs.drop o).take 6 = low p.length 2 ++ low (cks p).toNat 4 := by
          rw [htail, List.flatMap_cons, cut_head (by omega), frm_take]
        have hp64 : p.length < 65536 := h64 p (by rw [hpr]; simp)
        have at0 : bs[o]? = some ((p.length % 256 : Nat) : Int) := by
          have e : (bs.drop o)[0]? = ((bs.drop o).take 6)[0]? := by rw [List.getElem?_take_of_lt (by decide)]
          rw [ht6, List.getElem?_drop] at e
          exact e
        have at1 : bs[o + 1]? = some ((p.length / 256 % 256 : Nat) : Int) := by
          have e : (bs.drop o)[1]? = ((bs.drop o).take 6)[1]? := by rw [List.getElem?_take_of_lt (by decide)]
          rw [ht6, List.getElem?_drop] at e
          exact e
        have m0 : (bs.map V.int)[o]? = some (.int ((p.length % 256 : Nat) : Int)) := by rw [List.getElem?_map, at0]; rfl
        have m1 : (bs.map V.int)[o + 1]? = some (.int ((p.length / 256 % 256 : Nat) : Int)) := by rw [List.getElem?_map, at1]; rfl
        have hcount : ((p.length % 256 : Nat) : Int) + 256 * ((p.length / 256 % 256 : Nat) : Int) = (p.length : Nat) := by omega
        have hpay : ((bs.map V.int).drop (o + 6)).take p.length = ((p.take (c - o - 6)).map V.int) := by
          rw [← List.drop_drop, ← List.map_drop, htail, ← List.map_drop, ← List.map_take, List.flatMap_cons, List.drop_take, frm_drop, List.take_take]
          congr 1
          rw [List.take_append_of_le_length (Nat.min_le_left _ _), Nat.min_comm, ← List.take_take, List.take_length]
        refine ⟨_, fun _ _ z => z, ?_⟩
        -- count = octets[at] + 256 * octets[at + 1]
        refine ⟨_, rfl, _, rfl, a, _, _, _, rfl, rfl, sA, atI_nat m0, _, rfl, _, rfl, _, _, rfl, rfl, a, _, _, _, rfl, rfl, sA, at_of (by rfl) m1, _, _, rfl, rfl, .inl ⟨by decide, by decide⟩, _, _, rfl, rfl, ?_⟩
        dsimp only; rw [hcount]
        -- payload = octets[at + 6:at + 6 + count]
        refine ⟨_, rfl, _, rfl, _, _, rfl, rfl, _, rfl, _, rfl, _, _, rfl, rfl, _, rfl, _, _, rfl, rfl, _, rfl, a, _, rfl, sA, fun q hq => ?_⟩
        rw [show ((o : Nat) : Int) + 6 = ((o + 6 : Nat) : Int) from rfl, show ((o + 6 : Nat) : Int) + (p.length : Nat) = ((o + 6 + p.length : Nat) : Int) from rfl, cut_nn, Nat.add_sub_cancel_left, hpay]
        have s2 : Same H (upd H1 q (.lst ((p.take (c - o - 6)).map V.int))) := s1.trans (Same.nw hq)
        -- len(payload) < count or octets[at:at + 6] != frame(payload)[:6]
        refine ⟨_, rfl, q, _, rfl, .inl (SqL.of upd_same), _, rfl, _, _, rfl, rfl, _, rfl, ?_⟩
        rw [List.length_map, List.length_take]
        by_cases hc : 6 + p.length ≤ c - o
        · refine t_no (decide_eq_false (by omega)) ?_
          have hpp : p.take (c - o - 6) = p := List.take_of_length_le (by omega)
          rw [hpp] at s2 ⊢
          refine ⟨_, rfl, _, rfl, _, rfl, _, rfl, _, _, rfl, rfl, _, rfl, a, _, rfl, s2.seq hS, fun q2 hq2 => ?_⟩
          have z2 : q ≠ q2 := ne_of_none upd_same hq2
          refine ⟨_, rfl, q, p, rfl, SqL.of (by rw [upd_ne z2]; exact upd_same), by omega, fun q3 H3 n3 s3 h3 => ?_⟩
          refine ⟨_, rfl, q3, _, rfl, SqL.of h3, fun q4 hq4 => ?_⟩
          have z4 : q2 ≠ q4 := ne_of_none (s3 _ _ upd_same) hq4
          have ec : cutV (bs.map V.int) (some (o : Nat)) (some (((o : Nat) : Int) + 6)) = (low p.length 2 ++ low (cks p).toNat 4).map V.int := by
            rw [show ((o : Nat) : Int) + 6 = ((o + 6 : Nat) : Int) from rfl, cut_nn, Nat.add_sub_cancel_left, ← List.map_drop, ← List.map_take, ht6]
          have ed : cutV ((frm p).map V.int) none (some 6) = (low p.length 2 ++ low (cks p).toNat 4).map V.int := by
            rw [show ((6 : Int)) = ((6 : Nat) : Int) from rfl, cut_to, ← List.map_take, frm_take]
          refine ⟨.list ((low p.length 2 ++ low (cks p).toNat 4).map .int), .list ((low p.length 2 ++ low (cks p).toNat 4).map .int), .lst (SqL.of (by rw [upd_ne z4]; exact s3 _ _ upd_same)) (ec ▸ dp_ints _), .lst (SqL.of upd_same) (ed ▸ dp_ints _), shaped_good (good_ints _), shaped_good (good_ints _), ?_⟩
          dsimp only; rw [eqv_yes (good_ints _)]
          refine ⟨_, rfl, ?_⟩
          refine iteF ?_
          -- payloads.append(payload); at += 6 + count
          have e4 := ((Same.nw (o := .lst (cutV (bs.map V.int) (some (o : Nat)) (some (((o : Nat) : Int) + 6)))) hq2).trans s3).trans (Same.nw (o := .lst (cutV ((frm p).map V.int) none (some 6))) hq4)
          have s4 := s2.trans e4
          have hpre : pre.length ≤ 100000 := by rw [hpr, List.length_append] at hps; omega
          generalize upd H3 q4 (.lst (cutV ((frm p).map V.int) none (some 6))) = H4 at e4 s4 ⊢
          have hl4 : H4 l = some (.lst us) := e4 _ _ (by rw [upd_ne (ne_of_none h1 hq)]; exact h1)
          refine ⟨_, rfl, .inl ⟨rfl, _, SqL.of hl4⟩, _, rfl, l, _, _, rfl, rfl, hl4, Nat.lt_of_le_of_lt (Nat.le_trans (Nat.le_of_eq hp.length) hpre) (by decide), ?_⟩
          refine ⟨_, rfl, _, rfl, _, _, rfl, rfl, _, _, rfl, rfl, ?_⟩
          refine ⟨r.length, by simp, pre ++ [p], r, us ++ [.ref q], some (.int (p.length : Nat)), some (.ref q), rfl, by rw [hpr]; simp, ?_, ?_, ?_, s4.mt hl, upd_same, ?_⟩
          · rw [List.flatMap_append, List.length_append, hoo]; simp [frm_length]; omega
          · rw [hk, List.flatMap_append, List.length_append, hoo, kept, if_pos hc]
            simp only [List.flatMap_cons, List.flatMap_nil, List.append_nil, frm_length, List.take_succ_cons, List.append_assoc, List.singleton_append, Nat.sub_sub]
          · rw [List.flatMap_append, List.length_append, hoo]
            simp only [List.flatMap_cons, List.flatMap_nil, List.append_nil, frm_length]
            rw [show ((o : Nat) : Int) + (6 + (p.length : Nat)) = ((o + (6 + p.length) : Nat) : Int) by omega]
            rfl
          · have zq : l ≠ q := ne_of_none h1 hq
            have x : Go (fun a => Old H a ∨ a = l) H4 (fun a => Old H a ∨ a = l) (upd H4 l (.lst (us ++ [.ref q]))) := Go.put (.inr rfl) hl4 trivial
            refine ((hp.go ((Go.same (Same.nw hq)).trans (Go.same e4))).go x).append (.cons ⟨q, rfl, ?_, ?_⟩ .nil)
            · rw [upd_ne zq.symm]; exact e4 _ _ upd_same
            · rintro (⟨o', ho'⟩ | z)
              · exact absurd (s1 _ _ ho') (by rw [hq]; exact fun z => nomatch z)
              · exact zq z.symm
        · refine t_yes (decide_eq_true (by omega)) ?_
          refine iteT ?_
          refine fin us o _ _ _ s2 (by rw [upd_ne (ne_of_none h1 hq)]; exact h1) ?_
          have z : kept (p :: r) (c - o) = 0 := by rw [kept, if_neg hc]
          rw [hk, z, List.take_zero, List.append_nil]
          exact hp.go (Go.same (Same.nw hq))
end
end Ck
/-! W4 -/
set_option maxHeartbeats 4000000
namespace Ck
open PySem PySem.Spec PyProof.Rows L2
theorem sev_len (n : Nat) : (sev n).length ≤ n + 1 := by
  induction n using Nat.strongRecOn with
  | ind n ih =>
    by_cases h : n < 128
    · rw [sev_small h]; simp
    · rw [sev_big h, List.length_cons]
      have := ih (n / 128) (by omega)
      omega
theorem sev_len10 (n : Nat) (h : n < 10 ^ 19) : (sev n).length ≤ 10 := by
  have key : ∀ k n, n < 128 ^ (k + 1) → (sev n).length ≤ k + 1 := by
    intro k
    induction k with
    | zero => intro n h; rw [sev_small (by simpa using h)]; simp
    | succ k ih =>
      intro n h
      by_cases h2 : n < 128
      · rw [sev_small h2]; simp
      · rw [sev_big h2, List.length_cons]
        have := ih (n / 128) (by rw [Nat.div_lt_iff_lt_mul (by decide)]; rw [Nat.pow_succ] at h; exact h)
        omega
  exact key 9 n (Nat.lt_of_lt_of_le h (by decide))
def spSev : Sp := fun vs H Q _ => ∃ n : Nat, vs = [.int n] ∧ n < 10 ^ 19 ∧ ∀ p H', H p = none → Same H H' → H' p = some (.lst ((sev n).map V.int)) → Q (.ref p) H'
section
variable {P : Program} {w : World} {K : PySem.W.Frag} {mg : Str → Option Value} {base : Heap}
theorem c_sevens_of (T : Txt K mg) : C8.Cal P w K mg base 1 "sevens_of" spSev [] := by
  refine cal T.f_sevens_of T.g_sevens_of (N := (["number", "octets"] : List Str)) (ps := (["number"] : List Str)) (by decide +kernel) (fun _ _ _ _ _ _ us hl => match us, hl with | [_], _ => rfl) (fun vs H Q E h => ?_) (fun cdv A outer s H vs Q E hr h => ?_)
  · obtain ⟨n, rfl, _⟩ := h; rfl
  · obtain ⟨n, rfl, hn, k⟩ := h
    have nd : ((["number", "octets"] : List Str)).Nodup := by decide +kernel
    refine ⟨_,
      (pss_cons (ps_set (i := 1) nd rfl (by first | exact Or.inl rfl | exact Or.inr rfl) (pe_lst pa_nil))
        (pss_cons (ps_while PassesOwn.never (pt_cmpR op_ge (L2.pv 0) (C8.pe_gc rfl (gi T.v_MORE)) (nomark _)) (pss_cons (ps_expr (pe_bm PySem.F.plainAttrs_list PySem.F.slot_list_append PySem.F.type_list_append mt_append (L2.pv 1) (pa_cons (pe_op op_add (C8.pe_gc rfl (gi T.v_MORE)) (pe_op op_mod (L2.pv 0) (C8.pe_gc rfl (gi T.v_MORE)))) pa_nil)))
        (pss_one (ps_set (i := 0) nd rfl (by first | exact Or.inl rfl | exact Or.inr rfl) (pe_op op_fdiv (L2.pv 0) (C8.pe_gc rfl (gi T.v_MORE)))))))
        (pss_cons (ps_expr (pe_bm PySem.F.plainAttrs_list PySem.F.slot_list_append PySem.F.type_list_append mt_append (L2.pv 1) (pa_cons (L2.pv 0) pa_nil)))
        (pss_one (ps_ret (L2.pv 1))))))
      , ?_⟩
    refine ⟨Nat.zero_le _, fun p hp => ?_⟩
    have hs10 := sev_len10 n hn
    refine ⟨fun m σ H' => ∃ acc : List Int, σ = [some (.int (m : Nat)), some (.ref p)] ∧ acc ++ sev m = sev n ∧ Same H H' ∧ H' p = some (.lst (acc.map V.int)), ⟨n, [], rfl, rfl, Same.nw hp, upd_same⟩, ?_⟩
    rintro m σ H1 ⟨acc, rfl, ha, s1, h1⟩
    have hacc : acc.length < sizeLine := Nat.lt_of_le_of_lt (by rw [← ha, List.length_append] at hs10; omega : acc.length ≤ 10) (by decide)
    refine ⟨_, rfl, _, _, rfl, rfl, _, rfl, ?_⟩
    by_cases hm : m < 128
    · refine t_no (decide_eq_false (by omega)) ?_
      refine ⟨_, rfl, .inl ⟨rfl, _, SqL.of h1⟩, _, rfl, p, _, _, rfl, rfl, h1, by rw [List.length_map]; exact hacc, ?_⟩
      refine ⟨_, rfl, k p _ hp (s1.mt hp) ?_⟩
      rw [upd_same, ← ha, sev_small hm, List.map_append]; rfl
    · refine t_yes (decide_eq_true (by omega)) ?_
      refine ⟨_, fun _ _ z => z, ?_⟩
      refine ⟨_, rfl, .inl ⟨rfl, _, SqL.of h1⟩, _, rfl, _, _, rfl, rfl, (by show (0 : Int) < 128; decide), _, _, rfl, rfl, p, _, _, rfl, rfl, h1, by rw [List.length_map]; exact hacc, ?_⟩
      refine ⟨_, rfl, _, _, rfl, rfl, ⟨by decide, by decide⟩, m / 128, by omega, acc ++ [((128 + m % 128 : Nat) : Int)], ?_, ?_, s1.mt hp, ?_⟩
      · rfl
      · rw [List.append_assoc]; rw [sev_big hm] at ha; exact ha
      · rw [upd_same, List.map_append]; rfl
end
end Ck
/-! W5 -/
set_option maxHeartbeats 4000000
namespace Ck
open PySem PySem.Spec PyProof.Rows L2
/-! the signs and parts of data, each one -/
mutual
def wtD : PyData → Nat
  | .tuple l => 1 + wtL l
  | .none => 1
  | .int _ => 1
  | .str _ => 1
  | .bool _ => 1
  | .list _ => 1
  | .dict _ => 1
def wtL : List PyData → Nat
  | [] => 0
  | d :: l => wtD d + wtL l
end
theorem wtL_append (a b : List PyData) : wtL (a ++ b) = wtL a + wtL b := by
  induction a with
  | nil => simp [wtL]
  | cons x a ih => simp [wtL, ih]; omega
theorem wtD_pos (d : PyData) : 1 ≤ wtD d := by
  cases d <;> simp [wtD]
theorem wtL_ge (l : List PyData) : l.length ≤ wtL l := by
  induction l with
  | nil => simp
  | cons x l ih => simp only [wtL, List.length_cons]; have := wtD_pos x; omega
theorem tyT {K : PySem.W.Frag} {H : Hp} {a : Addr} {xs : List V} (h : SqT K H a xs) : TyX K H (.ref a) (.type "tuple") := by
  rcases h with (h | ⟨o, h⟩) | ⟨o, its, n, h1, h2, _⟩
  · exact .base (.tup h)
  · exact .fTuple h
  · exact .kTuple h1 h2
theorem pk_succ {n : Nat} {d : PyData} (h : pk n d = true) : pk (n + 1) d = true := by
  have mono : ∀ {n : Nat} {d : PyData}, pk n d = true → pk (n + 1) d = true := by
    intro n
    induction n with
    | zero => intro d h; cases d <;> first | exact h | exact nomatch h
    | succ n ih =>
      intro d h
      cases d with
      | tuple l =>
        have h : (l.all (pk n) && decide (l.length ≤ 100)) = true := h
        rw [Bool.and_eq_true] at h
        show (l.all (pk (n + 1)) && decide (l.length ≤ 100)) = true
        rw [Bool.and_eq_true]
        exact ⟨List.all_eq_true.mpr fun x hx => ih (List.all_eq_true.mp h.1 x hx), h.2⟩
      | _ => first | exact h | exact nomatch h
  exact mono h
/-- packable, at some depth -/
def Pk (d : PyData) : Prop := ∃ n, pk n d = true
theorem Pk.tup {l : List PyData} (h : Pk (.tuple l)) : (∀ d ∈ l, Pk d) ∧ l.length ≤ 100 := by
  obtain ⟨n, h⟩ := h
  cases n with
  | zero => exact nomatch h
  | succ n =>
    have h : (l.all (pk n) && decide (l.length ≤ 100)) = true := h
    rw [Bool.and_eq_true] at h
    exact ⟨fun d hd => ⟨n, List.all_eq_true.mp h.1 d hd⟩, of_decide_eq_true h.2⟩
theorem Pk.int {i : Int} (h : Pk (.int i)) : 0 ≤ i ∧ i ≤ 1000000000000000000 := by
  obtain ⟨n, h⟩ := h
  have h : (decide (0 ≤ i) && decide (i ≤ 1000000000000000000)) = true := by cases n <;> exact h
  rw [Bool.and_eq_true] at h
  exact ⟨of_decide_eq_true h.1, of_decide_eq_true h.2⟩
theorem Pk.str {z : Str} (h : Pk (.str z)) : z.cps.toList.all signOk = true ∧ z.length ≤ 100 := by
  obtain ⟨n, h⟩ := h
  have h : (z.cps.toList.all signOk && decide (z.length ≤ 100)) = true := by cases n <;> exact h
  rw [Bool.and_eq_true] at h
  exact ⟨h.1, of_decide_eq_true h.2⟩
theorem Im.lst {K : PySem.W.Frag} {H : Hp} {v : V} {d : PyData} (h : Im K H v d) : Pk d → d = .none ∧ v = .non ∨ (∃ i : Int, d = .int i ∧ v = .int i) ∨ (∃ z, d = .str z ∧ v = .str z) ∨ ∃ a vs ds, d = .tuple ds ∧ v = .ref a ∧ SqT K H a vs ∧ Ims K H vs ds := by
  intro _
  cases h with
  | non => exact .inl ⟨rfl, rfl⟩
  | int i => exact .inr (.inl ⟨i, rfl, rfl⟩)
  | str z => exact .inr (.inr (.inl ⟨z, rfl, rfl⟩))
  | tup h r => exact .inr (.inr (.inr ⟨_, _, _, rfl, rfl, h, r⟩))
def spPack (K : PySem.W.Frag) : Sp := fun vs H Q _ => ∃ (v : V) (d : PyData), vs = [v] ∧ Im K H v d ∧ Pk d ∧ wtD d ≤ 10000 ∧ (packD d).length ≤ 100000 ∧ ∀ p H', H p = none → Same H H' → H' p = some (.lst ((packD d).map V.int)) → Q (.ref p) H'
section
variable {P : Program} {w : World} {K : PySem.W.Frag} {mg : Str → Option Value} {base : Heap}
theorem c_pack (T : Txt K mg) : C8.Cal P w K mg base 2 "pack" (spPack K) [] := by
  refine cal T.f_pack T.g_pack (N := (["data", "octets", "stack", "part", "sign"] : List Str)) (ps := (["data"] : List Str)) (by decide +kernel) (fun _ _ _ _ _ _ us hl => match us, hl with | [_], _ => rfl) (fun vs H Q E h => ?_) (fun cdv A outer s H vs Q E hr h => ?_)
  · obtain ⟨n, d, rfl, _⟩ := h; rfl
  · obtain ⟨v, d, rfl, hv, hpk, hwt, hln, k⟩ := h
    have nd : ((["data", "octets", "stack", "part", "sign"] : List Str)).Nodup := by decide +kernel
    refine ⟨_,
      (pss_cons (ps_set (i := 1) nd rfl (by first | exact Or.inl rfl | exact Or.inr rfl) (pe_lst pa_nil))
        (pss_cons (ps_set (i := 2) nd rfl (by first | exact Or.inl rfl | exact Or.inr rfl) (pe_lst (pa_cons (L2.pv 0) pa_nil)))
        (pss_cons (ps_while PassesOwn.never (pt_truth (L2.pv 2) (by intro _; rfl)) (pss_cons (ps_set (i := 3) nd rfl (by first | exact Or.inl rfl | exact Or.inr rfl) (pe_bm0 PySem.F.plainAttrs_list PySem.F.slot_list_pop PySem.F.type_list_pop mt_pop (L2.pv 2)))
        (pss_one (ps_if (pt_cmpR op_isN (L2.pv 3) pe_non (nomark _)) (pss_one (ps_expr (pe_bm PySem.F.plainAttrs_list PySem.F.slot_list_append PySem.F.type_list_append mt_append (L2.pv 1) (pa_cons (C8.pe_gc rfl (gi T.v_NOTHING)) pa_nil)))) (pss_one (ps_if (pt_val (pe_callB call_isi (by rfl) T.b_isinstance bt_isinstance (pa_cons (L2.pv 3) (pa_cons (pe_bltn (v := .ty "int") (by rfl) T.b_int bt_int rfl) pa_nil)))) (pss_cons (ps_expr (pe_bm PySem.F.plainAttrs_list PySem.F.slot_list_append PySem.F.type_list_append mt_append (L2.pv 1) (pa_cons (pe_ifExp (pt_cmpR op_ge (L2.pv 3) pe_int (nomark _)) (C8.pe_gc rfl (gi T.v_WHOLE)) (C8.pe_gc rfl (gi T.v_BELOW))) pa_nil)))
        (pss_one (ps_expr (pe_bm PySem.F.plainAttrs_list PySem.F.slot_list_extend PySem.F.type_list_extend mt_extend (L2.pv 1) (pa_cons (C8.pe_c (c_sevens_of T) hr (by decide) rfl (pa_cons (pe_ifExp (pt_cmpR op_ge (L2.pv 3) pe_int (nomark _)) (L2.pv 3) (pe_op op_sub (pe_un un_neg (L2.pv 3)) pe_int)) pa_nil)) pa_nil))))) (pss_one (ps_if (pt_val (pe_callB call_isi (by rfl) T.b_isinstance bt_isinstance (pa_cons (L2.pv 3) (pa_cons (pe_bltn (v := .ty "str") (by rfl) T.b_str bt_str rfl) pa_nil)))) (pss_cons (ps_expr (pe_bm PySem.F.plainAttrs_list PySem.F.slot_list_append PySem.F.type_list_append mt_append (L2.pv 1) (pa_cons (C8.pe_gc rfl (gi T.v_TEXT)) pa_nil)))
        (pss_cons (ps_expr (pe_bm PySem.F.plainAttrs_list PySem.F.slot_list_extend PySem.F.type_list_extend mt_extend (L2.pv 1) (pa_cons (C8.pe_c (c_sevens_of T) hr (by decide) rfl (pa_cons (pe_callB call_len (by rfl) T.b_len PySem.boot_len (pa_cons (L2.pv 3) pa_nil)) pa_nil)) pa_nil)))
        (pss_one (ps_expr (pe_bm PySem.F.plainAttrs_list PySem.F.slot_list_extend PySem.F.type_list_extend mt_extend (L2.pv 1) (pa_cons (pe_lc (by rfl) nd (pi_str (L2.pv 3)) (blkOk_by (own := [("sign", 4)]) (N := ["data", "octets", "stack", "part", "sign"]) (sc := defScope s_pack) (by decide +kernel)) (fun _ _ _ _ _ => pg_name (i := 4) nd rfl (by first | exact Or.inl rfl | exact Or.inr rfl)) (fun _ _ _ _ _ => pts_nil) (fun _ _ _ _ _ => (pe_callB call_ord (by rfl) T.b_ord bt_ord (pa_cons (L2.pv 4) pa_nil)))) pa_nil)))))) (pss_cons (ps_expr (pe_bm PySem.F.plainAttrs_list PySem.F.slot_list_append PySem.F.type_list_append mt_append (L2.pv 1) (pa_cons (C8.pe_gc rfl (gi T.v_TUPLE)) pa_nil)))
        (pss_cons (ps_expr (pe_bm PySem.F.plainAttrs_list PySem.F.slot_list_extend PySem.F.type_list_extend mt_extend (L2.pv 1) (pa_cons (C8.pe_c (c_sevens_of T) hr (by decide) rfl (pa_cons (pe_callB call_len (by rfl) T.b_len PySem.boot_len (pa_cons (L2.pv 3) pa_nil)) pa_nil)) pa_nil)))
        (pss_one (ps_expr (pe_bm PySem.F.plainAttrs_list PySem.F.slot_list_extend PySem.F.type_list_extend mt_extT (L2.pv 2) (pa_cons (pe_backT (L2.pv 3)) pa_nil))))))))))))))
        (pss_one (ps_ret (L2.pv 1))))))
      , ?_⟩
    -- octets = []; stack = [data]
    refine ⟨Nat.zero_le _, fun o ho => ?_⟩
    refine ⟨_, rfl, by show 1 ≤ sizeLine; decide, fun t ht => ?_⟩
    have ht0 : H t = none := (Same.nw ho).back ht
    have hot : o ≠ t := ne_of_none upd_same ht
    have line : ∀ n, n ≤ 100000 → n < sizeLine := fun n h => Nat.lt_of_le_of_lt h (by decide)
    refine ⟨fun m σ H' => ∃ (acc : List Int) (svs : List V) (ds : List PyData) (v3 v4 : Option V), m = wtL ds ∧ σ = [some v, some (.ref o), some (.ref t), v3, v4] ∧ Same H H' ∧ H' o = some (.lst (acc.map V.int)) ∧ H' t = some (.lst svs.reverse) ∧ Ims K H' svs ds ∧
        (∀ d ∈ ds, Pk d) ∧ acc ++ packL ds = packD d ∧ wtL ds ≤ 10000,
      ⟨_, [], [v], [d], none, none, rfl, rfl, (Same.nw ho).trans (Same.nw ht), by rw [upd_ne hot, upd_same]; rfl, upd_same, .cons (hv.go (Go.same (F := No) ((Same.nw ho).trans (Same.nw ht)))) .nil, by simpa using hpk, by simp [packL], by simpa [wtL] using hwt⟩, ?_⟩
    rintro m σ H1 ⟨acc, svs, ds, v3, v4, rfl, rfl, s1, h1, h2, hi, hp, ha, hw⟩
    refine ⟨_, rfl, _, .inl ⟨_, SqL.of h2, rfl⟩, ?_⟩
    cases hi with
    | nil =>
      refine t_no rfl ?_
      refine ⟨_, rfl, k o H1 ho s1 ?_⟩
      rw [h1, ← ha, packL, List.append_nil]
    | @cons v' d' svs ds hv' hi =>
      refine t_yes (by simp) ?_
      refine ⟨_, fun _ _ z => z, ?_⟩
      have hp' : Pk d' := hp d' List.mem_cons_self
      have hacc : acc.length + (packD d').length ≤ 100000 := by
        have e := congrArg List.length ha
        rw [packL, List.length_append, List.length_append] at e
        omega
      have hwl : svs.length ≤ 10000 := by
        have e1 := hi.length
        have e2 := wtL_ge ds
        rw [wtL] at hw
        omega
      -- part = stack.pop()
      refine ⟨_, rfl, .inl ⟨rfl, _, SqL.of h2⟩, t, _, v', rfl, rfl, h2, by simp, ?_⟩
      have ed : ((v' :: svs).reverse).dropLast = svs.reverse := by simp
      rw [ed]
      have s2 : Same H (upd H1 t (.lst svs.reverse)) := s1.mt ht0
      have h1' : (upd H1 t (.lst svs.reverse)) o = some (.lst (acc.map V.int)) := by rw [upd_ne hot]; exact h1
      have x2 : Go (fun a => a = t) H1 (fun a => a = t) (upd H1 t (.lst svs.reverse)) := Go.put rfl h2 trivial
      have hv2 := hv'.go x2
      have hi2 := hi.go x2
      have h2' : (upd H1 t (.lst svs.reverse)) t = some (.lst svs.reverse) := upd_same
      generalize upd H1 t (.lst svs.reverse) = H2 at s2 h1' hv2 hi2 h2' ⊢
      have hsev : ∀ n : Nat, (sev n).length ≤ (packD d').length → acc.length + 1 + (sev n).length ≤ 100001 := fun n h => by omega
      rcases hv2.lst hp' with ⟨rfl, rfl⟩ | ⟨i, rfl, rfl⟩ | ⟨z, rfl, rfl⟩ | ⟨a, us, es, rfl, rfl, hT, hU⟩
      · -- None
        refine ⟨_, rfl, rfl, _, rfl, ?_⟩
        refine iteT ?_
        refine ⟨_, rfl, .inl ⟨rfl, _, SqL.of h1'⟩, o, _, _, rfl, rfl, h1', line _ (by rw [List.length_map]; omega), ?_⟩
        have x3 : Go (fun a => a = o) H2 (fun a => a = o) (upd H2 o (.lst (acc.map V.int ++ [V.int 0]))) := Go.put rfl h1' trivial
        refine ⟨_, ?_, acc ++ [0], svs, ds, some .non, v4, rfl, rfl, s2.mt ho, by rw [upd_same, List.map_append]; rfl, by rw [upd_ne hot.symm]; exact h2', hi2.go x3, fun d hd => hp d (List.mem_cons_of_mem _ hd), ?_, ?_⟩
        · simp only [wtL, wtD]; omega
        · rw [← ha, packL, packD, List.append_assoc]
        · simp only [wtL, wtD] at hw; omega
      · -- an int
        refine ⟨_, rfl, rfl, _, rfl, ?_⟩
        refine iteF ?_
        refine ⟨_, rfl, _, _, .type "int", .type "int", true, rfl, .ty _, .base (.int i), kit_ty (by decide +kernel), _, rfl, ?_⟩
        refine iteT ?_
        obtain ⟨i0, i18⟩ := hp'.int
        obtain ⟨n, rfl⟩ : ∃ n : Nat, i = n := ⟨i.toNat, by omega⟩
        have hn19 : n < 10 ^ 19 := Nat.lt_of_le_of_lt (by omega : n ≤ 1000000000000000000) (by decide)
        refine ⟨_, rfl, .inl ⟨rfl, _, SqL.of h1'⟩, _, rfl, _, _, rfl, rfl, _, rfl, ?_⟩
        refine t_yes (decide_eq_true (by omega)) ?_
        refine ⟨o, _, _, rfl, rfl, h1', line _ (by rw [List.length_map]; omega), ?_⟩
        refine ⟨_, rfl, .inl ⟨rfl, _, SqL.of upd_same⟩, _, rfl, _, _, rfl, rfl, _, rfl, ?_⟩
        refine t_yes (decide_eq_true (by omega)) ?_
        refine ⟨_, rfl, n, rfl, hn19, fun q H3 nq s3 h3 => ?_⟩
        have hoq : H3 o = some (.lst ((acc ++ [1]).map V.int)) := s3 _ _ (by rw [upd_same, List.map_append]; rfl)
        refine ⟨o, q, _, _, rfl, rfl, hoq, h3, Nat.le_of_lt (line _ ?_), ?_⟩
        · have e := hacc; rw [packD] at e; simp only [List.length_map, List.length_append, List.length_cons, List.length_nil, Int.toNat_natCast] at e ⊢; omega
        have x3 : Go (fun a => a = o) H2 (fun a => a = o) (upd H2 o (.lst (acc.map V.int ++ [V.int 1]))) := Go.put rfl h1' trivial
        have x5 : Go (fun a => a = o) H3 (fun a => a = o) (upd H3 o (.lst ((acc ++ [1]).map V.int ++ (sev n).map V.int))) := Go.put rfl hoq trivial
        refine ⟨_, ?_, acc ++ [1] ++ sev n, svs, ds, some (.int n), v4, rfl, rfl, ((s2.mt ho).trans s3).mt ho, by rw [upd_same, ← List.map_append], by rw [upd_ne hot.symm]; exact s3 _ _ (by rw [upd_ne hot.symm]; exact h2'), hi2.go ((x3.trans (Go.same s3)).trans x5), fun d hd => hp d (List.mem_cons_of_mem _ hd), ?_, ?_⟩
        · simp only [wtL, wtD]; omega
        · rw [← ha, packL, packD]; simp
        · simp only [wtL, wtD] at hw; omega
      · -- a text
        obtain ⟨zok, z100⟩ := hp'.str
        refine ⟨_, rfl, rfl, _, rfl, ?_⟩
        refine iteF ?_
        refine ⟨_, rfl, _, _, .type "str", .type "int", false, rfl, .ty _, .base (.str z), kit_ty (by decide +kernel), _, rfl, ?_⟩
        refine iteF ?_
        refine ⟨_, rfl, _, _, .type "str", .type "str", true, rfl, .ty _, .base (.str z), kit_ty (by decide +kernel), _, rfl, ?_⟩
        refine iteT ?_
        have hz19 : z.length < 10 ^ 19 := Nat.lt_of_le_of_lt z100 (by decide)
        have hpl : (packD (.str z)).length = 1 + ((sev z.length).length + z.length) := by
          rw [packD]; simp [codes, Str.length]; omega
        rw [hpl] at hacc
        refine ⟨_, rfl, .inl ⟨rfl, _, SqL.of h1'⟩, o, _, _, rfl, rfl, h1', line _ (by rw [List.length_map]; omega), ?_⟩
        refine ⟨_, rfl, .inl ⟨rfl, _, SqL.of upd_same⟩, _, rfl, _, z.length, rfl, ⟨Nat.le_trans z100 (by decide), rfl⟩, z.length, rfl, hz19, fun q H3 nq s3 h3 => ?_⟩
        have hoq : H3 o = some (.lst ((acc ++ [3]).map V.int)) := s3 _ _ (by rw [upd_same, List.map_append]; rfl)
        refine ⟨o, q, _, _, rfl, rfl, hoq, h3, Nat.le_of_lt (line _ ?_), ?_⟩
        · simp only [List.length_map, List.length_append, List.length_cons, List.length_nil]; omega
        have x3 : Go (fun a => a = o) H2 (fun a => a = o) (upd H2 o (.lst (acc.map V.int ++ [V.int 3]))) := Go.put rfl h1' trivial
        have x5 : Go (fun a => a = o) H3 (fun a => a = o) (upd H3 o (.lst ((acc ++ [3]).map V.int ++ (sev z.length).map V.int))) := Go.put rfl hoq trivial
        have x6 := (x3.trans (Go.same s3)).trans x5
        have s6 : Same H (upd H3 o (.lst ((acc ++ [3]).map V.int ++ (sev z.length).map V.int))) := ((s2.mt ho).trans s3).mt ho
        have h6 : (upd H3 o (.lst ((acc ++ [3]).map V.int ++ (sev z.length).map V.int))) o = some (.lst ((acc ++ [3] ++ sev z.length).map V.int)) := by rw [upd_same, ← List.map_append]
        have h7 : (upd H3 o (.lst ((acc ++ [3]).map V.int ++ (sev z.length).map V.int))) t = some (.lst svs.reverse) := by rw [upd_ne hot.symm]; exact s3 _ _ (by rw [upd_ne hot.symm]; exact h2')
        generalize upd H3 o (.lst ((acc ++ [3]).map V.int ++ (sev z.length).map V.int)) = H6 at x6 s6 h6 h7 ⊢
        refine ⟨_, rfl, .inl ⟨rfl, _, SqL.of h6⟩, _, rfl, z, rfl, fun D hD => ?_⟩
        refine lc_it (walk_str (z := z)) (fun i H' => Same H6 H' ∧ H' D = some (.lst ((codes z).take i |>.map V.int))) ⟨Same.nw hD, upd_same⟩ (fun _ _ _ _ => trivial) ?_ ?_
        · rintro i x H7 H8 hi ⟨s7, hl7⟩ ⟨rfl, c, hc, rfl⟩
          refine ⟨rfl, _, rfl, _, rfl, rfl, _, hl7, line _ ?_, s7.mt hD, ?_⟩
          · rw [List.length_map, List.length_take]; have : i < z.length := hi; omega
          · rw [upd_same]
            have e1 : (codes z)[i]? = some ((c : Nat) : Int) := by
              unfold codes
              rw [List.getElem?_map, Array.getElem?_toList, hc]; rfl
            rw [List.take_succ, e1, List.map_append]; rfl
        · rintro H7 ⟨s7, hl7⟩
          have hlen : (codes z).length = z.cps.size := by simp [codes]
          rw [← hlen, List.take_length] at hl7
          have hzl : z.cps.size = z.length := rfl
          refine ⟨o, D, _, _, rfl, rfl, s7 _ _ h6, hl7, Nat.le_of_lt (line _ ?_), ?_⟩
          · simp only [List.length_map, List.length_append, List.length_cons, List.length_nil]; omega
          have x8 : Go (fun a => a = o) H7 (fun a => a = o) (upd H7 o (.lst ((acc ++ [3] ++ sev z.length).map V.int ++ (codes z).map V.int))) := Go.put rfl (s7 _ _ h6) trivial
          refine ⟨_, ?_, acc ++ [3] ++ sev z.length ++ codes z, svs, ds, some (.str z), v4, rfl, rfl, (s6.trans s7).mt ho, by rw [upd_same, ← List.map_append], by rw [upd_ne hot.symm]; exact s7 _ _ h7, hi2.go ((x6.trans (Go.same s7)).trans x8), fun d hd => hp d (List.mem_cons_of_mem _ hd), ?_, ?_⟩
          · simp only [wtL, wtD]; omega
          · rw [← ha, packL, packD]; simp
          · simp only [wtL, wtD] at hw; omega
      · -- a tuple
        obtain ⟨hpe, e100⟩ := hp'.tup
        have hul := hU.length
        refine ⟨_, rfl, rfl, _, rfl, ?_⟩
        refine iteF ?_
        refine ⟨_, rfl, _, _, .type "tuple", .type "int", false, rfl, .ty _, tyT hT, kit_ty (by decide +kernel), _, rfl, ?_⟩
        refine iteF ?_
        refine ⟨_, rfl, _, _, .type "tuple", .type "str", false, rfl, .ty _, tyT hT, kit_ty (by decide +kernel), _, rfl, ?_⟩
        refine iteF ?_
        have hz19 : es.length < 10 ^ 19 := Nat.lt_of_le_of_lt e100 (by decide)
        have hpl : (packD (.tuple es)).length = 1 + ((sev es.length).length + (packL es).length) := by
          rw [packD]; simp; omega
        rw [hpl] at hacc
        refine ⟨_, rfl, .inl ⟨rfl, _, SqL.of h1'⟩, o, _, _, rfl, rfl, h1', line _ (by rw [List.length_map]; omega), ?_⟩
        have x3 : Go (fun a => a = o) H2 (fun a => a = o) (upd H2 o (.lst (acc.map V.int ++ [V.int 4]))) := Go.put rfl h1' trivial
        refine ⟨_, rfl, .inl ⟨rfl, _, SqL.of upd_same⟩, _, rfl, _, us.length, rfl, .inr ⟨_, sqT_go x3 hT, rfl⟩, es.length, by rw [hul]; rfl, hz19, fun q H3 nq s3 h3 => ?_⟩
        have hoq : H3 o = some (.lst ((acc ++ [4]).map V.int)) := s3 _ _ (by rw [upd_same, List.map_append]; rfl)
        refine ⟨o, q, _, _, rfl, rfl, hoq, h3, Nat.le_of_lt (line _ ?_), ?_⟩
        · simp only [List.length_map, List.length_append, List.length_cons, List.length_nil]; omega
        have x5 : Go (fun a => a = o) H3 (fun a => a = o) (upd H3 o (.lst ((acc ++ [4]).map V.int ++ (sev es.length).map V.int))) := Go.put rfl hoq trivial
        have x6 := (x3.trans (Go.same s3)).trans x5
        have s6 : Same H (upd H3 o (.lst ((acc ++ [4]).map V.int ++ (sev es.length).map V.int))) := ((s2.mt ho).trans s3).mt ho
        have h6 : (upd H3 o (.lst ((acc ++ [4]).map V.int ++ (sev es.length).map V.int))) o = some (.lst ((acc ++ [4] ++ sev es.length).map V.int)) := by rw [upd_same, ← List.map_append]
        have h7 : (upd H3 o (.lst ((acc ++ [4]).map V.int ++ (sev es.length).map V.int))) t = some (.lst svs.reverse) := by rw [upd_ne hot.symm]; exact s3 _ _ (by rw [upd_ne hot.symm]; exact h2')
        generalize upd H3 o (.lst ((acc ++ [4]).map V.int ++ (sev es.length).map V.int)) = H6 at x6 s6 h6 h7 ⊢
        refine ⟨_, rfl, .inl ⟨rfl, _, SqL.of h7⟩, _, rfl, a, us, rfl, sqT_go x6 hT, fun b hb => ?_⟩
        have htb : t ≠ b := ne_of_none h7 hb
        have hob : o ≠ b := ne_of_none h6 hb
        refine ⟨t, b, _, _, rfl, rfl, by rw [upd_ne htb]; exact h7, SqT.of upd_same, Nat.le_of_lt (line _ ?_), ?_⟩
        · simp only [List.length_reverse]; omega
        have x8 : Go (fun a => a = t) (upd H6 b (.tup us.reverse)) (fun a => a = t) (upd (upd H6 b (.tup us.reverse)) t (.lst (svs.reverse ++ us.reverse))) := Go.put (u := .lst svs.reverse) rfl (by rw [upd_ne htb]; exact h7) trivial
        have x9 : Go No H6 No (upd H6 b (.tup us.reverse)) := Go.new hb
        refine ⟨_, ?_, acc ++ [4] ++ sev es.length, us ++ svs, es ++ ds, some (.ref a), v4, rfl, rfl, (s6.trans (Same.nw hb)).mt ht0, by rw [upd_ne hot, upd_ne hob]; exact h6, by rw [upd_same, List.reverse_append], ((hU.append hi2).go ((x6.trans x9.any))).go x8, ?_, ?_, ?_⟩
        · rw [wtL_append]; simp only [wtL, wtD]; omega
        · intro d hd
          rcases List.mem_append.mp hd with hd | hd
          · exact hpe d hd
          · exact hp d (List.mem_cons_of_mem _ hd)
        · rw [← ha, packL, packD, packL_append]; simp
        · simp only [wtL, wtD] at hw; rw [wtL_append]; omega
end
end Ck
/-! W6 -/
set_option maxHeartbeats 4000000
namespace Ck
open PySem PySem.Spec PyProof.Rows L2
abbrev CR (K : PySem.W.Frag) : Addr := He.ga K "Reader"
def rfs (a : Addr) (i : Int) : List (Str × V) := [("octets", .ref a), ("at", .int i)]
/-- a reader at r of the octets bs, i of them read -/
def RdAt (K : PySem.W.Frag) (H : Hp) (r a : Addr) (bs : List Int) (i : Nat) : Prop := (∃ dx, H r = some (.ins (CR K) dx (rfs a i))) ∧ SqL K H a (bs.map V.int)
theorem sqL_put {K : PySem.W.Frag} {H : Hp} {a r : Addr} {xs : List V} {o u : HO} (h : SqL K H a xs) (e : H r = some u) (n1 : ∀ ys, u ≠ .lst ys) (n2 : ∀ q v, u ≠ .frz q v) : SqL K (upd H r o) a xs := by
  rcases h with (h | ⟨q, h⟩) | h
  · refine .inl (.inl ?_)
    rw [upd_ne fun z => n1 _ (Option.some.inj (e.symm.trans (z ▸ h)))]
    exact h
  · refine .inl (.inr ⟨q, ?_⟩)
    rw [upd_ne fun z => n2 _ _ (Option.some.inj (e.symm.trans (z ▸ h)))]
    exact h
  · exact .inr h
/-- its methods: the reader alone changes -/
def Rds (K : PySem.W.Frag) (r a : Addr) (bs : List Int) (H : Hp) (i : Nat) (Q : Hp → Prop) : Prop := ∀ H', Go (fun x => x = r) H (fun x => x = r) H' → RdAt K H' r a bs i → Q H'
def spRInit (K : PySem.W.Frag) : Sp := fun vs H Q _ => ∃ (r a dx : Addr) (bs : List Int), vs = [.ref r, .ref a] ∧ H r = some (.ins (CR K) dx []) ∧ SqL K H a (bs.map V.int) ∧ Rds K r a bs H 0 (Q .non)
def spOctet (K : PySem.W.Frag) : Sp := fun vs H Q _ => ∃ (r a : Addr) (bs : List Int) (i : Nat) (b : Int), vs = [.ref r] ∧ RdAt K H r a bs i ∧ bs[i]? = some b ∧ Rds K r a bs H (i + 1) (Q (.int b))
def spSevens (K : PySem.W.Frag) : Sp := fun vs H Q _ => ∃ (r a : Addr) (bs : List Int) (i n : Nat) (R : List Int), vs = [.ref r] ∧ RdAt K H r a bs i ∧ bs.drop i = sev n ++ R ∧ Rds K r a bs H (i + (sev n).length) (Q (.int n))
def spNumber (K : PySem.W.Frag) : Sp := fun vs H Q _ => ∃ (r a : Addr) (bs : List Int) (i n : Nat) (R : List Int), vs = [.ref r, .int 0] ∧ RdAt K H r a bs i ∧ bs.drop i = sev n ++ R ∧ n ≤ 1000000000000000000 ∧ Rds K r a bs H (i + (sev n).length) (Q (.int n))
def spText (K : PySem.W.Frag) : Sp := fun vs H Q _ => ∃ (r a : Addr) (bs : List Int) (i : Nat) (z : Str) (R : List Int), vs = [.ref r] ∧ RdAt K H r a bs i ∧ bs.drop i = sev z.length ++ codes z ++ R ∧ z.cps.toList.all signOk = true ∧ z.length ≤ 100 ∧ Rds K r a bs H (i + (sev z.length).length + z.length) (Q (.str z))
def spSign : Sp := fun vs H Q _ => ∃ c : Nat, vs = [.int c] ∧ signOk c = true ∧ Q (.str ⟨#[c]⟩) H
theorem drop_at {bs : List Int} {i : Nat} {b : Int} {R : List Int} (h : bs.drop i = b :: R) : bs[i]? = some b ∧ bs.drop (i + 1) = R := by
  constructor
  · have e : (bs.drop i)[0]? = some b := by rw [h]; rfl
    rw [List.getElem?_drop] at e
    exact e
  · rw [← List.drop_drop, h]; rfl
theorem low_sign {c : Nat} (h1 : 32 ≤ c) (h2 : c ≤ 36) : (" !\"#$" : Str).cps.toList[c - 32]? = some c := by
  have key : ((List.range 5).all fun k => (" !\"#$" : Str).cps.toList[k]? == some (k + 32)) = true := by decide +kernel
  have e := List.all_eq_true.mp key (c - 32) (List.mem_range.mpr (by omega))
  rw [beq_iff_eq.mp e]
  congr 1
  omega
theorem high_sign {c : Nat} (h1 : 38 ≤ c) (h2 : c ≤ 126) : ("&'()*+,-./0123456789:;<=>?@ABCDEFGHIJKLMNOPQRSTUVWXYZ[\\]^_`abcdefghijklmnopqrstuvwxyz{|}~" : Str).cps.toList[c - 38]? = some c := by
  have key : ((List.range 89).all fun k => ("&'()*+,-./0123456789:;<=>?@ABCDEFGHIJKLMNOPQRSTUVWXYZ[\\]^_`abcdefghijklmnopqrstuvwxyz{|}~" : Str).cps.toList[k]? == some (k + 38)) = true := by decide +kernel
  have e := List.all_eq_true.mp key (c - 38) (List.mem_range.mpr (by omega))
  rw [beq_iff_eq.mp e]
  congr 1
  omega
section
variable {P : Program} {w : World} {K : PySem.W.Frag} {mg : Str → Option Value} {base : Heap}
theorem c_sign_of (T : Txt K mg) : C8.Cal P w K mg base 1 "sign_of" spSign [] := by
  refine cal T.f_sign_of T.g_sign_of (N := (["code"] : List Str)) (ps := (["code"] : List Str)) (by decide +kernel) (fun _ _ _ _ _ _ us hl => match us, hl with | [_], _ => rfl) (fun vs H Q E h => ?_) (fun cdv A outer s H vs Q E hr h => ?_)
  · obtain ⟨n, rfl, _⟩ := h; rfl
  · obtain ⟨c, rfl, hc, k⟩ := h
    refine ⟨_,
      (pss_cons (ps_if (pt_chain op_le op_le pe_int (L2.pv 0) pe_int) (pss_one (ps_ret (pe_ix ix_str (C8.pe_gc rfl (gs T.v_LOW_SIGNS)) (pe_op op_sub (L2.pv 0) pe_int) (fun _ _ => rfl)))) pss_nil)
        (pss_cons (ps_if (pt_chain op_le op_le pe_int (L2.pv 0) pe_int) (pss_one (ps_ret (pe_ix ix_str (C8.pe_gc rfl (gs T.v_HIGH_SIGNS)) (pe_op op_sub (L2.pv 0) pe_int) (fun _ _ => rfl)))) pss_nil)
        (pss_one (ps_ret pe_non))))
      , ?_⟩
    unfold signOk at hc
    simp only [Bool.or_eq_true, Bool.and_eq_true, decide_eq_true_eq] at hc
    refine ⟨_, rfl, _, _, rfl, rfl, _, rfl, ?_⟩
    by_cases h32 : 32 ≤ c ∧ c ≤ 36
    · refine t_yes (decide_eq_true (by omega)) ?_
      refine ⟨_, _, rfl, rfl, _, rfl, ?_⟩
      refine t_yes (decide_eq_true (by omega)) ?_
      refine ⟨_, rfl, _, _, rfl, rfl, _, _, c, rfl, rfl, by decide +kernel, ?_, k⟩
      rw [show ((c : Nat) : Int) - 32 = ((c - 32 : Nat) : Int) by omega]
      exact atI_nat (low_sign h32.1 h32.2)
    · have h38 : 38 ≤ c ∧ c ≤ 126 := by omega
      refine t_yes (decide_eq_true (by omega)) ?_
      refine ⟨_, _, rfl, rfl, _, rfl, ?_⟩
      refine t_no (decide_eq_false (by omega)) ?_
      refine ⟨_, rfl, _, _, rfl, rfl, _, rfl, ?_⟩
      refine t_yes (decide_eq_true (by omega)) ?_
      refine ⟨_, _, rfl, rfl, _, rfl, ?_⟩
      refine t_yes (decide_eq_true (by omega)) ?_
      refine ⟨_, rfl, _, _, rfl, rfl, _, _, c, rfl, rfl, by decide +kernel, ?_, k⟩
      rw [show ((c : Nat) : Int) - 38 = ((c - 38 : Nat) : Int) by omega]
      exact atI_nat (high_sign h38.1 h38.2)
theorem c_Reader_init (T : Txt K mg) : C8.Mak P w K mg base 1 "Reader" (CR K) (spRInit K) [] := by
  refine mak T.k_Reader T.g_Reader T.f_Reader_init (N := (["self", "octets"] : List Str)) (ps := (["self", "octets"] : List Str)) (by decide +kernel) (fun _ _ _ _ _ _ us hl => match us, hl with | [_, _], _ => rfl) (fun vs H Q E h => ?_) (fun cdv A outer s H vs Q E hr h => ?_)
  · obtain ⟨_, _, _, _, rfl, _⟩ := h; rfl
  · obtain ⟨r, a, dx, bs, rfl, hR, hA, k⟩ := h
    refine ⟨_,
      (pss_cons (ps_fld (L2.pv 0) (L2.pv 1) rfl)
        (pss_one (ps_fld (L2.pv 0) pe_int rfl)))
      , ?_⟩
    refine ⟨_, rfl, _, rfl, r, _, dx, _, rfl, hR, T.c_Reader, T.n_Reader_octets, (by show 0 < 1000; decide), _, rfl, r, _, dx, _, rfl, upd_same, T.c_Reader, T.n_Reader_at, (by show 1 < 1000; decide), ?_⟩
    have x1 : Go (fun x => x = r) H (fun x => x = r) (upd H r (.ins (CR K) dx [("octets", .ref a)])) := Go.put rfl hR trivial
    have x2 : Go (fun x => x = r) (upd H r (.ins (CR K) dx [("octets", .ref a)])) (fun x => x = r) (upd (upd H r (.ins (CR K) dx [("octets", .ref a)])) r (.ins (CR K) dx (rfs a 0))) := Go.put rfl upd_same trivial
    exact k _ (x1.trans x2) ⟨⟨dx, upd_same⟩, sqL_put (sqL_put hA hR (fun _ z => nomatch z) (fun _ _ z => nomatch z)) upd_same (fun _ z => nomatch z) (fun _ _ z => nomatch z)⟩
theorem c_Reader_octet (T : Txt K mg) : C8.Met P w K mg base 1 (CR K) "octet" (spOctet K) [] := by
  refine met T.c_Reader T.m_Reader_octet T.f_Reader_octet (N := (["self"] : List Str)) (ps := (["self"] : List Str)) (by decide +kernel) (fun _ _ _ _ _ _ us hl => match us, hl with | [_], _ => rfl) (fun vs H Q E h => ?_) (fun cdv A outer s H vs Q E hr h => ?_)
  · obtain ⟨_, _, _, _, _, rfl, _⟩ := h; rfl
  · obtain ⟨r, a, bs, i, b, rfl, ⟨⟨dx, hR⟩, hA⟩, hb, k⟩ := h
    refine ⟨_,
      (pss_cons (ps_if (pt_cmpR op_ge (pe_fld (L2.pv 0) rfl) (pe_callB call_len_seq (by rfl) T.b_len PySem.boot_len (pa_cons (pe_fld (L2.pv 0) rfl) pa_nil)) (nomark _)) (pss_one ps_never) pss_nil)
        (pss_cons (ps_fldaug (L2.pv 0) pe_int in_add)
        (pss_one (ps_ret (pe_ix ix_list (pe_fld (L2.pv 0) rfl) (pe_op op_sub (pe_fld (L2.pv 0) rfl) pe_int) (fun _ _ => rfl))))))
      , ?_⟩
    have hi : i < bs.length := (List.getElem?_eq_some_iff.mp hb).1
    refine ⟨_, rfl, r, _, dx, _, _, rfl, hR, T.c_Reader, T.n_Reader_at, rfl, _, rfl, r, _, dx, _, _, rfl, hR, T.c_Reader, T.n_Reader_octets, rfl, a, _, rfl, .inl hA, _, _, rfl, rfl, _, rfl, ?_⟩
    refine t_no (decide_eq_false (by rw [List.length_map]; omega)) ?_
    refine ⟨_, rfl, r, _, dx, _, _, rfl, hR, T.c_Reader, T.n_Reader_at, rfl, _, _, rfl, rfl, _, _, hR, (by show 2 < 1000; decide), ?_⟩
    have hA2 : SqL K (upd H r (.ins (CR K) dx (rfs a (i + 1 : Nat)))) a (bs.map V.int) := sqL_put hA hR (fun _ z => nomatch z) (fun _ _ z => nomatch z)
    refine ⟨_, rfl, r, _, dx, _, _, rfl, upd_same, T.c_Reader, T.n_Reader_octets, rfl, _, rfl, r, _, dx, _, _, rfl, upd_same, T.c_Reader, T.n_Reader_at, rfl, _, _, rfl, rfl, a, _, _, _, rfl, rfl, hA2, at_of (j := i) (by omega) (by rw [List.getElem?_map, hb]; rfl), ?_⟩
    exact k _ (Go.put rfl hR trivial) ⟨⟨dx, upd_same⟩, hA2⟩
theorem c_Reader_sevens (T : Txt K mg) : C8.Met P w K mg base 2 (CR K) "sevens" (spSevens K) [] := by
  refine met T.c_Reader T.m_Reader_sevens T.f_Reader_sevens (N := (["self", "number", "weight", "octet"] : List Str)) (ps := (["self"] : List Str)) (by decide +kernel) (fun _ _ _ _ _ _ us hl => match us, hl with | [_], _ => rfl) (fun vs H Q E h => ?_) (fun cdv A outer s H vs Q E hr h => ?_)
  · obtain ⟨_, _, _, _, _, _, rfl, _⟩ := h; rfl
  · obtain ⟨r, a, bs, i, n, R, rfl, hR, hb, k⟩ := h
    have nd : ((["self", "number", "weight", "octet"] : List Str)).Nodup := by decide +kernel
    refine ⟨_,
      (pss_cons (ps_set (i := 1) nd rfl (by first | exact Or.inl rfl | exact Or.inr rfl) pe_int)
        (pss_cons (ps_set (i := 2) nd rfl (by first | exact Or.inl rfl | exact Or.inr rfl) pe_int)
        (pss_cons (ps_set (i := 3) nd rfl (by first | exact Or.inl rfl | exact Or.inr rfl) (C8.pe_mt0 (c_Reader_octet T) hr (by decide) (L2.pv 0)))
        (pss_cons (ps_while PassesOwn.never (pt_cmpR op_ge (L2.pv 3) (C8.pe_gc rfl (gi T.v_MORE)) (nomark _)) (pss_cons (ps_aug (i := 1) nd rfl (by first | exact Or.inl rfl | exact Or.inr rfl) (pe_op op_mul (pe_op op_sub (L2.pv 3) (C8.pe_gc rfl (gi T.v_MORE))) (L2.pv 2)) ip_add)
        (pss_cons (ps_set (i := 2) nd rfl (by first | exact Or.inl rfl | exact Or.inr rfl) (pe_op op_mul (L2.pv 2) (C8.pe_gc rfl (gi T.v_MORE))))
        (pss_one (ps_set (i := 3) nd rfl (by first | exact Or.inl rfl | exact Or.inr rfl) (C8.pe_mt0 (c_Reader_octet T) hr (by decide) (L2.pv 0)))))))
        (pss_cons (ps_if (PW.pt (pw_and (pt_cmpR op_eq (L2.pv 3) pe_int (nomark _)) (pw_and1 (pt_cmpR op_gt (L2.pv 2) pe_int (nomark _))))) (pss_one ps_never) pss_nil)
        (pss_one (ps_ret (pe_op op_add (L2.pv 1) (pe_op op_mul (L2.pv 3) (L2.pv 2))))))))))
      , ?_⟩
    -- the first octet of the rest m, what lies behind it
    have head : ∀ m : Nat, ∃ b t, sev m = b :: t := fun m => by
      by_cases hm : m < 128
      · exact ⟨_, _, sev_small hm⟩
      · exact ⟨_, _, sev_big hm⟩
    obtain ⟨b0, t0, e0⟩ := head n
    rw [e0, List.cons_append] at hb
    obtain ⟨hb1, hb2⟩ := drop_at hb
    obtain ⟨dx, hR1⟩ := hR.1
    refine ⟨_, rfl, r, dx, _, rfl, hR1, rfl, r, a, bs, i, b0, rfl, hR, hb1, fun H1 x1 hR1 => ?_⟩
    refine ⟨fun m σ H' => ∃ (wg num j : Nat) (b : Int) (t : List Int), σ = [some (.ref r), some (.int num), some (.int wg), some (.int b)] ∧ sev m = b :: t ∧ num + wg * m = n ∧ 1 ≤ wg ∧ (wg = 1 ∨ 1 ≤ m) ∧ Go (fun x => x = r) H (fun x => x = r) H' ∧ RdAt K H' r a bs j ∧
        bs.drop j = t ++ R ∧ j + t.length = i + (sev n).length, ⟨n, 1, 0, i + 1, b0, t0, rfl, e0, by omega, Nat.le_refl _, .inl rfl, x1, hR1, hb2, by rw [e0, List.length_cons]; omega⟩, ?_⟩
    rintro m σ H2 ⟨wg, num, j, b, t, rfl, em, hn, hw, hwm, x2, hR2, hd, hj⟩
    refine ⟨_, rfl, _, _, rfl, rfl, _, rfl, ?_⟩
    by_cases hm : m < 128
    · have e1 := sev_small hm
      rw [em, List.cons.injEq] at e1
      obtain ⟨rfl, rfl⟩ := e1
      refine t_no (decide_eq_false (by omega)) ?_
      refine ⟨_, rfl, rfl, _, rfl, ?_⟩
      have fin : Q (.int ((num : Nat) + (m : Nat) * (wg : Nat) : Int)) H2 := by
        have e2 : ((num : Nat) + (m : Nat) * (wg : Nat) : Int) = (n : Nat) := by
          rw [← hn, Nat.mul_comm]; push_cast; rfl
        rw [e2]
        rw [List.length_nil, Nat.add_zero] at hj
        exact k H2 x2 (hj ▸ hR2)
      by_cases hm0 : m = 0
      · refine t_yes (decide_eq_true (by rw [hm0]; rfl)) ?_
        refine ⟨_, rfl, _, _, rfl, rfl, _, rfl, ?_⟩
        have : wg = 1 := by omega
        refine t_no (decide_eq_false (by omega)) ?_
        refine ⟨_, rfl, _, rfl, _, rfl, _, _, rfl, rfl, .inl ⟨by omega, by omega⟩, _, _, rfl, rfl, fin⟩
      · refine t_no (decide_eq_false (by intro z; injection z with z; omega)) ?_
        refine iteF ?_
        refine ⟨_, rfl, _, rfl, _, rfl, _, _, rfl, rfl, .inl ⟨by omega, by omega⟩, _, _, rfl, rfl, fin⟩
    · have e1 := sev_big hm
      rw [em, List.cons.injEq] at e1
      obtain ⟨rfl, rfl⟩ := e1
      refine t_yes (decide_eq_true (by omega)) ?_
      refine ⟨_, fun _ _ z => z, ?_⟩
      obtain ⟨b2, t2, e2⟩ := head (m / 128)
      have hd' := hd
      rw [e2, List.cons_append] at hd'
      obtain ⟨hb3, hb4⟩ := drop_at hd'
      refine ⟨_, rfl, _, rfl, _, _, rfl, rfl, _, rfl, _, _, rfl, rfl, .inl ⟨by omega, by omega⟩, _, _, rfl, rfl, ?_⟩
      refine ⟨_, rfl, _, _, rfl, rfl, .inr ⟨by decide, by decide⟩, ?_⟩
      obtain ⟨dx2, hR3⟩ := hR2.1
      refine ⟨_, rfl, r, dx2, _, rfl, hR3, rfl, r, a, bs, j, b2, rfl, hR2, hb3, fun H3 x3 hR4 => ?_⟩
      refine ⟨m / 128, by omega, wg * 128, num + m % 128 * wg, j + 1, b2, t2, ?_, e2, ?_, by omega, .inr (by omega), x2.trans x3, hR4, hb4, ?_⟩
      · have e3 : ((num : Nat) : Int) + (((128 + m % 128 : Nat) : Int) - 128) * ((wg : Nat) : Int) = ((num + m % 128 * wg : Nat) : Int) := by
          rw [show (((128 + m % 128 : Nat) : Int) - 128) = ((m % 128 : Nat) : Int) by omega]; push_cast; rfl
        have e4 : ((wg : Nat) : Int) * 128 = ((wg * 128 : Nat) : Int) := by push_cast; rfl
        show [some (V.ref r), some (V.int (((num : Nat) : Int) + (((128 + m % 128 : Nat) : Int) - 128) * ((wg : Nat) : Int))), some (V.int (((wg : Nat) : Int) * 128)), some (V.int b2)] = _
        rw [e3, e4]
      · rw [← hn]
        have e5 : wg * m = wg * (128 * (m / 128) + m % 128) := by rw [Nat.div_add_mod]
        rw [e5, Nat.mul_add, ← Nat.mul_assoc, Nat.mul_comm (m % 128) wg]
        omega
      · rw [e2, List.length_cons] at hj; omega
theorem c_Reader_number (T : Txt K mg) : C8.Met P w K mg base 3 (CR K) "number" (spNumber K) [] := by
  refine met T.c_Reader T.m_Reader_number T.f_Reader_number (N := (["self", "less", "number"] : List Str)) (ps := (["self", "less"] : List Str)) (by decide +kernel) (fun _ _ _ _ _ _ us hl => match us, hl with | [_, _], _ => rfl) (fun vs H Q E h => ?_) (fun cdv A outer s H vs Q E hr h => ?_)
  · obtain ⟨_, _, _, _, _, _, rfl, _⟩ := h; rfl
  · obtain ⟨r, a, bs, i, n, R, rfl, hR, hb, hn, k⟩ := h
    have nd : ((["self", "less", "number"] : List Str)).Nodup := by decide +kernel
    refine ⟨_,
      (pss_cons (ps_set (i := 2) nd rfl (by first | exact Or.inl rfl | exact Or.inr rfl) (C8.pe_mt0 (c_Reader_sevens T) hr (by decide) (L2.pv 0)))
        (pss_cons (ps_if (pt_cmpR op_gt (L2.pv 2) (pe_op op_sub (C8.pe_gc rfl (gi T.v_MOST_INTEGER)) (L2.pv 1)) (nomark _)) (pss_one ps_never) pss_nil)
        (pss_one (ps_ret (L2.pv 2)))))
      , ?_⟩
    obtain ⟨dx, hR1⟩ := hR.1
    refine ⟨_, rfl, r, dx, _, rfl, hR1, rfl, r, a, bs, i, n, R, rfl, hR, hb, fun H1 x1 hR1 => ?_⟩
    refine ⟨_, rfl, _, rfl, _, _, rfl, rfl, _, _, rfl, rfl, _, rfl, ?_⟩
    refine t_no (decide_eq_false (by omega)) ?_
    exact ⟨_, rfl, k H1 x1 hR1⟩
theorem sev_ne (n : Nat) : 1 ≤ (sev n).length := by
  by_cases h : n < 128
  · rw [sev_small h]; simp
  · rw [sev_big h]; simp
theorem joinL_one : ∀ l : List Nat, TL.joinL [] (l.map fun c => [c]) = l
  | [] => rfl
  | [_] => rfl
  | c :: d :: r => by
    show [c] ++ ([] ++ TL.joinL [] ((d :: r).map fun c => [c])) = _
    rw [joinL_one (d :: r)]; rfl
theorem join_one : ∀ l : List Nat, Txt.join "" (l.map fun c => (⟨#[c]⟩ : Str)) = ⟨l.toArray⟩ := by
  intro l
  have e : l.map (fun c => (⟨#[c]⟩ : Str)) = (l.map fun c => [c]).map SX.S := by rw [List.map_map]; rfl
  have e2 : Txt.join "" ((l.map fun c => [c]).map SX.S) = SX.S (TL.joinL [] (l.map fun c => [c])) := SX.join_S [] _
  rw [e, e2]
  rw [joinL_one]
theorem c_Reader_text (T : Txt K mg) : C8.Met P w K mg base 3 (CR K) "text" (spText K) [] := by
  refine met T.c_Reader T.m_Reader_text T.f_Reader_text (N := (["self", "signs", "_", "sign"] : List Str)) (ps := (["self"] : List Str)) (by decide +kernel) (fun _ _ _ _ _ _ us hl => match us, hl with | [_], _ => rfl) (fun vs H Q E h => ?_) (fun cdv A outer s H vs Q E hr h => ?_)
  · obtain ⟨_, _, _, _, _, _, rfl, _⟩ := h; rfl
  · obtain ⟨r, a, bs, i, z, R, rfl, hR, hb, hz, h100, k⟩ := h
    have nd : ((["self", "signs", "_", "sign"] : List Str)).Nodup := by decide +kernel
    refine ⟨_,
      (pss_cons (ps_set (i := 1) nd rfl (by first | exact Or.inl rfl | exact Or.inr rfl) (pe_lst pa_nil))
        (pss_cons (ps_for PassesOwn.never rfl (pi_range1 (by rfl) T.b_range (pa_cons (C8.pe_mt0 (c_Reader_sevens T) hr (by decide) (L2.pv 0)) pa_nil)) (pg_name (i := 2) nd rfl (by first | exact Or.inl rfl | exact Or.inr rfl)) (pss_cons (ps_set (i := 3) nd rfl (by first | exact Or.inl rfl | exact Or.inr rfl) (C8.pe_c (c_sign_of T) hr (by decide) rfl (pa_cons (C8.pe_mt0 (c_Reader_octet T) hr (by decide) (L2.pv 0)) pa_nil)))
        (pss_cons (ps_if (pt_cmpR op_isN (L2.pv 3) pe_non (nomark _)) (pss_one ps_never) pss_nil)
        (pss_one (ps_expr (pe_bm PySem.F.plainAttrs_list PySem.F.slot_list_append PySem.F.type_list_append mt_append (L2.pv 1) (pa_cons (L2.pv 3) pa_nil)))))))
        (pss_one (ps_ret (pe_join pe_str (L2.pv 1))))))
      , ?_⟩
    refine ⟨Nat.zero_le _, fun q hq => ?_⟩
    obtain ⟨dx, hR1⟩ := hR.1
    have rq : r ≠ q := ne_of_none hR1 hq
    have hR' : RdAt K (upd H q (.lst [])) r a bs i := ⟨⟨dx, by rw [upd_ne rq]; exact hR1⟩, (Same.nw hq).seq hR.2⟩
    refine ⟨_, rfl, r, dx, _, rfl, by rw [upd_ne rq]; exact hR1, rfl, r, a, bs, i, z.length, codes z ++ R, rfl, hR', by rw [hb, List.append_assoc], fun H1 x1 hR2 => ?_⟩
    have hcl : (codes z).length = z.length := by simp [codes, Str.length]
    have hq1 : H1 q = some (.lst []) := x1.keep _ _ upd_same rq.symm
    have g1 : Go (fun x => x = r) H (fun x => x = r) H1 := (Go.new hq).trans x1
    refine ⟨_, rfl, by omega, by omega, for_it (walk_range (lo := 0) (n := ((z.length : Nat) : Int).toNat)) (fun j σ H' => Go (fun x => x = r) H (fun x => x = r) H' ∧ RdAt K H' r a bs (i + (sev z.length).length + j) ∧ H' q = some (.lst ((z.cps.toList.take j).map fun c => .str ⟨#[c]⟩)) ∧ ∃ v3 v4, σ = [some (.ref r), some (.ref q), v3, v4])
      ⟨g1, hR2, hq1, none, none, rfl⟩ (fun _ _ _ _ _ => trivial) ?_ ?_⟩
    · rintro j x σ H2 H2' hj ⟨g2, hR3, hl2, v3, v4, rfl⟩ ⟨rfl, rfl⟩
      have hj : j < z.length := by omega
      have hj2 : j < z.cps.toList.length := by rw [Array.length_toList]; exact hj
      obtain ⟨c, hc⟩ : ∃ c, z.cps.toList[j]? = some c := ⟨_, List.getElem?_eq_getElem hj2⟩
      have hok : signOk c = true := List.all_eq_true.mp hz c (List.mem_of_getElem? hc)
      have hbj : bs[i + (sev z.length).length + j]? = some ((c : Nat) : Int) := by
        have e : (bs.drop i)[(sev z.length).length + j]? = some ((c : Nat) : Int) := by
          rw [hb, List.append_assoc, List.getElem?_append_right (by omega), Nat.add_sub_cancel_left, List.getElem?_append_left (by omega)]
          unfold codes
          rw [List.getElem?_map, hc]; rfl
        rw [List.getElem?_drop] at e
        rw [Nat.add_assoc]; exact e
      obtain ⟨dx3, hR4⟩ := hR3.1
      refine ⟨_, rfl, r, dx3, _, rfl, hR4, rfl, r, a, bs, _, _, rfl, hR3, hbj, fun H3 x3 hR5 => ?_⟩
      refine ⟨c, rfl, hok, ?_⟩
      refine ⟨_, rfl, rfl, _, rfl, ?_⟩
      refine iteF ?_
      have hl3 : H3 q = some (.lst ((z.cps.toList.take j).map fun c => .str ⟨#[c]⟩)) := x3.keep _ _ hl2 rq.symm
      refine ⟨_, rfl, .inl ⟨rfl, _, SqL.of hl3⟩, _, rfl, q, _, _, rfl, rfl, hl3, small1000 (by rw [List.length_map, List.length_take]; omega), ?_⟩
      have x4 : Go (fun x => x = r) H (fun x => x = r) (upd H3 q (.lst (((z.cps.toList.take j).map fun c => V.str ⟨#[c]⟩) ++ [.str ⟨#[c]⟩]))) := by
        have g3 := g2.trans x3
        refine ⟨fun b o e n => ?_, fun b hb => .inl hb, fun b xs e => ?_, fun b o u e => ?_, fun b e => ?_⟩
        · rw [upd_ne (ne_of_none e hq)]; exact g3.keep b o e n
        · rw [upd_ne (ne_of_none e hq)]; exact g3.tups b xs e
        · rw [upd_ne (ne_of_none e hq)]; exact g3.frzs b o u e
        · by_cases hbq : b = q
          · rw [hbq]; exact hq
          · rw [upd_ne hbq] at e; exact g3.some_ b e
      obtain ⟨dx5, hR6⟩ := hR5.1
      refine ⟨x4, ⟨⟨dx5, by rw [upd_ne rq]; exact hR6⟩, ?_⟩, ?_, _, _, rfl⟩
      · -- the octets are another list than the signs
        have hA := hR.2
        rcases hA with (e | ⟨o, e⟩) | e
        · have : a ≠ r := ne_of e hR1 (by intro z; cases z)
          exact .inl (.inl (x4.keep _ _ e this))
        · exact .inl (.inr ⟨o, x4.frzs _ _ _ e⟩)
        · exact .inr e
      · rw [upd_same, List.take_succ, hc, List.map_append]; rfl
    · rintro σ H2 ⟨g2, hR3, hl2, v3, v4, rfl⟩
      have e1 : z.cps.toList.take ((z.length : Nat) : Int).toNat = z.cps.toList := List.take_of_length_le (by rw [Array.length_toList, Int.toNat_natCast]; exact Nat.le_refl _)
      rw [e1] at hl2
      refine ⟨⟨_, rfl⟩, _, rfl, "", q, z.cps.toList.map (fun c => (⟨#[c]⟩ : Str)), rfl, rfl, .inl (SqL.of (by rw [hl2, List.map_map]; rfl)), ?_, ?_⟩
      · have e2 : ∀ l : List Nat, ((l.map fun c => (⟨#[c]⟩ : Str)).map (·.length)).sum = l.length := by
          intro l
          induction l with
          | nil => rfl
          | cons c r ih => rw [List.map_cons, List.map_cons, List.sum_cons, ih, List.length_cons]; show 1 + r.length = _; omega
        rw [e2, Array.length_toList]
        have : ("" : Str).length = 0 := by decide +kernel
        rw [this, Nat.mul_zero]
        have hz3 : z.cps.size = z.length := rfl
        omega
      · rw [join_one]
        rw [Int.toNat_natCast] at hR3
        exact k H2 g2 hR3
end
end Ck
/-! W7 -/
set_option maxHeartbeats 4000000
namespace Ck
open PySem PySem.Spec PyProof.Rows L2
/-! ### unpack: open tuples, the innermost first -/
structure Lv where
  t : Addr
  l : Addr
  vs : List V
  dn : List PyData
  rs : List PyData
  op : Nat
def Lv.cnt (L : Lv) : Nat := L.dn.length + L.op + L.rs.length
abbrev pairs (Ls : List Lv) : List (List PyData × List PyData) := Ls.map fun L => (L.dn, L.rs)
def wrap : List (List PyData × List PyData) → List PyData
  | [] => []
  | [(a, b)] => a ++ b
  | (a, b) :: (a', b') :: m => wrap ((a', .tuple (a ++ b) :: b') :: m)
termination_by l => l.length
def remO : List (List PyData × List PyData) → List Int
  | [] => []
  | (_, b) :: m => packL b ++ remO m
theorem wrap_one (a b : List PyData) : wrap [(a, b)] = a ++ b := by rw [wrap]
theorem wrap_two (a b a' b' : List PyData) (m : List (List PyData × List PyData)) : wrap ((a, b) :: (a', b') :: m) = wrap ((a', .tuple (a ++ b) :: b') :: m) := by rw [wrap]
theorem wrap_shift (a b : List PyData) (x : PyData) (m : List (List PyData × List PyData)) : wrap ((a, x :: b) :: m) = wrap ((a ++ [x], b) :: m) := by
  cases m with
  | nil => rw [wrap_one, wrap_one]; simp
  | cons p m => obtain ⟨a', b'⟩ := p; rw [wrap_two, wrap_two]; simp
theorem wrap_push (es a b : List PyData) (m : List (List PyData × List PyData)) : wrap (([], es) :: (a, b) :: m) = wrap ((a, .tuple es :: b) :: m) := by rw [wrap_two]; rfl
theorem wrap_pop (a a' b' : List PyData) (m : List (List PyData × List PyData)) : wrap ((a, []) :: (a', b') :: m) = wrap ((a' ++ [.tuple a], b') :: m) := by
  rw [wrap_two, List.append_nil, wrap_shift]
def depOk : Nat → List Lv → Prop
  | _, [] => True
  | m, L :: M => (∀ x ∈ L.rs, pk m x = true) ∧ depOk (m + 1) M
def wtR (Ls : List Lv) : Nat := (Ls.map fun L => wtL L.rs).sum
structure UI (K : PySem.W.Frag) (H0 : Hp) (d : PyData) (n : Nat) (bs : List Int) (a r ot : Addr) (Ls : List Lv) (H : Hp) : Prop where
  same : Same H0 H
  ots : H ot = some (.lst ((Ls.map fun L => V.ref L.t).reverse))
  at_ : ∀ L ∈ Ls, H L.t = some (.tup [.int (L.cnt : Nat), .ref L.l]) ∧ H L.l = some (.lst L.vs) ∧ Ims K H L.vs L.dn
  nd : (ot :: Ls.map (·.l)).Nodup
  rd : ∃ i, RdAt K H r a bs i ∧ bs.drop i = remO (pairs Ls)
  wr : wrap (pairs Ls) = [d]
  new : H0 ot = none ∧ H0 r = none ∧ ∀ L ∈ Ls, H0 L.l = none
  op : ∃ L M, Ls = L :: M ∧ L.op = 0 ∧ ∀ x ∈ M, x.op = 1
  dep : ∃ m, m + Ls.length = n + 1 ∧ depOk m Ls
  cnt : ∀ L ∈ Ls, L.cnt ≤ 100
  oct : SqL K H0 a (bs.map V.int)
/-- the reader reads on -/
theorem UI.read {K : PySem.W.Frag} {H0 : Hp} {d : PyData} {n : Nat} {bs : List Int} {a r ot : Addr} {Ls : List Lv} {H H' : Hp} (u : UI K H0 d n bs a r ot Ls H) (x : Go (fun x => x = r) H (fun x => x = r) H') :
    Same H0 H' ∧ H' ot = some (.lst ((Ls.map fun L => V.ref L.t).reverse)) ∧ ∀ L ∈ Ls, H' L.t = some (.tup [.int (L.cnt : Nat), .ref L.l]) ∧ H' L.l = some (.lst L.vs) ∧ Ims K H' L.vs L.dn := by
  obtain ⟨i, ⟨⟨dx, hR⟩, hA⟩, _⟩ := u.rd
  refine ⟨fun b o e => x.keep b o (u.same b o e) fun z => ?_, x.keep _ _ u.ots fun z => ?_, fun L hL => ⟨x.tups _ _ (u.at_ L hL).1, x.keep _ _ (u.at_ L hL).2.1 fun z => ?_, (u.at_ L hL).2.2.go x⟩⟩
  · rw [z, u.new.2.1] at e; cases e
  · have e := u.ots; rw [z, hR] at e; cases e
  · have e := (u.at_ L hL).2.1; rw [z, hR] at e; cases e
theorem UI.leaf {K : PySem.W.Frag} {H0 : Hp} {d : PyData} {n : Nat} {bs : List Int} {a r ot : Addr} {L : Lv} {M : List Lv} {H H' : Hp} {x : PyData} {rs : List PyData} {v : V} {i : Nat} (u : UI K H0 d n bs a r ot (L :: M) H) (hx : L.rs = x :: rs) (g : Go (fun x => x = r) H (fun x => x = r) H')
    (hv : Im K H' v x) (hr : RdAt K H' r a bs i) (hd : bs.drop i = packL rs ++ remO (pairs M)) : UI K H0 d n bs a r ot ({ L with vs := L.vs ++ [v], dn := L.dn ++ [x], rs := rs } :: M) (upd H' L.l (.lst (L.vs ++ [v]))) := by
  obtain ⟨s1, o1, t1⟩ := u.read g
  obtain ⟨e1, e2, e3⟩ := t1 L List.mem_cons_self
  have nd := u.nd
  rw [List.map_cons, List.nodup_cons, List.nodup_cons] at nd
  have nl : ot ≠ L.l := fun z => nd.1 (z ▸ List.mem_cons_self)
  have ntl : ∀ X ∈ L :: M, X.t ≠ L.l := fun X hX => ne_of (t1 X hX).1 e2 (by intro z; cases z)
  have x2 : Go (fun x => x = L.l) H' (fun x => x = L.l) (upd H' L.l (.lst (L.vs ++ [v]))) := Go.put rfl e2 trivial
  have hop : L.op = 0 := by obtain ⟨_, _, q1, q2, _⟩ := u.op; injection q1 with q1 _; exact q1 ▸ q2
  have hcnt : ({ L with vs := L.vs ++ [v], dn := L.dn ++ [x], rs := rs } : Lv).cnt = L.cnt := by simp [Lv.cnt, hx]; omega
  refine ⟨s1.mt (u.new.2.2 L List.mem_cons_self), ?_, ?_, by simpa using u.nd, ⟨i, ?_, ?_⟩, ?_, ⟨u.new.1, u.new.2.1, ?_⟩, ?_, ?_, ?_, u.oct⟩
  · rw [upd_ne nl]; simpa using o1
  · intro X hX
    rcases List.mem_cons.mp hX with rfl | hX
    · refine ⟨?_, upd_same, (e3.go x2).append (.cons (hv.go x2) .nil)⟩
      rw [hcnt]; exact (by rw [upd_ne (ntl L List.mem_cons_self)]; exact e1)
    · have hX' := List.mem_cons_of_mem L hX
      obtain ⟨f1, f2, f3⟩ := t1 X hX'
      have nXl : X.l ≠ L.l := fun z => nd.2.1 (z ▸ List.mem_map_of_mem hX)
      exact ⟨by rw [upd_ne (ntl X hX')]; exact f1, by rw [upd_ne nXl]; exact f2, f3.go x2⟩
  · obtain ⟨⟨dx, q1⟩, q2⟩ := hr
    have nr : r ≠ L.l := ne_of q1 e2 (by intro z; cases z)
    exact ⟨⟨dx, by rw [upd_ne nr]; exact q1⟩, (s1.mt (u.new.2.2 L List.mem_cons_self)).seq u.oct⟩
  · simp only [List.map_cons, remO]; exact hd
  · have w := u.wr
    simp only [List.map_cons, hx] at w ⊢
    rw [wrap_shift] at w; exact w
  · intro X hX
    rcases List.mem_cons.mp hX with rfl | hX
    · exact u.new.2.2 L List.mem_cons_self
    · exact u.new.2.2 X (List.mem_cons_of_mem _ hX)
  · obtain ⟨L', M', q1, q2, q3⟩ := u.op
    injection q1 with q1 q4
    subst q1 q4
    exact ⟨_, _, rfl, q2, q3⟩
  · obtain ⟨m, q1, q2, q3⟩ := u.dep
    exact ⟨m, by simpa using q1, fun y hy => q2 y (by rw [hx]; exact List.mem_cons_of_mem _ hy), q3⟩
  · intro X hX
    rcases List.mem_cons.mp hX with rfl | hX
    · rw [hcnt]; exact u.cnt L List.mem_cons_self
    · exact u.cnt X (List.mem_cons_of_mem _ hX)
theorem UI.push {K : PySem.W.Frag} {H0 : Hp} {d : PyData} {n : Nat} {bs : List Int} {a r ot : Addr} {L : Lv} {M : List Lv} {H H' : Hp} {es rs : List PyData} {i : Nat} {l2 t2 : Addr} (u : UI K H0 d n bs a r ot (L :: M) H) (hx : L.rs = .tuple es :: rs) (g : Go (fun x => x = r) H (fun x => x = r) H')
    (hr : RdAt K H' r a bs i) (hd : bs.drop i = packL es ++ (packL rs ++ remO (pairs M))) (n1 : H' l2 = none) (n2 : upd H' l2 (.lst []) t2 = none) :
    UI K H0 d n bs a r ot (⟨t2, l2, [], [], es, 0⟩ :: { L with rs := rs, op := 1 } :: M) (upd (upd (upd H' l2 (.lst [])) t2 (.tup [.int (es.length : Nat), .ref l2])) ot (.lst ((((L :: M).map fun L => V.ref L.t).reverse) ++ [.ref t2]))) := by
  obtain ⟨s1, o1, t1⟩ := u.read g
  have lt : l2 ≠ t2 := ne_of_none upd_same n2
  have n2' : H' t2 = none := (Same.nw n1).back n2
  have e1 : Same H' (upd (upd H' l2 (.lst [])) t2 (.tup [.int (es.length : Nat), .ref l2])) := (Same.nw n1).trans (Same.nw n2)
  have hl2 : (upd (upd H' l2 (.lst [])) t2 (.tup [.int (es.length : Nat), .ref l2])) l2 = some (.lst []) := by rw [upd_ne lt]; exact upd_same
  have ht2 : (upd (upd H' l2 (.lst [])) t2 (.tup [.int (es.length : Nat), .ref l2])) t2 = some (.tup [.int (es.length : Nat), .ref l2]) := upd_same
  have s2 := s1.trans e1
  have o2 := e1 _ _ o1
  have t2s : ∀ X ∈ L :: M, (upd (upd H' l2 (.lst [])) t2 (.tup [.int (es.length : Nat), .ref l2])) X.t = some (.tup [.int (X.cnt : Nat), .ref X.l]) ∧ (upd (upd H' l2 (.lst [])) t2 (.tup [.int (es.length : Nat), .ref l2])) X.l = some (.lst X.vs) ∧ Ims K (upd (upd H' l2 (.lst [])) t2 (.tup [.int (es.length : Nat), .ref l2])) X.vs X.dn :=
    fun X hX => ⟨e1 _ _ (t1 X hX).1, e1 _ _ (t1 X hX).2.1, (t1 X hX).2.2.go (Go.same (F := No) e1)⟩
  have hr2 : RdAt K (upd (upd H' l2 (.lst [])) t2 (.tup [.int (es.length : Nat), .ref l2])) r a bs i := ⟨hr.1.elim fun dx q => ⟨dx, e1 _ _ q⟩, e1.seq hr.2⟩
  have fl : H0 l2 = none := s1.back n1
  have nl2 : ∀ X ∈ L :: M, X.l ≠ l2 := fun X hX => ne_of_none (t1 X hX).2.1 n1
  have nol2 : ot ≠ l2 := ne_of_none o1 n1
  generalize upd (upd H' l2 (.lst [])) t2 (.tup [.int (es.length : Nat), .ref l2]) = H3 at s2 o2 t2s hl2 ht2 hr2 ⊢
  have x3 : Go (fun x => x = ot) H3 (fun x => x = ot) (upd H3 ot (.lst ((((L :: M).map fun L => V.ref L.t).reverse) ++ [.ref t2]))) := Go.put rfl o2 trivial
  have nd := u.nd
  rw [List.nodup_cons] at nd
  have not_ : ∀ X ∈ L :: M, X.l ≠ ot := fun X hX z => nd.1 (z ▸ List.mem_map_of_mem hX)
  have ntt : ∀ X ∈ L :: M, X.t ≠ ot := fun X hX => ne_of (t2s X hX).1 o2 (by intro z; cases z)
  have hop : L.op = 0 := by obtain ⟨_, _, q1, q2, _⟩ := u.op; injection q1 with q1 _; exact q1 ▸ q2
  have hcnt : ({ L with rs := rs, op := 1 } : Lv).cnt = L.cnt := by simp [Lv.cnt, hx, hop]; omega
  refine ⟨s2.mt u.new.1, ?_, ?_, ?_, ⟨i, ?_, ?_⟩, ?_, ⟨u.new.1, u.new.2.1, ?_⟩, ⟨_, _, rfl, rfl, ?_⟩, ?_, ?_, u.oct⟩
  · rw [upd_same]; simp
  · intro X hX
    rcases List.mem_cons.mp hX with rfl | hX
    · refine ⟨?_, ?_, .nil⟩
      · rw [upd_ne (ne_of ht2 o2 (by intro z; cases z))]; simpa [Lv.cnt] using ht2
      · rw [upd_ne nol2.symm]; exact hl2
    rcases List.mem_cons.mp hX with rfl | hX
    · obtain ⟨f1, f2, f3⟩ := t2s L List.mem_cons_self
      refine ⟨?_, ?_, f3.go x3⟩
      · rw [hcnt]; exact (by rw [upd_ne (ntt L List.mem_cons_self)]; exact f1)
      · exact (by rw [upd_ne (not_ L List.mem_cons_self)]; exact f2)
    · have hX' := List.mem_cons_of_mem L hX
      obtain ⟨f1, f2, f3⟩ := t2s X hX'
      exact ⟨by rw [upd_ne (ntt X hX')]; exact f1, by rw [upd_ne (not_ X hX')]; exact f2, f3.go x3⟩
  · simp only [List.map_cons, List.nodup_cons, List.mem_cons, not_or] at u ⊢
    have q := u.nd
    simp only [List.map_cons, List.nodup_cons, List.mem_cons, not_or] at q
    refine ⟨⟨nol2, q.1.1, q.1.2⟩, ⟨(nl2 L List.mem_cons_self).symm, ?_⟩, q.2⟩
    intro z
    obtain ⟨X, hX, e⟩ := List.mem_map.mp z
    exact nl2 X (List.mem_cons_of_mem _ hX) e
  · obtain ⟨⟨dx, q1⟩, q2⟩ := hr2
    exact ⟨⟨dx, by rw [upd_ne (ne_of q1 o2 (by intro z; cases z))]; exact q1⟩, (s2.mt u.new.1).seq u.oct⟩
  · simp only [List.map_cons, remO]; exact hd
  · have w := u.wr
    simp only [List.map_cons, hx] at w ⊢
    rw [wrap_push]; exact w
  · intro X hX
    rcases List.mem_cons.mp hX with rfl | hX
    · exact fl
    rcases List.mem_cons.mp hX with rfl | hX
    · exact u.new.2.2 L List.mem_cons_self
    · exact u.new.2.2 X (List.mem_cons_of_mem _ hX)
  · intro X hX
    rcases List.mem_cons.mp hX with rfl | hX
    · rfl
    · obtain ⟨L', M', q1, q2, q3⟩ := u.op
      injection q1 with q1 q4
      subst q1 q4
      exact q3 X hX
  · obtain ⟨m, q1, q2, q3⟩ := u.dep
    have h1 := q2 (.tuple es) (by rw [hx]; exact List.mem_cons_self)
    cases m with
    | zero => exact nomatch h1
    | succ m =>
      have h1 : (es.all (pk m) && decide (es.length ≤ 100)) = true := h1
      rw [Bool.and_eq_true] at h1
      refine ⟨m, by simp at q1 ⊢; omega, fun y hy => List.all_eq_true.mp h1.1 y hy, fun y hy => q2 y (by rw [hx]; exact List.mem_cons_of_mem _ hy), q3⟩
  · intro X hX
    rcases List.mem_cons.mp hX with rfl | hX
    · obtain ⟨m, q1, q2, q3⟩ := u.dep
      have h1 := q2 (.tuple es) (by rw [hx]; exact List.mem_cons_self)
      have := (Pk.tup ⟨m, h1⟩).2
      simpa [Lv.cnt] using this
    rcases List.mem_cons.mp hX with rfl | hX
    · rw [hcnt]; exact u.cnt L List.mem_cons_self
    · exact u.cnt X (List.mem_cons_of_mem _ hX)
theorem UI.pop {K : PySem.W.Frag} {H0 : Hp} {d : PyData} {n : Nat} {bs : List Int} {a r ot : Addr} {L L2 : Lv} {M : List Lv} {H : Hp} {b : Addr} (u : UI K H0 d n bs a r ot (L :: L2 :: M) H) (hx : L.rs = []) (nb : upd H ot (.lst (((L2 :: M).map fun L => V.ref L.t).reverse)) b = none) :
    UI K H0 d n bs a r ot ({ L2 with vs := L2.vs ++ [.ref b], dn := L2.dn ++ [.tuple L.dn], op := 0 } :: M) (upd (upd (upd H ot (.lst (((L2 :: M).map fun L => V.ref L.t).reverse))) b (.tup L.vs)) L2.l (.lst (L2.vs ++ [.ref b]))) := by
  have x1 : Go (fun x => x = ot) H (fun x => x = ot) (upd H ot (.lst (((L2 :: M).map fun L => V.ref L.t).reverse))) := Go.put rfl u.ots trivial
  have x2 : Go (fun x => x = ot) (upd H ot (.lst (((L2 :: M).map fun L => V.ref L.t).reverse))) (fun x => x = ot) (upd (upd H ot (.lst (((L2 :: M).map fun L => V.ref L.t).reverse))) b (.tup L.vs)) := Go.new nb
  have g := x1.trans x2
  have nd := u.nd
  rw [List.nodup_cons] at nd
  have not_ : ∀ X ∈ L :: L2 :: M, X.l ≠ ot := fun X hX z => nd.1 (z ▸ List.mem_map_of_mem hX)
  have ntt : ∀ X ∈ L :: L2 :: M, X.t ≠ ot := fun X hX => ne_of (u.at_ X hX).1 u.ots (by intro z; cases z)
  have t1 : ∀ X ∈ L :: L2 :: M, (upd (upd H ot (.lst (((L2 :: M).map fun L => V.ref L.t).reverse))) b (.tup L.vs)) X.t = some (.tup [.int (X.cnt : Nat), .ref X.l]) ∧ (upd (upd H ot (.lst (((L2 :: M).map fun L => V.ref L.t).reverse))) b (.tup L.vs)) X.l = some (.lst X.vs) ∧ Ims K (upd (upd H ot (.lst (((L2 :: M).map fun L => V.ref L.t).reverse))) b (.tup L.vs)) X.vs X.dn :=
    fun X hX => ⟨g.tups _ _ (u.at_ X hX).1, g.keep _ _ (u.at_ X hX).2.1 (not_ X hX), (u.at_ X hX).2.2.go g⟩
  have s1 : Same H0 (upd (upd H ot (.lst (((L2 :: M).map fun L => V.ref L.t).reverse))) b (.tup L.vs)) := (u.same.mt u.new.1).trans (Same.nw nb)
  have o1 : (upd (upd H ot (.lst (((L2 :: M).map fun L => V.ref L.t).reverse))) b (.tup L.vs)) ot = some (.lst (((L2 :: M).map fun L => V.ref L.t).reverse)) := by
    rw [upd_ne (ne_of_none upd_same nb)]; exact upd_same
  have b1 : (upd (upd H ot (.lst (((L2 :: M).map fun L => V.ref L.t).reverse))) b (.tup L.vs)) b = some (.tup L.vs) := upd_same
  obtain ⟨i, ⟨⟨dx, hR⟩, hA⟩, hd⟩ := u.rd
  have r1 := g.keep _ _ hR (ne_of hR u.ots (by intro z; cases z))
  generalize upd (upd H ot (.lst (((L2 :: M).map fun L => V.ref L.t).reverse))) b (.tup L.vs) = H3 at g t1 s1 o1 b1 r1 ⊢
  have m2 : L2 ∈ L :: L2 :: M := List.mem_cons_of_mem _ List.mem_cons_self
  obtain ⟨e1, e2, e3⟩ := t1 L2 m2
  have x3 : Go (fun x => x = L2.l) H3 (fun x => x = L2.l) (upd H3 L2.l (.lst (L2.vs ++ [.ref b]))) := Go.put rfl e2 trivial
  have ntl : ∀ X ∈ L :: L2 :: M, X.t ≠ L2.l := fun X hX => ne_of (t1 X hX).1 e2 (by intro z; cases z)
  have hop : L2.op = 1 := by obtain ⟨_, _, q1, _, q3⟩ := u.op; injection q1 with _ q4; exact q3 L2 (q4 ▸ List.mem_cons_self)
  have hcnt : ({ L2 with vs := L2.vs ++ [.ref b], dn := L2.dn ++ [.tuple L.dn], op := 0 } : Lv).cnt = L2.cnt := by simp [Lv.cnt, hop]
  have q := u.nd
  simp only [List.map_cons, List.nodup_cons, List.mem_cons, not_or] at q
  refine ⟨s1.mt (u.new.2.2 L2 m2), ?_, ?_, ?_, ⟨i, ?_, ?_⟩, ?_, ⟨u.new.1, u.new.2.1, ?_⟩, ⟨_, _, rfl, rfl, ?_⟩, ?_, ?_, u.oct⟩
  · rw [upd_ne (not_ L2 m2).symm]; simpa using o1
  · intro X hX
    rcases List.mem_cons.mp hX with rfl | hX
    · refine ⟨?_, upd_same, (e3.go x3).append (.cons (Im.tup (SqT.of (x3.tups _ _ b1)) ((t1 L List.mem_cons_self).2.2.go x3)) .nil)⟩
      rw [hcnt]; exact (by rw [upd_ne (ntl L2 m2)]; exact e1)
    · have hX' : X ∈ L :: L2 :: M := List.mem_cons_of_mem L (List.mem_cons_of_mem _ hX)
      obtain ⟨f1, f2, f3⟩ := t1 X hX'
      have nXl : X.l ≠ L2.l := fun z => q.2.2.1 (z ▸ List.mem_map_of_mem hX)
      exact ⟨by rw [upd_ne (ntl X hX')]; exact f1, by rw [upd_ne nXl]; exact f2, f3.go x3⟩
  · simp only [List.map_cons, List.nodup_cons, List.mem_cons, not_or]
    exact ⟨⟨q.1.2.1, q.1.2.2⟩, q.2.2⟩
  · exact ⟨⟨dx, by rw [upd_ne (ne_of r1 e2 (by intro z; cases z))]; exact r1⟩, (s1.mt (u.new.2.2 L2 m2)).seq u.oct⟩
  · simp only [List.map_cons, remO, hx, packL, List.nil_append] at hd ⊢; exact hd
  · have w := u.wr
    simp only [List.map_cons, hx] at w ⊢
    rw [wrap_pop] at w; exact w
  · intro X hX
    rcases List.mem_cons.mp hX with rfl | hX
    · exact u.new.2.2 L2 m2
    · exact u.new.2.2 X (List.mem_cons_of_mem _ (List.mem_cons_of_mem _ hX))
  · intro X hX
    obtain ⟨L', M', q1, q2, q3⟩ := u.op
    injection q1 with q1 q4
    subst q1 q4
    exact q3 X (List.mem_cons_of_mem _ hX)
  · obtain ⟨m, q1, q2, q3, q4⟩ := u.dep
    exact ⟨m + 1, by simp at q1 ⊢; omega, q3, q4⟩
  · intro X hX
    rcases List.mem_cons.mp hX with rfl | hX
    · rw [hcnt]; exact u.cnt L2 m2
    · exact u.cnt X (List.mem_cons_of_mem _ (List.mem_cons_of_mem _ hX))
def leaf : PyData → Bool
  | .none => true
  | .int _ => true
  | .str _ => true
  | _ => false
def spPlain (K : PySem.W.Frag) : Sp := fun vs H Q _ => ∃ (r a : Addr) (bs : List Int) (i : Nat) (d : PyData) (mk : Int) (body R : List Int), vs = [.ref r, .int mk] ∧ RdAt K H r a bs i ∧ leaf d = true ∧ Pk d ∧ packD d = mk :: body ∧ bs.drop i = body ++ R ∧
  ∀ v H', Go (fun x => x = r) H (fun x => x = r) H' → RdAt K H' r a bs (i + body.length) → Im K H' v d → Q v H'
def spUnpack (K : PySem.W.Frag) : Sp := fun vs H Q _ => ∃ (a : Addr) (d : PyData) (n : Nat), vs = [.ref a] ∧ SqL K H a ((packD d).map V.int) ∧ pk n d = true ∧ n ≤ 30 ∧ ∀ v H', Same H H' → Im K H' v d → Q v H'
theorem tt_true {t : TT} {σ : L2.St} {H : Hp} {Q : Bool → Hp → Prop} {b : Bool} (h : ∀ Q' : Bool → Hp → Prop, Q' b H → t σ H Q') (q : Q b H) : t σ H Q := h Q q
section
variable {P : Program} {w : World} {K : PySem.W.Frag} {mg : Str → Option Value} {base : Heap}
theorem c_Reader_plain (T : Txt K mg) : C8.Met P w K mg base 4 (CR K) "plain" (spPlain K) [] := by
  refine met T.c_Reader T.m_Reader_plain T.f_Reader_plain (N := (["self", "mark"] : List Str)) (ps := (["self", "mark"] : List Str)) (by decide +kernel) (fun _ _ _ _ _ _ us hl => match us, hl with | [_, _], _ => rfl) (fun vs H Q E h => ?_) (fun cdv A outer s H vs Q E hr h => ?_)
  · obtain ⟨_, _, _, _, _, _, _, _, rfl, _⟩ := h; rfl
  · obtain ⟨r, a, bs, i, d, mk, body, R, rfl, hR, hlf, hpk, hb, hd, k⟩ := h
    refine ⟨_,
      (pss_cons (ps_if (pt_cmpR op_eq (L2.pv 1) (C8.pe_gc rfl (gi T.v_NOTHING)) (nomark _)) (pss_one (ps_ret pe_non)) pss_nil)
        (pss_cons (ps_if (pt_cmpR op_eq (L2.pv 1) (C8.pe_gc rfl (gi T.v_WHOLE)) (nomark _)) (pss_one (ps_ret (C8.pe_mt (c_Reader_number T) hr (by decide) (L2.pv 0) (pa_cons pe_int pa_nil)))) pss_nil)
        (pss_cons (ps_if (pt_cmpR op_eq (L2.pv 1) (C8.pe_gc rfl (gi T.v_BELOW)) (nomark _)) (pss_one (ps_ret (pe_op op_sub (pe_un un_neg (C8.pe_mt (c_Reader_number T) hr (by decide) (L2.pv 0) (pa_cons pe_int pa_nil))) pe_int))) pss_nil)
        (pss_cons (ps_if (pt_cmpR op_eq (L2.pv 1) (C8.pe_gc rfl (gi T.v_TEXT)) (nomark _)) (pss_one (ps_ret (C8.pe_mt0 (c_Reader_text T) hr (by decide) (L2.pv 0)))) pss_nil)
        (pss_one ps_never)))))
      , ?_⟩
    obtain ⟨dx, hR1⟩ := hR.1
    refine ⟨_, rfl, rfl, _, rfl, ?_⟩
    cases d with
    | none =>
      rw [packD, List.cons.injEq] at hb
      obtain ⟨rfl, rfl⟩ := hb
      refine iteT ?_
      exact k .non H (Go.refl H) hR .non
    | int z =>
      rw [packD, List.cons.injEq] at hb
      obtain ⟨rfl, rfl⟩ := hb
      obtain ⟨z0, z18⟩ := hpk.int
      obtain ⟨n, rfl⟩ : ∃ n : Nat, z = n := ⟨z.toNat, by omega⟩
      refine iteF ?_
      refine ⟨_, rfl, rfl, _, rfl, ?_⟩
      refine iteT ?_
      exact ⟨_, rfl, r, dx, _, rfl, hR1, rfl, r, a, bs, i, n, R, rfl, hR, hd, by omega, fun H1 x1 hR2 => k _ H1 x1 hR2 (.int _)⟩
    | str z =>
      rw [packD, List.cons.injEq] at hb
      obtain ⟨rfl, rfl⟩ := hb
      obtain ⟨z0, z100⟩ := hpk.str
      have hcl : (codes z).length = z.length := by simp [codes, Str.length]
      refine iteF ?_
      refine ⟨_, rfl, rfl, _, rfl, ?_⟩
      refine iteF ?_
      refine ⟨_, rfl, rfl, _, rfl, ?_⟩
      refine iteF ?_
      refine ⟨_, rfl, rfl, _, rfl, ?_⟩
      refine iteT ?_
      exact ⟨_, rfl, r, dx, _, rfl, hR1, rfl, r, a, bs, i, z, R, rfl, hR, hd, z0, z100, fun H1 x1 hR2 => k _ H1 x1 (by rw [List.length_append, hcl, ← Nat.add_assoc]; exact hR2) (.str _)⟩
    | _ => exact nomatch hlf
theorem c_unpack (T : Txt K mg) : C8.Cal P w K mg base 5 "unpack" (spUnpack K) [] := by
  refine cal T.f_unpack T.g_unpack (N := (["octets", "reader", "open_tuples", "mark", "items"] : List Str)) (ps := (["octets"] : List Str)) (by decide +kernel) (fun _ _ _ _ _ _ us hl => match us, hl with | [_], _ => rfl) (fun vs H Q E h => ?_) (fun cdv A outer s H vs Q E hr h => ?_)
  · obtain ⟨_, _, _, rfl, _⟩ := h; rfl
  · obtain ⟨a, d, n, rfl, hA, hpk, hn, k⟩ := h
    have nd : ((["octets", "reader", "open_tuples", "mark", "items"] : List Str)).Nodup := by decide +kernel
    refine ⟨_,
      (pss_cons (ps_set (i := 1) nd rfl (by first | exact Or.inl rfl | exact Or.inr rfl) (C8.pe_mk (c_Reader_init T) hr (by decide) rfl (pa_cons (L2.pv 0) pa_nil)))
        (pss_cons (ps_set (i := 2) nd rfl (by first | exact Or.inl rfl | exact Or.inr rfl) (pe_lst (pa_cons (pe_tup (pa_cons pe_int (pa_cons (pe_lst pa_nil) pa_nil))) pa_nil)))
        (pss_cons (ps_while PassesOwn.never (PW.pt (pw_or (pt_cmpR op_gt (pe_callB call_len_seq (by rfl) T.b_len PySem.boot_len (pa_cons (L2.pv 2) pa_nil)) pe_int (nomark _)) (pw_or1 (pt_cmpR op_eq (pe_callB call_len_seq (by rfl) T.b_len PySem.boot_len (pa_cons (pe_ix ix_tup (pe_ix ix_list (L2.pv 2) pe_int (fun _ _ => rfl)) pe_int (fun _ _ => rfl)) pa_nil)) pe_int (nomark _))))) (pss_cons (ps_set (i := 3) nd rfl (by first | exact Or.inl rfl | exact Or.inr rfl) (C8.pe_mt0 (c_Reader_octet T) hr (by decide) (L2.pv 1)))
        (C8.pss_cut (ps_if (pt_cmpR op_eq (L2.pv 3) (C8.pe_gc rfl (gi T.v_TUPLE)) (nomark _)) (pss_cons (ps_if (pt_cmpR op_gt (pe_callB call_len_seq (by rfl) T.b_len PySem.boot_len (pa_cons (L2.pv 2) pa_nil)) (C8.pe_gc rfl (gi T.v_MOST_DEPTH)) (nomark _)) (pss_one ps_never) pss_nil)
        (pss_one (ps_expr (pe_bm PySem.F.plainAttrs_list PySem.F.slot_list_append PySem.F.type_list_append mt_append (L2.pv 2) (pa_cons (pe_tup (pa_cons (C8.pe_mt0 (c_Reader_sevens T) hr (by decide) (L2.pv 1)) (pa_cons (pe_lst pa_nil) pa_nil))) pa_nil))))) (pss_one (ps_expr (pe_bm PySem.F.plainAttrs_list PySem.F.slot_list_append PySem.F.type_list_append mt_append (pe_ix ix_tup (pe_ix ix_list (L2.pv 2) (pe_un un_neg pe_int) (fun _ _ => rfl)) pe_int (fun _ _ => rfl)) (pa_cons (C8.pe_mt (c_Reader_plain T) hr (by decide) (L2.pv 1) (pa_cons (L2.pv 3) pa_nil)) pa_nil)))))
        (pss_one (ps_while PassesOwn.never (PW.pt (pw_and (pt_cmpR op_gt (pe_callB call_len_seq (by rfl) T.b_len PySem.boot_len (pa_cons (L2.pv 2) pa_nil)) pe_int (nomark _)) (pw_and1 (pt_cmpR op_eq (pe_callB call_len_seq (by rfl) T.b_len PySem.boot_len (pa_cons (pe_ix ix_tup (pe_ix ix_list (L2.pv 2) (pe_un un_neg pe_int) (fun _ _ => rfl)) pe_int (fun _ _ => rfl)) pa_nil)) (pe_ix ix_tup (pe_ix ix_list (L2.pv 2) (pe_un un_neg pe_int) (fun _ _ => rfl)) pe_int (fun _ _ => rfl)) (nomark _))))) (pss_cons (ps_set (i := 4) nd rfl (by first | exact Or.inl rfl | exact Or.inr rfl) (pe_ix ix_tup (pe_bm0 PySem.F.plainAttrs_list PySem.F.slot_list_pop PySem.F.type_list_pop mt_pop (L2.pv 2)) pe_int (fun _ _ => rfl)))
        (pss_one (ps_expr (pe_bm PySem.F.plainAttrs_list PySem.F.slot_list_append PySem.F.type_list_append mt_append (pe_ix ix_tup (pe_ix ix_list (L2.pv 2) (pe_un un_neg pe_int) (fun _ _ => rfl)) pe_int (fun _ _ => rfl)) (pa_cons (pe_callTy call_tuple_of (by rfl) T.b_tuple bt_tuple (pa_cons (L2.pv 4) pa_nil)) pa_nil))))))))))
        (pss_cons (ps_if (pt_cmpR op_lt (pe_fld (L2.pv 1) rfl) (pe_callB call_len_seq (by rfl) T.b_len PySem.boot_len (pa_cons (L2.pv 0) pa_nil)) (nomark _)) (pss_one ps_never) pss_nil)
        (pss_one (ps_ret (pe_ix ix_list (pe_ix ix_tup (pe_ix ix_list (L2.pv 2) pe_int (fun _ _ => rfl)) pe_int (fun _ _ => rfl)) pe_int (fun _ _ => rfl))))))))
      , ?_⟩
    generalize hbs : packD d = bs at hA
    -- reader = Reader(octets)
    refine ⟨_, rfl, fun r dx nr ndx ner => ?_⟩
    have s0 : Same H (upd (upd H dx (.own r)) r (.ins (CR K) dx [])) := fun b o e => by rw [upd_ne (ne_of_none e nr), upd_ne (ne_of_none e ndx)]; exact e
    refine ⟨r, a, dx, bs, rfl, upd_same, s0.seq hA, fun H1 x1 hR => ⟨rfl, ?_⟩⟩
    have s1 : Same H H1 := fun b o e => x1.keep b o (s0 b o e) (ne_of_none e nr)
    -- open_tuples = [(1, [])]
    refine ⟨Nat.zero_le _, fun l hl => ?_⟩
    refine ⟨by show 2 ≤ sizeLine; decide, fun t ht => ?_⟩
    refine ⟨by show 1 ≤ sizeLine; decide, fun ot hot => ?_⟩
    have e1 : Same H1 (upd (upd (upd H1 l (.lst [])) t (.tup [.int 1, .ref l])) ot (.lst [.ref t])) := ((Same.nw hl).trans (Same.nw ht)).trans (Same.nw hot)
    have lt : l ≠ t := ne_of_none upd_same ht
    have tot : t ≠ ot := ne_of_none upd_same hot
    have lot : l ≠ ot := ne_of_none (by rw [upd_ne lt]; exact upd_same) hot
    have hot0 : H1 ot = none := (((Same.nw hl).trans (Same.nw ht))).back hot
    have i0 : UI K H d n bs a r ot [⟨t, l, [], [], [d], 0⟩] (upd (upd (upd H1 l (.lst [])) t (.tup [.int 1, .ref l])) ot (.lst [.ref t])) := by
      refine ⟨s1.trans e1, upd_same, fun L hL => ?_, by simpa using lot.symm, ⟨0, ?_, ?_⟩, by simp [wrap_one], ⟨s1.back hot0, nr, fun L hL => ?_⟩, ⟨_, _, rfl, rfl, by simp⟩, ⟨n, by simp, by simp [depOk, hpk]⟩, fun L hL => ?_, hA⟩
      · obtain rfl : L = _ := by simpa using hL
        exact ⟨by rw [upd_ne tot, upd_same]; rfl, by rw [upd_ne lot, upd_ne lt, upd_same], .nil⟩
      · obtain ⟨⟨dy, q1⟩, q2⟩ := hR
        exact ⟨⟨dy, e1 _ _ q1⟩, e1.seq q2⟩
      · simp [remO, packL, hbs]
      · obtain rfl : L = _ := by simpa using hL
        exact s1.back hl
      · obtain rfl : L = _ := by simpa using hL
        simp [Lv.cnt]
    generalize upd (upd (upd H1 l (.lst [])) t (.tup [.int 1, .ref l])) ot (.lst [.ref t]) = H2 at i0 e1 ⊢
    have h100 : ∀ n, n ≤ 1000 → n < sizeLine := fun n h => small1000 h
    refine ⟨fun m σ H' => ∃ (Ls : List Lv) (v3 v4 : Option V), m = wtR Ls ∧ σ = [some (.ref a), some (.ref r), some (.ref ot), v3, v4] ∧ UI K H d n bs a r ot Ls H' ∧ ∀ L M, Ls = L :: M → M ≠ [] → L.rs ≠ [],
      ⟨_, _, none, none, rfl, rfl, i0, fun L M e z => by injection e with _ e; exact absurd e.symm z⟩, ?_⟩
    rintro m σ H3 ⟨Ls, v3, v4, rfl, rfl, u, hA2⟩
    obtain ⟨L, M, rfl, hop, hop1⟩ := u.op
    obtain ⟨e1', e2', e3'⟩ := u.at_ L List.mem_cons_self
    have hdl : L.vs.length = L.dn.length := e3'.length
    have len2 : (((L :: M).map fun L => V.ref L.t).reverse).length = M.length + 1 := by simp
    cases hrs : L.rs with
    | nil =>
      have hM : M = [] := by
        cases M with
        | nil => rfl
        | cons L2 M => exact absurd hrs (hA2 L _ rfl (by simp))
      subst hM
      have hw := u.wr
      simp only [List.map_cons, List.map_nil, hrs, wrap_one, List.append_nil] at hw
      obtain ⟨i, hRd, hdr⟩ := u.rd
      simp only [List.map_cons, List.map_nil, hrs, remO, packL, List.append_nil] at hdr
      rw [hw] at e3' hdl
      -- the test fails
      refine ⟨_, rfl, ot, _, rfl, .inl (SqL.of u.ots), _, _, rfl, rfl, _, rfl, ?_⟩
      refine t_no (decide_eq_false (by simp)) ?_
      refine ⟨_, rfl, ot, _, _, _, rfl, rfl, SqL.of u.ots, at_of (j := 0) rfl rfl, L.t, _, _, _, rfl, rfl, SqT.of e1', at_of (j := 1) rfl rfl, L.l, _, rfl, .inl (SqL.of e2'), rfl, _, rfl, ?_⟩
      refine t_no (decide_eq_false (by rw [hdl]; intro z; cases z)) ?_
      -- if reader.at < len(octets)
      obtain ⟨dy, hR3⟩ := hRd.1
      refine ⟨_, rfl, r, _, dy, _, _, rfl, hR3, T.c_Reader, T.n_Reader_at, rfl, _, rfl, a, _, rfl, .inl hRd.2, _, _, rfl, rfl, _, rfl, ?_⟩
      have hlen : bs.length ≤ i := by
        have := congrArg List.length hdr
        rw [List.length_drop, List.length_nil] at this
        omega
      refine t_no (decide_eq_false (by rw [List.length_map]; omega)) ?_
      cases hv : L.vs with
      | nil => rw [hv] at hdl; cases hdl
      | cons v vr =>
        rw [hv] at e3' e2'
        cases e3' with
        | cons hd1 hd2 =>
          refine ⟨_, rfl, ot, _, _, _, rfl, rfl, SqL.of u.ots, at_of (j := 0) rfl rfl, L.t, _, _, _, rfl, rfl, SqT.of e1', at_of (j := 1) rfl rfl, L.l, _, _, _, rfl, rfl, SqL.of e2', at_of (j := 0) rfl rfl, ?_⟩
          exact k v H3 u.same hd1
    | cons x rs =>
      refine tt_true (b := true) (fun Q' q' => ?_) ?_
      · refine ⟨_, rfl, ot, _, rfl, .inl (SqL.of u.ots), _, _, rfl, rfl, _, rfl, ?_⟩
        cases hM : M with
        | cons L2 M2 =>
          refine t_yes (decide_eq_true (by simp; omega)) q'
        | nil =>
          subst hM
          refine t_no (decide_eq_false (by simp)) ?_
          refine ⟨_, rfl, ot, _, _, _, rfl, rfl, SqL.of u.ots, at_of (j := 0) rfl rfl, L.t, _, _, _, rfl, rfl, SqT.of e1', at_of (j := 1) rfl rfl, L.l, _, rfl, .inl (SqL.of e2'), rfl, _, rfl, ?_⟩
          have hw := u.wr
          simp only [List.map_cons, List.map_nil, hrs, wrap_one] at hw
          have hdn : L.dn = [] := by
            cases hz : L.dn with
            | nil => rfl
            | cons y z =>
              rw [hz] at hw
              have := congrArg List.length hw
              simp at this
          have e0 : L.vs.length = 0 := by rw [hdl, hdn]; rfl
          rw [e0]
          exact q'
      refine iteT ?_
      refine ⟨_, fun _ _ z => z, ?_⟩
      obtain ⟨i, hRd, hdr⟩ := u.rd
      obtain ⟨dy, hR3⟩ := hRd.1
      simp only [List.map_cons, hrs, remO, packL, List.append_assoc] at hdr
      obtain ⟨dm, dm1, dm2, dm3⟩ := u.dep
      have hpx : pk dm x = true := dm2 x (by rw [hrs]; exact List.mem_cons_self)
      obtain ⟨mk, body, hpb⟩ : ∃ mk body, packD x = mk :: body := by
        cases x with
        | none => exact ⟨_, _, by rw [packD]⟩
        | int z => exact ⟨_, _, by rw [packD]⟩
        | str z => exact ⟨_, _, by rw [packD]⟩
        | tuple z => exact ⟨_, _, by rw [packD]⟩
        | _ => cases dm <;> exact nomatch hpx
      rw [hpb, List.cons_append] at hdr
      obtain ⟨hb1, hb2⟩ := drop_at hdr
      -- mark = reader.octet()
      refine ⟨_, rfl, r, dy, _, rfl, hR3, rfl, r, a, bs, i, mk, rfl, hRd, hb1, fun H4 x4 hR4 => ?_⟩
      obtain ⟨s4, o4, t4⟩ := u.read x4
      obtain ⟨dz, hR5⟩ := hR4.1
      obtain ⟨f1, f2, f3⟩ := t4 L List.mem_cons_self
      have o4' : H4 ot = some (.lst ((M.map fun L => V.ref L.t).reverse ++ [.ref L.t])) := by rw [o4]; simp
      refine ⟨fun σ' H' => ∃ (Ls' : List Lv) (v3 v4 : Option V), σ' = [some (.ref a), some (.ref r), some (.ref ot), v3, v4] ∧ UI K H d n bs a r ot Ls' H' ∧ wtR Ls' < wtR (L :: M), ?_, ?_⟩
      · -- if mark == TUPLE
        refine ⟨_, rfl, rfl, _, rfl, ?_⟩
        by_cases hlf : leaf x = true
        · have hmk : mk ≠ 4 := by
            intro z
            cases x with
            | none => rw [packD] at hpb; injection hpb with e _; rw [z] at e; cases e
            | int y => rw [packD] at hpb; injection hpb with e _; rw [z] at e; cases e
            | str y => rw [packD] at hpb; injection hpb with e _; rw [z] at e; cases e
            | _ => exact nomatch hlf
          refine t_no (decide_eq_false (by intro z; injection z with z; exact hmk z)) ?_
          -- open_tuples[-1][1].append(reader.plain(mark))
          refine ⟨_, rfl, _, rfl, ot, _, _, _, rfl, rfl, SqL.of o4', atI_last _ _, L.t, _, _, _, rfl, rfl, SqT.of f1, at_of (j := 1) rfl rfl, .inl ⟨rfl, _, SqL.of f2⟩, ?_⟩
          refine ⟨_, rfl, r, dz, _, rfl, hR5, rfl, _, rfl, r, a, bs, i + 1, x, mk, body, packL rs ++ remO (pairs M), rfl, hR4, hlf, ⟨dm, hpx⟩, hpb, hb2, fun v H5 x5 hR6 hv => ?_⟩
          have x45 := x4.trans x5
          obtain ⟨s5, o5, t5⟩ := u.read x45
          have hcl := u.cnt L List.mem_cons_self
          refine ⟨L.l, _, _, rfl, rfl, (t5 L List.mem_cons_self).2.1, h100 _ (by rw [hdl]; unfold Lv.cnt at hcl; omega), ?_⟩
          refine ⟨_, some (.int mk), v4, rfl, u.leaf hrs x45 hv hR6 (by rw [← List.drop_drop, hb2, List.drop_left]), ?_⟩
          simp only [wtR, List.map_cons, List.sum_cons, hrs, wtL]
          have := wtD_pos x
          omega
        · obtain ⟨es, rfl⟩ : ∃ es, x = .tuple es := by
            cases x with
            | tuple es => exact ⟨es, rfl⟩
            | none => exact absurd rfl hlf
            | int z => exact absurd rfl hlf
            | str z => exact absurd rfl hlf
            | _ => cases dm <;> exact nomatch hpx
          rw [packD] at hpb
          injection hpb with hm4 hbd
          refine t_yes (decide_eq_true (by rw [← hm4])) ?_
          refine ⟨_, rfl, ot, _, rfl, .inl (SqL.of o4), _, _, rfl, rfl, _, rfl, ?_⟩
          refine t_no (decide_eq_false (by rw [len2]; simp at dm1; omega)) ?_
          rw [← hbd, List.append_assoc] at hb2
          refine ⟨_, rfl, .inl ⟨rfl, _, SqL.of o4⟩, _, rfl, r, dz, _, rfl, hR5, rfl, r, a, bs, i + 1, es.length, _, rfl, hR4, hb2, fun H5 x5 hR6 => ?_⟩
          have x45 := x4.trans x5
          obtain ⟨s5, o5, t5⟩ := u.read x45
          refine ⟨Nat.zero_le _, fun l2 hl2 => ?_⟩
          refine ⟨by show 2 ≤ sizeLine; decide, fun t2 ht2 => ?_⟩
          have lt2 : l2 ≠ t2 := ne_of_none upd_same ht2
          have oo : (upd (upd H5 l2 (.lst [])) t2 (.tup [.int (es.length : Nat), .ref l2])) ot = some (.lst (((L :: M).map fun L => V.ref L.t).reverse)) := by
            rw [upd_ne (ne_of_none (by rw [upd_ne (ne_of_none o5 hl2)]; exact o5) ht2), upd_ne (ne_of_none o5 hl2)]; exact o5
          refine ⟨ot, _, _, rfl, rfl, oo, h100 _ (by rw [len2]; simp at dm1; omega), ?_⟩
          refine ⟨_, some (.int mk), v4, rfl, u.push hrs x45 hR6 (by rw [← List.drop_drop, hb2, List.drop_left]) hl2 ht2, ?_⟩
          simp only [wtR, List.map_cons, List.sum_cons, hrs, wtL, wtD]
          omega
      · -- the inner loop
        rintro σ5 H5 ⟨Ls5, v5, w5, rfl, u5, hw5⟩
        refine ⟨fun m σ' H' => ∃ (Ls' : List Lv) (v3 v4 : Option V), m = Ls'.length ∧ σ' = [some (.ref a), some (.ref r), some (.ref ot), v3, v4] ∧ UI K H d n bs a r ot Ls' H' ∧ wtR Ls' < wtR (L :: M), ⟨_, _, _, _, rfl, rfl, u5, hw5⟩, ?_⟩
        rintro m6 σ6 H6 ⟨Ls6, v6, w6, rfl, rfl, u6, hw6⟩
        obtain ⟨A, B, rfl, aop, aop1⟩ := u6.op
        obtain ⟨g1, g2, g3⟩ := u6.at_ A List.mem_cons_self
        have o6' : H6 ot = some (.lst ((B.map fun L => V.ref L.t).reverse ++ [.ref A.t])) := by rw [u6.ots]; simp
        have len6 : (((A :: B).map fun L => V.ref L.t).reverse).length = B.length + 1 := by simp
        -- len(open_tuples) > 1 and ..
        refine ⟨_, rfl, ot, _, rfl, .inl (SqL.of u6.ots), _, _, rfl, rfl, _, rfl, ?_⟩
        cases hB : B with
        | nil =>
          subst hB
          refine t_no (decide_eq_false (by simp)) ?_
          refine iteF ?_
          exact ⟨_, hw6, _, v6, w6, rfl, rfl, u6, fun L' M' e z => by injection e with _ e; exact absurd e.symm z⟩
        | cons A2 B2 =>
          subst hB
          refine t_yes (decide_eq_true (by simp; omega)) ?_
          refine ⟨_, rfl, _, rfl, ot, _, _, _, rfl, rfl, SqL.of o6', atI_last _ _, A.t, _, _, _, rfl, rfl, SqT.of g1, at_of (j := 1) rfl rfl, A.l, _, rfl, .inl (SqL.of g2), ?_⟩
          refine ⟨_, rfl, _, rfl, ot, _, _, _, rfl, rfl, SqL.of o6', atI_last _ _, A.t, _, _, _, rfl, rfl, SqT.of g1, at_of (j := 0) rfl rfl, rfl, _, rfl, ?_⟩
          have hgl := g3.length
          cases hr6 : A.rs with
          | cons y ys =>
            refine t_no (decide_eq_false (by intro z; injection z with z; have z := Int.ofNat.inj z; unfold Lv.cnt at z; rw [hgl, hr6] at z; simp at z; omega)) ?_
            exact ⟨_, hw6, _, v6, w6, rfl, rfl, u6, fun L' M' e _ => by injection e with e _; rw [← e, hr6]; simp⟩
          | nil =>
            refine t_yes (decide_eq_true (by congr 1; unfold Lv.cnt; rw [hgl, hr6, aop]; simp)) ?_
            refine ⟨_, fun _ _ z => z, ?_⟩
            -- items = open_tuples.pop()[1]
            refine ⟨_, rfl, .inl ⟨rfl, _, SqL.of u6.ots⟩, ot, _, .ref A.t, rfl, rfl, u6.ots, by simp, ?_⟩
            have ed : (((A :: A2 :: B2).map fun L => V.ref L.t).reverse).dropLast = ((A2 :: B2).map fun L => V.ref L.t).reverse := by simp
            rw [ed]
            have x7 : Go (fun x => x = ot) H6 (fun x => x = ot) (upd H6 ot (.lst (((A2 :: B2).map fun L => V.ref L.t).reverse))) := Go.put rfl u6.ots trivial
            have nd6 := u6.nd
            rw [List.nodup_cons] at nd6
            have nAo : A.l ≠ ot := fun z => nd6.1 (z ▸ List.mem_cons_self)
            have nA2o : A2.l ≠ ot := fun z => nd6.1 (z ▸ List.mem_cons_of_mem _ List.mem_cons_self)
            refine ⟨A.t, _, _, _, rfl, rfl, SqT.of (x7.tups _ _ g1), at_of (j := 1) rfl rfl, ?_⟩
            have g2' := x7.keep _ _ g2 nAo
            obtain ⟨h1, h2, h3⟩ := u6.at_ A2 (List.mem_cons_of_mem _ List.mem_cons_self)
            have o7 : (upd H6 ot (.lst (((A2 :: B2).map fun L => V.ref L.t).reverse))) ot = some (.lst ((B2.map fun L => V.ref L.t).reverse ++ [.ref A2.t])) := by rw [upd_same]; simp
            -- open_tuples[-1][1].append(tuple(items))
            refine ⟨_, rfl, _, rfl, ot, _, _, _, rfl, rfl, SqL.of o7, atI_last _ _, A2.t, _, _, _, rfl, rfl, SqT.of (x7.tups _ _ h1), at_of (j := 1) rfl rfl, .inl ⟨rfl, _, SqL.of (x7.keep _ _ h2 nA2o)⟩, ?_⟩
            refine ⟨_, rfl, A.l, _, rfl, .inl ⟨SqL.of g2', fun b hb => ?_⟩⟩
            have h2' := x7.keep _ _ h2 nA2o
            have hcl := u6.cnt A2 (List.mem_cons_of_mem _ List.mem_cons_self)
            refine ⟨A2.l, _, _, rfl, rfl, by rw [upd_ne (ne_of_none h2' hb)]; exact h2', h100 _ (by rw [h3.length]; unfold Lv.cnt at hcl; omega), ?_⟩
            refine ⟨_, by simp, _, v6, some (.ref A.l), rfl, rfl, u6.pop hr6 hb, ?_⟩
            refine Nat.lt_of_le_of_lt ?_ hw6
            simp only [wtR, List.map_cons, List.sum_cons, hr6, wtL]
            omega
end
end Ck
/-! Up -/
set_option maxHeartbeats 4000000
/-! Updates, what they make; plain. -/
namespace Ck
open PySem PySem.Spec PyProof.Rows L2
inductive Ent where
  | batch (cs : List PyData)
  | mem (ms : List Nat)
def Ent.py : Ent → PyData
  | .batch cs => .tuple [.str "batch", .tuple cs]
  | .mem ms => .tuple [.str "members", .tuple (ms.map fun m => .int (m : Nat))]
def bal (r i : Nat) : PyData := .tuple [.int (r : Nat), .int (i : Nat)]
inductive Upd where
  | pro (s r i : Nat)
  | acc (s r i : Nat) (e : Ent)
  | cho (s : Nat) (e : Ent)
def Upd.py : Upd → PyData
  | .pro s r i => .tuple [.str "promise", .int (s : Nat), bal r i]
  | .acc s r i e => .tuple [.str "accept", .int (s : Nat), bal r i, e.py]
  | .cho s e => .tuple [.str "chosen", .int (s : Nat), e.py]
def Upd.pack (u : Upd) : List Int := packD u.py
structure Rc where
  row : List Ent
  pr : Nat
  pi : Nat
  ac : Option (Nat × Nat × Ent)
def Rc.new : Rc := ⟨[], 0, 0, none⟩
def Rc.do (R : Rc) : Upd → Rc
  | .pro _ r i => { R with pr := r, pi := i }
  | .acc _ r i e => { R with pr := r, pi := i, ac := some (r, i, e) }
  | .cho _ e => ⟨R.row ++ [e], 0, 0, none⟩
def recOf (us : List Upd) : Rc := us.foldl Rc.do Rc.new
def accPy : Option (Nat × Nat × Ent) → PyData
  | none => .none
  | some (r, i, e) => .tuple [bal r i, e.py]
theorem recOf_snoc (us : List Upd) (u : Upd) : recOf (us ++ [u]) = (recOf us).do u := by simp [recOf]
/-- what the commands are: small, flat tuples -/
def CmdOk (c : PyData) : Prop := pk 2 c = true ∧ wtD c ≤ 10 ∧ (packD c).length ≤ 300 ∧ ∀ l, c ≠ .tuple (.str "after" :: l)
def Ent.Ok : Ent → Prop
  | .batch cs => cs.length ≤ 8 ∧ ∀ c ∈ cs, CmdOk c
  | .mem ms => ms.length ≤ 5 ∧ ∀ m ∈ ms, m ≤ 10
def Upd.Ok : Upd → Prop
  | .pro s r i => s ≤ 10000 ∧ r ≤ 10000 ∧ i ≤ 10
  | .acc s r i e => s ≤ 10000 ∧ r ≤ 10000 ∧ i ≤ 10 ∧ e.Ok
  | .cho s e => s ≤ 10000 ∧ e.Ok
theorem pk_str (n : Nat) {z : Str} (h : (z.cps.toList.all signOk && decide (z.length ≤ 100)) = true) : pk n (.str z) = true := by
  cases n <;> exact h
theorem pk_int (n : Nat) {i : Nat} (h : i ≤ 1000000000000000000) : pk n (.int (i : Nat)) = true := by
  have : (decide (0 ≤ ((i : Nat) : Int)) && decide (((i : Nat) : Int) ≤ 1000000000000000000)) = true := by
    rw [Bool.and_eq_true]
    exact ⟨decide_eq_true (by omega), decide_eq_true (by omega)⟩
  cases n <;> exact this
theorem pk_tup {n : Nat} {l : List PyData} (h : ∀ d ∈ l, pk n d = true) (hl : l.length ≤ 100) : pk (n + 1) (.tuple l) = true := by
  show (l.all (pk n) && decide (l.length ≤ 100)) = true
  rw [Bool.and_eq_true]
  exact ⟨List.all_eq_true.mpr h, decide_eq_true hl⟩
theorem pk_mono {n m : Nat} {d : PyData} (h : n ≤ m) (k : pk n d = true) : pk m d = true := by
  induction h with
  | refl => exact k
  | step _ ih => exact pk_succ ih
theorem bal_pk {r i : Nat} (h1 : r ≤ 10000) (h2 : i ≤ 10) : pk 1 (bal r i) = true := pk_tup (n := 0) (fun d hd => by
  rcases List.mem_cons.mp hd with rfl | hd
  · exact pk_int 0 (by omega)
  · obtain rfl : d = _ := by simpa using hd
    exact pk_int 0 (by omega)) (by simp)
theorem Ent.pk {e : Ent} (h : e.Ok) : Ck.pk 4 e.py = true := by
  cases e with
  | batch cs =>
    refine pk_tup (n := 3) (fun d hd => ?_) (by simp)
    rcases List.mem_cons.mp hd with rfl | hd
    · exact pk_str 3 (by decide +kernel)
    · obtain rfl : d = _ := by simpa using hd
      exact pk_tup (n := 2) (fun c hc => (h.2 c hc).1) (by have := h.1; omega)
  | mem ms =>
    refine pk_tup (n := 3) (fun d hd => ?_) (by simp)
    rcases List.mem_cons.mp hd with rfl | hd
    · exact pk_str 3 (by decide +kernel)
    · obtain rfl : d = _ := by simpa using hd
      refine pk_tup (n := 2) (fun c hc => ?_) (by rw [List.length_map]; have := h.1; omega)
      obtain ⟨m, hm, rfl⟩ := List.mem_map.mp hc
      exact pk_int 2 (by have := h.2 m hm; omega)
theorem Upd.pk {u : Upd} (h : u.Ok) : Ck.pk 5 u.py = true := by
  cases u with
  | pro s r i =>
    refine pk_tup (n := 4) (fun d hd => ?_) (by simp)
    simp only [List.mem_cons, List.not_mem_nil, or_false] at hd
    rcases hd with rfl | rfl | rfl
    · exact pk_str 4 (by decide +kernel)
    · exact pk_int 4 (by have := h.1; omega)
    · exact pk_mono (by decide) (bal_pk h.2.1 h.2.2)
  | acc s r i e =>
    refine pk_tup (n := 4) (fun d hd => ?_) (by simp)
    simp only [List.mem_cons, List.not_mem_nil, or_false] at hd
    rcases hd with rfl | rfl | rfl | rfl
    · exact pk_str 4 (by decide +kernel)
    · exact pk_int 4 (by have := h.1; omega)
    · exact pk_mono (by decide) (bal_pk h.2.1 h.2.2.1)
    · exact Ent.pk h.2.2.2
  | cho s e =>
    refine pk_tup (n := 4) (fun d hd => ?_) (by simp)
    simp only [List.mem_cons, List.not_mem_nil, or_false] at hd
    rcases hd with rfl | rfl | rfl
    · exact pk_str 4 (by decide +kernel)
    · exact pk_int 4 (by have := h.1; omega)
    · exact Ent.pk h.2
/-! sizes -/
theorem sev_one {n : Nat} (h : n < 10 ^ 19) : (sev n).length ≤ 10 := by
  have key : ∀ k n, n < 128 ^ (k + 1) → (sev n).length ≤ k + 1 := by
    intro k
    induction k with
    | zero => intro n h; rw [sev_small (by simpa using h)]; simp
    | succ k ih =>
      intro n h
      by_cases h2 : n < 128
      · rw [sev_small h2]; simp
      · rw [sev_big h2, List.length_cons]
        have := ih (n / 128) (by rw [Nat.div_lt_iff_lt_mul (by decide)]; rw [Nat.pow_succ] at h; exact h)
        omega
  exact key 9 n (Nat.lt_of_lt_of_le h (by decide))
theorem len_int {i : Nat} (h : i ≤ 10000) : (packD (.int (i : Nat))).length ≤ 11 := by
  rw [packD, List.length_cons, Int.toNat_natCast]
  have := sev_one (n := i) (Nat.lt_of_le_of_lt h (by decide))
  omega
theorem len_str {z : Str} (h : z.length ≤ 100) : (packD (.str z)).length ≤ 111 := by
  rw [packD, List.length_cons, List.length_append]
  have e : (codes z).length = z.length := by simp [codes, Str.length]
  have := sev_one (n := z.length) (Nat.lt_of_le_of_lt h (by decide))
  omega
theorem len_tup {l : List PyData} (h : l.length ≤ 100) : (packD (.tuple l)).length ≤ 11 + (packL l).length := by
  rw [packD, List.length_cons, List.length_append]
  have := sev_one (n := l.length) (Nat.lt_of_le_of_lt h (by decide))
  omega
theorem packL_le (l : List PyData) (k : Nat) (h : ∀ d ∈ l, (packD d).length ≤ k) : (packL l).length ≤ l.length * k := by
  induction l with
  | nil => simp [packL]
  | cons d l ih =>
    rw [packL, List.length_append, List.length_cons, Nat.succ_mul]
    have h1 := h d List.mem_cons_self
    have h2 := ih fun x hx => h x (List.mem_cons_of_mem _ hx)
    omega
theorem wtL_le (l : List PyData) (k : Nat) (h : ∀ d ∈ l, wtD d ≤ k) : wtL l ≤ l.length * k := by
  induction l with
  | nil => simp [wtL]
  | cons d l ih =>
    rw [wtL, List.length_cons, Nat.succ_mul]
    have h1 := h d List.mem_cons_self
    have h2 := ih fun x hx => h x (List.mem_cons_of_mem _ hx)
    omega
theorem bal_size {r i : Nat} (h1 : r ≤ 10000) (h2 : i ≤ 10) : (packD (bal r i)).length ≤ 33 ∧ wtD (bal r i) ≤ 3 := by
  refine ⟨?_, by simp [bal, wtD, wtL]⟩
  refine Nat.le_trans (len_tup (by simp)) ?_
  have e1 := len_int h1
  have e2 := len_int (i := i) (by omega)
  simp only [packL, List.length_append, List.length_nil]
  omega
theorem Ent.size {e : Ent} (h : e.Ok) : (packD e.py).length ≤ 3000 ∧ wtD e.py ≤ 100 := by
  cases e with
  | batch cs =>
    have hl := h.1
    have e1 := packL_le cs 300 fun c hc => (h.2 c hc).2.2.1
    have e2 := wtL_le cs 10 fun c hc => (h.2 c hc).2.1
    have e3 := len_str (z := "batch") (by decide +kernel)
    have e4 := len_tup (l := cs) (by omega)
    refine ⟨Nat.le_trans (len_tup (by simp)) ?_, ?_⟩
    · simp only [packL, List.length_append, List.length_nil]; omega
    · simp only [Ent.py, wtD, wtL]; omega
  | mem ms =>
    have hl := h.1
    have e1 := packL_le (ms.map fun m => PyData.int (m : Nat)) 11 fun c hc => by
      obtain ⟨m, hm, rfl⟩ := List.mem_map.mp hc
      exact len_int (by have := h.2 m hm; omega)
    have e2 := wtL_le (ms.map fun m => PyData.int (m : Nat)) 1 fun c hc => by
      obtain ⟨m, hm, rfl⟩ := List.mem_map.mp hc
      simp [wtD]
    rw [List.length_map] at e1 e2
    have e3 := len_str (z := "members") (by decide +kernel)
    have e4 := len_tup (l := ms.map fun m => PyData.int (m : Nat)) (by rw [List.length_map]; omega)
    refine ⟨Nat.le_trans (len_tup (by simp)) ?_, ?_⟩
    · simp only [packL, List.length_append, List.length_nil]; omega
    · simp only [Ent.py, wtD, wtL]; omega
theorem Upd.size {u : Upd} (h : u.Ok) : (packD u.py).length ≤ 4000 ∧ wtD u.py ≤ 200 := by
  cases u with
  | pro s r i =>
    obtain ⟨e1, e2⟩ := bal_size h.2.1 h.2.2
    have e3 := len_int h.1
    have e4 := len_str (z := "promise") (by decide +kernel)
    refine ⟨Nat.le_trans (len_tup (by simp)) ?_, ?_⟩
    · simp only [packL, List.length_append, List.length_nil]; omega
    · simp only [Upd.py, wtD, wtL]; omega
  | acc s r i e =>
    obtain ⟨e1, e2⟩ := bal_size h.2.1 h.2.2.1
    obtain ⟨e5, e6⟩ := Ent.size h.2.2.2
    have e3 := len_int h.1
    have e4 := len_str (z := "accept") (by decide +kernel)
    refine ⟨Nat.le_trans (len_tup (by simp)) ?_, ?_⟩
    · simp only [packL, List.length_append, List.length_nil]; omega
    · simp only [Upd.py, wtD, wtL]; omega
  | cho s e =>
    obtain ⟨e5, e6⟩ := Ent.size h.2
    have e3 := len_int h.1
    have e4 := len_str (z := "chosen") (by decide +kernel)
    refine ⟨Nat.le_trans (len_tup (by simp)) ?_, ?_⟩
    · simp only [packL, List.length_append, List.length_nil]; omega
    · simp only [Upd.py, wtD, wtL]; omega
/-! the lines of a row, the votes of updates -/
def addLine (ls : List PyData) (c : PyData) : List PyData := if ls.any (fun z => PyData.eqv z c) = true then ls else ls ++ [c]
def Ent.cmds : Ent → List PyData
  | .batch cs => cs
  | .mem _ => []
def linesOf (row : List Ent) : List PyData := row.foldl (fun ls e => e.cmds.foldl addLine ls) []
theorem linesOf_snoc (row : List Ent) (e : Ent) : linesOf (row ++ [e]) = e.cmds.foldl addLine (linesOf row) := by simp [linesOf]
/-- the acceptances from the n-th update on, each with its place -/
def votesFrom : Nat → List Upd → List (Nat × Nat × Nat × Nat × Ent)
  | _, [] => []
  | n, .acc s r i e :: us => (n, s, r, i, e) :: votesFrom (n + 1) us
  | n, .pro _ _ _ :: us => votesFrom (n + 1) us
  | n, .cho _ _ :: us => votesFrom (n + 1) us
def votePy (v : Nat × Nat × Nat × Nat × Ent) : PyData := .tuple [.int (v.2.1 : Nat), bal v.2.2.1 v.2.2.2.1, v.2.2.2.2.py]
def pairPy (v : Nat × Nat × Nat × Nat × Ent) : PyData := .tuple [.int (v.1 : Nat), votePy v]
/-- what a node has cast and not told, of these updates, the first cb of them told -/
def castOf (cb : Nat) (us : List Upd) : List (Nat × Nat × Nat × Nat × Ent) := votesFrom cb (us.drop cb)
theorem votesFrom_append (n : Nat) (a b : List Upd) : votesFrom n (a ++ b) = votesFrom n a ++ votesFrom (n + a.length) b := by
  induction a generalizing n with
  | nil => simp [votesFrom]
  | cons u a ih =>
    cases u <;> simp [votesFrom, ih, Nat.add_assoc, Nat.add_comm 1]
theorem votesFrom_ge {n : Nat} {us : List Upd} {v : Nat × Nat × Nat × Nat × Ent} (h : v ∈ votesFrom n us) : n ≤ v.1 ∧ v.1 < n + us.length := by
  induction us generalizing n with
  | nil => simp [votesFrom] at h
  | cons u us ih =>
    cases u with
    | acc s r i e =>
      rw [votesFrom] at h
      rcases List.mem_cons.mp h with rfl | h
      · simp
      · have := ih h
        simp only [List.length_cons]; omega
    | pro s r i => rw [votesFrom] at h; have := ih h; simp only [List.length_cons]; omega
    | cho s e => rw [votesFrom] at h; have := ih h; simp only [List.length_cons]; omega
end Ck
/-! Ow -/
set_option maxHeartbeats 4000000
/-! Objects that are owned: where they stand, what they are; no two at one place. -/
namespace Ck
open PySem PySem.Spec PyProof.Rows L2
abbrev Ob : Type := List (Addr × HO)
structure Own (H : Hp) (l : Ob) : Prop where
  at_ : ∀ q ∈ l, H q.1 = some q.2
  nd : (l.map (·.1)).Nodup
abbrev Ft (l : Ob) : Addr → Prop := fun a => a ∈ l.map (·.1)
def Writ (o : HO) : Prop := Mut (some o)
theorem Own.get {H : Hp} {l : Ob} (h : Own H l) (i : Nat) {a : Addr} {o : HO} (e : l[i]? = some (a, o)) : H a = some o := h.at_ _ (List.mem_of_getElem? e)
theorem Own.ft {H : Hp} {l : Ob} (h : Own H l) {a : Addr} (f : Ft l a) : ∃ o, H a = some o := by
  obtain ⟨q, hq, rfl⟩ := List.mem_map.mp f
  exact ⟨_, h.at_ q hq⟩
theorem Own.no {H : Hp} {l : Ob} (h : Own H l) {a : Addr} (n : H a = none) : ¬ Ft l a := fun f => by
  obtain ⟨o, e⟩ := h.ft f
  rw [n] at e; cases e
theorem ft_at {l : Ob} {i : Nat} {a : Addr} {o : HO} (e : l[i]? = some (a, o)) : Ft l a := List.mem_map.mpr ⟨_, List.mem_of_getElem? e, rfl⟩
theorem nd_ne {α : Type} {l : List α} (nd : l.Nodup) {i j : Nat} {a b : α} (hi : l[i]? = some a) (hj : l[j]? = some b) (h : i ≠ j) : a ≠ b := by
  intro z
  subst z
  exact h (nd_ix nd hi hj)
theorem Own.ne {H : Hp} {l : Ob} (h : Own H l) (i j : Nat) {a b : Addr} {o u : HO} (hi : l[i]? = some (a, o)) (hj : l[j]? = some (b, u)) (d : i ≠ j) : a ≠ b :=
  nd_ne h.nd (i := i) (j := j) (by rw [List.getElem?_map, hi]; rfl) (by rw [List.getElem?_map, hj]; rfl) d
theorem map_set {α β : Type} (f : α → β) (l : List α) (i : Nat) (x : α) : (l.set i x).map f = (l.map f).set i (f x) := by
  induction l generalizing i with
  | nil => rfl
  | cons a l ih => cases i with
    | zero => rfl
    | succ i => simp [ih]
theorem mem_set {α : Type} {l : List α} {i : Nat} {x y : α} (h : y ∈ l.set i x) : y = x ∨ ∃ j, j ≠ i ∧ l[j]? = some y := by
  obtain ⟨j, hj⟩ := List.getElem?_of_mem h
  by_cases e : i = j
  · subst e
    rw [List.getElem?_set] at hj
    split at hj
    · split at hj
      · exact .inl (Option.some.inj hj).symm
      · cases hj
    · rename_i q; exact absurd rfl q
  · rw [List.getElem?_set_ne e] at hj
    exact .inr ⟨j, fun z => e z.symm, hj⟩
theorem nodup_set {α : Type} {l : List α} (nd : l.Nodup) {i : Nat} {x : α} (h : ∀ j y, j ≠ i → l[j]? = some y → y ≠ x) : (l.set i x).Nodup := by
  rw [List.nodup_iff_pairwise_ne, List.pairwise_iff_getElem] at *
  intro a b ha hb hab
  rw [List.length_set] at ha hb
  rw [List.getElem_set, List.getElem_set]
  split
  · split
    · omega
    · exact (h b _ (by omega) (List.getElem?_eq_getElem hb)).symm
  · split
    · exact h a _ (by omega) (List.getElem?_eq_getElem ha)
    · exact nd a b ha hb hab
/-- one of them changes -/
theorem Own.put {H : Hp} {l : Ob} (h : Own H l) (i : Nat) {a : Addr} {u : HO} (e : l[i]? = some (a, u)) (m : Writ u) (o : HO) : Own (upd H a o) (l.set i (a, o)) ∧ Go (Ft l) H (Ft (l.set i (a, o))) (upd H a o) := by
  have ef : (l.set i (a, o)).map (·.1) = l.map (·.1) := by
    rw [map_set]
    refine List.ext_getElem? fun j => ?_
    by_cases z : i = j
    · subst z
      rw [List.getElem?_set, if_pos rfl]
      have : (l.map (·.1))[i]? = some a := by rw [List.getElem?_map, e]; rfl
      rw [this, if_pos (List.getElem?_eq_some_iff.mp this).1]
    · rw [List.getElem?_set_ne z]
  refine ⟨⟨fun q hq => ?_, by rw [ef]; exact h.nd⟩, ?_⟩
  · rcases mem_set hq with rfl | ⟨j, hj, e2⟩
    · exact upd_same
    · rw [upd_ne (h.ne j i e2 e hj)]
      exact h.at_ _ (List.mem_of_getElem? e2)
  · have x : Go (Ft l) H (Ft l) (upd H a o) := Go.put (ft_at e) (h.get i e) m
    exact x.less fun b hb => .inl (by rw [show Ft (l.set i (a, o)) b = (b ∈ (l.set i (a, o)).map (·.1)) from rfl, ef] at hb; exact hb)
/-- one of them gives way to a new one -/
theorem Own.new {H H' : Hp} {l : Ob} (h : Own H l) (i : Nat) {q : Addr} {o : HO} (s : Same H H') (n : H q = none) (e : H' q = some o) : Own H' (l.set i (q, o)) ∧ Go (Ft l) H (Ft (l.set i (q, o))) H' := by
  refine ⟨⟨fun z hz => ?_, ?_⟩, ⟨fun a u e1 _ => s a u e1, fun a f => ?_, fun a xs e1 => s a _ e1, fun a o u e1 => s a _ e1, fun a e1 => s.free e1⟩⟩
  · rcases mem_set hz with rfl | ⟨j, _, e2⟩
    · exact e
    · exact s _ _ (h.at_ _ (List.mem_of_getElem? e2))
  · rw [map_set]
    refine nodup_set h.nd fun j y _ ey => ?_
    obtain ⟨z, hz, rfl⟩ := List.mem_map.mp (List.mem_of_getElem? ey)
    exact ne_of_none (h.at_ z hz) n
  · obtain ⟨z, hz, rfl⟩ := List.mem_map.mp f
    rcases mem_set hz with rfl | ⟨j, _, e2⟩
    · exact .inr n
    · exact .inl (List.mem_map.mpr ⟨z, List.mem_of_getElem? e2, rfl⟩)
theorem Own.same {H H' : Hp} {l : Ob} (h : Own H l) (s : Same H H') : Own H' l ∧ Go (Ft l) H (Ft l) H' := ⟨⟨fun q hq => s _ _ (h.at_ q hq), h.nd⟩, Go.same s⟩
/-- some of them change, by a call that owns them -/
theorem Own.mid {H H' : Hp} {a k b k' : Ob} (h : Own H (a ++ k ++ b)) (x : Go (Ft k) H (Ft k') H') (o : Own H' k') : Own H' (a ++ k' ++ b) ∧ Go (Ft (a ++ k ++ b)) H (Ft (a ++ k' ++ b)) H' := by
  have nd := h.nd
  simp only [List.map_append, List.nodup_append, List.mem_append] at nd
  obtain ⟨⟨na, nk, nak⟩, nb, nkb⟩ := nd
  have out : ∀ z, z ∈ a ∨ z ∈ b → ¬ Ft k z.1 := fun z hz f => by
    rcases hz with hz | hz
    · exact nak _ (List.mem_map_of_mem hz) _ f rfl
    · exact nkb _ (.inr f) _ (List.mem_map_of_mem hz) rfl
  have keep : ∀ z, z ∈ a ∨ z ∈ b → H' z.1 = some z.2 := fun z hz => x.keep _ _ (h.at_ z (by
    rcases hz with hz | hz
    · exact List.mem_append_left _ (List.mem_append_left _ hz)
    · exact List.mem_append_right _ hz)) (out z hz)
  have apart : ∀ z, z ∈ a ∨ z ∈ b → ¬ Ft k' z.1 := fun z hz f => (x.foot _ f).elim (out z hz) fun n => by
    rw [h.at_ z (by
      rcases hz with hz | hz
      · exact List.mem_append_left _ (List.mem_append_left _ hz)
      · exact List.mem_append_right _ hz)] at n
    cases n
  refine ⟨⟨fun z hz => ?_, ?_⟩, ⟨fun c u e n => x.keep c u e fun f => n ?_, fun c f => ?_, x.tups, x.frzs, x.some_⟩⟩
  · rcases List.mem_append.mp hz with hz | hz
    · rcases List.mem_append.mp hz with hz | hz
      · exact keep z (.inl hz)
      · exact o.at_ z hz
    · exact keep z (.inr hz)
  · simp only [List.map_append, List.nodup_append, List.mem_append]
    refine ⟨⟨na, o.nd, fun y hy y' hy' e => ?_⟩, nb, fun y hy y' hy' e => ?_⟩
    · obtain ⟨z, hz, rfl⟩ := List.mem_map.mp hy
      exact apart z (.inl hz) (e ▸ hy')
    · obtain ⟨z, hz, rfl⟩ := List.mem_map.mp hy'
      rcases hy with hy | hy
      · exact nkb y (.inl hy) _ (List.mem_map_of_mem hz) e
      · exact apart z (.inr hz) (e ▸ hy)
  · show c ∈ (a ++ k ++ b).map (·.1)
    rw [List.map_append, List.map_append]
    exact List.mem_append_left _ (List.mem_append_right _ f)
  · have f : c ∈ (a ++ k' ++ b).map (·.1) := f
    rw [List.map_append, List.map_append] at f
    have g : ∀ {p : Prop}, (c ∈ a.map (·.1) ∨ c ∈ k.map (·.1) ∨ c ∈ b.map (·.1)) → Ft (a ++ k ++ b) c := fun q => by
      show c ∈ (a ++ k ++ b).map (·.1)
      rw [List.map_append, List.map_append, List.mem_append, List.mem_append]
      rcases q with q | q | q
      · exact .inl (.inl q)
      · exact .inl (.inr q)
      · exact .inr q
    rcases List.mem_append.mp f with f | f
    · rcases List.mem_append.mp f with f | f
      · exact .inl (g (p := True) (.inl f))
      · exact (x.foot c f).imp (fun z => g (p := True) (.inr (.inl z))) id
    · exact .inl (g (p := True) (.inr (.inr f)))
/-- new objects, owned from now on -/
theorem Own.sub {H : Hp} {a k b : Ob} (h : Own H (a ++ k ++ b)) : Own H k := by
  refine ⟨fun q hq => h.at_ q (List.mem_append_left _ (List.mem_append_right _ hq)), ?_⟩
  have nd := h.nd
  simp only [List.map_append, List.nodup_append] at nd
  exact nd.1.2.1
/-- what is owned is apart from what is frozen for it -/
theorem Fz.of {H : Hp} {l : Ob} (h : Own H l) {a : Addr} {o : HO} (e : H a = some o) (n : ∀ q ∈ l, q.1 ≠ a) : Fz (Ft l) H a o := ⟨e, fun f => by
  obtain ⟨q, hq, z⟩ := List.mem_map.mp f
  exact n q hq z⟩
/-- owned from the beginning: each one new -/
theorem Own.nil (H : Hp) : Own H [] := ⟨fun _ h => (by cases h), List.nodup_nil⟩
theorem Own.cons {H H' : Hp} {l : Ob} {q : Addr} {o : HO} (h : Own H l) (s : Same H H') (n : H q = none) (e : H' q = some o) : Own H' ((q, o) :: l) := by
  refine ⟨fun z hz => ?_, ?_⟩
  · rcases List.mem_cons.mp hz with rfl | hz
    · exact e
    · exact s _ _ (h.at_ z hz)
  · rw [List.map_cons, List.nodup_cons]
    exact ⟨h.no n, h.nd⟩
end Ck
/-! W8 -/
set_option maxHeartbeats 4000000
namespace Ck
open PySem PySem.Spec PyProof.Rows L2
/-! ### the diary, the acceptor -/
abbrev CD (K : PySem.W.Frag) : Addr := He.ga K "Diary"
abbrev CA (K : PySem.W.Frag) : Addr := He.ga K "Acceptor"
abbrev dl (K : PySem.W.Frag) (m md ml : Addr) (ls : List V) : Ob := [(m, .ins (CD K) md [("lines", .ref ml)]), (ml, .lst ls)]
abbrev al (K : PySem.W.Frag) (ac ad : Addr) (pv av : V) : Ob := [(ac, .ins (CA K) ad [("promised", pv), ("accepted", av)])]
theorem small1e4 {n : Nat} (h : n ≤ 10000) : n < sizeLine := Nat.lt_of_le_of_lt h (by decide)
theorem dp_list {K : PySem.W.Frag} {H : Hp} {a : Addr} {vs : List V} {ds : List PyData} (h : SqL K H a vs) (r : Ims K H vs ds) : Dp K H (.ref a) (.list ds) := .lst h r.dp
theorem shaped_list {n : Nat} {ds : List PyData} (h : ∀ d ∈ ds, good n d = true) (hn : n + 1 ≤ 64) : SeqAt.shaped (.list ds) = true := shaped_good (n := n + 1) (List.all_eq_true.mpr h) hn
def spDInit (K : PySem.W.Frag) : Sp := fun vs H Q _ => ∃ (m md : Addr), vs = [.ref m] ∧ H m = some (.ins (CD K) md []) ∧ ∀ (ml : Addr) H', H ml = none → Go (fun x => x = m) H (fun x => x = m) H' → Own H' (dl K m md ml []) → Q .non H'
def spApply (K : PySem.W.Frag) : Sp := fun vs H Q _ => ∃ (m md ml : Addr) (ls : List V) (ds : List PyData) (v : V) (c : PyData), vs = [.ref m, v] ∧ Own H (dl K m md ml ls) ∧ Ims K H ls ds ∧ Im K H v c ∧ good 10 c = true ∧ (∀ d ∈ ds, good 10 d = true) ∧ ds.length ≤ 10000 ∧
  ∀ a ls' H', Go (Ft (dl K m md ml ls)) H (Ft (dl K m md ml ls')) H' → Own H' (dl K m md ml ls') → Ims K H' ls' (addLine ds c) → Q (.ref a) H'
def spSettled (K : PySem.W.Frag) : Sp := fun vs H Q _ => ∃ (m md ml : Addr) (ls : List V) (ds : List PyData) (v : V) (c : PyData), vs = [.ref m, v] ∧ Own H (dl K m md ml ls) ∧ Ims K H ls ds ∧ Im K H v c ∧ good 10 c = true ∧ (∀ d ∈ ds, good 10 d = true) ∧ Q (.bl (ds.any fun z => PyData.eqv z c)) H
def spHears (K : PySem.W.Frag) : Sp := fun vs H Q _ => ∃ (ac ad a b : Addr) (av : V) (n1 n2 m1 m2 : Int), vs = [.ref ac, .ref b] ∧ H ac = some (.ins (CA K) ad [("promised", .ref a), ("accepted", av)]) ∧ SqT K H a [.int n1, .int n2] ∧ SqT K H b [.int m1, .int m2] ∧ ∀ z, Q (.bl z) H
def spPromise (K : PySem.W.Frag) : Sp := fun vs H Q _ => ∃ (ac ad : Addr) (pv av v : V), vs = [.ref ac, v] ∧ Own H (al K ac ad pv av) ∧ ∀ H', Go (Ft (al K ac ad pv av)) H (Ft (al K ac ad v av)) H' → Own H' (al K ac ad v av) → Q .non H'
def spAccept (K : PySem.W.Frag) : Sp := fun vs H Q _ => ∃ (ac ad : Addr) (pv av v e : V), vs = [.ref ac, v, e] ∧ Own H (al K ac ad pv av) ∧ ∀ t H', Go (Ft (al K ac ad pv av)) H (Ft (al K ac ad v (.ref t))) H' → Own H' (al K ac ad v (.ref t)) → H' t = some (.tup [v, e]) → Q .non H'
/-- a new acceptor with these fields -/
def spAInit (K : PySem.W.Frag) : Sp := fun vs H Q _ => ∃ (ac ad : Addr) (pv av : V), vs = [.ref ac, pv, av] ∧ H ac = some (.ins (CA K) ad []) ∧ ∀ H', Go (fun x => x = ac) H (fun x => x = ac) H' → Own H' (al K ac ad pv av) → Q .non H'
def spAFork (K : PySem.W.Frag) : Sp := fun vs H Q _ => ∃ (ac ad : Addr) (pv av : V), vs = [.ref ac] ∧ H ac = some (.ins (CA K) ad [("promised", pv), ("accepted", av)]) ∧ ∀ b bd H', H b = none → Same H H' → Own H' (al K b bd pv av) → Q (.ref b) H'
/-- what a new instance and its __init__ leave as it was -/
theorem made_same {H H1 : Hp} {x dx C : Addr} (nx : H x = none) (nd : H dx = none) (g : Go (fun a => a = x) (upd (upd H dx (.own x)) x (.ins C dx [])) (fun a => a = x) H1) : Same H H1 := fun b o e =>
  g.keep b o (by rw [upd_ne (ne_of_none e nx), upd_ne (ne_of_none e nd)]; exact e) (ne_of_none e nx)
section
variable {P : Program} {w : World} {K : PySem.W.Frag} {mg : Str → Option Value} {base : Heap}
theorem c_Diary_init (T : Txt K mg) : C8.Mak P w K mg base 1 "Diary" (CD K) (spDInit K) [] := by
  refine mak T.k_Diary T.g_Diary T.f_Diary_init (N := (["self"] : List Str)) (ps := (["self"] : List Str)) (by decide +kernel) (fun _ _ _ _ _ _ us hl => match us, hl with | [_], _ => rfl) (fun vs H Q E h => ?_) (fun cdv A outer s H vs Q E hr h => ?_)
  · obtain ⟨_, _, rfl, _⟩ := h; rfl
  · obtain ⟨m, md, rfl, hm, k⟩ := h
    refine ⟨_,
      (pss_one (ps_fld (L2.pv 0) (pe_lst pa_nil) rfl))
      , ?_⟩
    refine ⟨Nat.zero_le _, fun ml hl => ?_⟩
    have ne : m ≠ ml := ne_of_none hm hl
    have hm' : (upd H ml (.lst [])) m = some (.ins (CD K) md []) := by rw [upd_ne ne]; exact hm
    refine ⟨_, rfl, m, _, md, _, rfl, hm', T.c_Diary, T.n_Diary_lines, (by show 0 < 1000; decide), ?_⟩
    refine k ml _ hl ((Go.new hl).trans (Go.put rfl hm' trivial)) ⟨fun q hq => ?_, ?_⟩
    · rcases List.mem_cons.mp hq with rfl | hq
      · exact upd_same
      · obtain rfl : q = _ := by simpa using hq
        show upd (upd H ml (.lst [])) m _ ml = _
        rw [upd_ne ne.symm]; exact upd_same
    · simpa using ne
theorem c_Diary_apply (T : Txt K mg) : C8.Met P w K mg base 1 (CD K) "apply" (spApply K) [] := by
  refine met T.c_Diary T.m_Diary_apply T.f_Diary_apply (N := (["self", "command"] : List Str)) (ps := (["self", "command"] : List Str)) (by decide +kernel) (fun _ _ _ _ _ _ us hl => match us, hl with | [_, _], _ => rfl) (fun vs H Q E h => ?_) (fun cdv A outer s H vs Q E hr h => ?_)
  · obtain ⟨_, _, _, _, _, _, _, rfl, _⟩ := h; rfl
  · obtain ⟨m, md, ml, ls, ds, v, c, rfl, o, hi, hv, hc, hd, h1000, k⟩ := h
    refine ⟨_,
      (pss_cons (ps_if (pt_cmpR (op_inD (hu65 hr)) (L2.pv 1) (pe_fld (L2.pv 0) rfl) (by rfl)) (pss_one (ps_ret (pe_lst pa_nil))) pss_nil)
        (pss_cons (ps_expr (pe_bm PySem.F.plainAttrs_list PySem.F.slot_list_append PySem.F.type_list_append mt_append (pe_fld (L2.pv 0) rfl) (pa_cons (L2.pv 1) pa_nil)))
        (pss_one (ps_ret (pe_lst (pa_cons (pe_tup (pa_cons (pe_callB call_len_seq (by rfl) T.b_len PySem.boot_len (pa_cons (pe_fld (L2.pv 0) rfl) pa_nil)) (pa_cons (L2.pv 1) pa_nil))) pa_nil))))))
      , ?_⟩
    have hm := o.get 0 rfl
    have hl := o.get 1 rfl
    refine ⟨_, rfl, _, rfl, m, _, md, _, _, rfl, hm, T.c_Diary, T.n_Diary_lines, rfl, c, ds, hv.dp, dp_list (SqL.of hl) hi, shaped_good hc, shaped_list hd (by decide), _, rfl, ?_⟩
    by_cases ha : ds.any (fun z => PyData.eqv z c) = true
    · refine t_yes ha ?_
      refine ⟨Nat.zero_le _, fun p hp => ?_⟩
      obtain ⟨o', x⟩ := o.same (Same.nw (o := .lst []) hp)
      refine k p ls _ x o' ?_
      unfold addLine
      rw [if_pos ha]
      exact hi.go x
    · refine t_no (by simpa using ha) ?_
      refine ⟨_, rfl, m, _, md, _, _, rfl, hm, T.c_Diary, T.n_Diary_lines, rfl, .inl ⟨rfl, _, SqL.of hl⟩, _, rfl, ml, _, _, rfl, rfl, hl, small1e4 (by rw [hi.length]; exact h1000), ?_⟩
      obtain ⟨o1, x1⟩ := o.put 1 rfl trivial (.lst (ls ++ [v]))
      have hm1 := o1.get 0 rfl
      refine ⟨_, rfl, m, _, md, _, _, rfl, hm1, T.c_Diary, T.n_Diary_lines, rfl, ml, _, rfl, .inl (SqL.of upd_same), _, rfl, by show 2 ≤ sizeLine; decide, fun t ht => ?_⟩
      refine ⟨by show 1 ≤ sizeLine; decide, fun p hp => ?_⟩
      obtain ⟨o2, x2⟩ := o1.same ((Same.nw (o := .tup [.int ((ls ++ [v]).length : Nat), v]) ht).trans (Same.nw (o := .lst [.ref t]) hp))
      refine k p (ls ++ [v]) _ (x1.trans x2) o2 ?_
      unfold addLine
      rw [if_neg ha]
      exact (hi.go (x1.trans x2)).append (.cons (hv.go (x1.trans x2)) .nil)
theorem c_Diary_settled (T : Txt K mg) : C8.Met P w K mg base 1 (CD K) "settled" (spSettled K) [] := by
  refine met T.c_Diary T.m_Diary_settled T.f_Diary_settled (N := (["self", "command"] : List Str)) (ps := (["self", "command"] : List Str)) (by decide +kernel) (fun _ _ _ _ _ _ us hl => match us, hl with | [_, _], _ => rfl) (fun vs H Q E h => ?_) (fun cdv A outer s H vs Q E hr h => ?_)
  · obtain ⟨_, _, _, _, _, _, _, rfl, _⟩ := h; rfl
  · obtain ⟨m, md, ml, ls, ds, v, c, rfl, o, hi, hv, hc, hd, k⟩ := h
    refine ⟨_,
      (pss_one (ps_ret (pe_cmpR (op_inD (hu65 hr)) (L2.pv 1) (pe_fld (L2.pv 0) rfl) (by rfl))))
      , ?_⟩
    have hm := o.get 0 rfl
    have hl := o.get 1 rfl
    exact ⟨_, rfl, _, rfl, m, _, md, _, _, rfl, hm, T.c_Diary, T.n_Diary_lines, rfl, c, ds, hv.dp, dp_list (SqL.of hl) hi, shaped_good hc, shaped_list hd (by decide), k⟩
theorem c_Acceptor_hears (T : Txt K mg) : C8.Met P w K mg base 1 (CA K) "hears" (spHears K) [] := by
  refine met T.c_Acceptor T.m_Acceptor_hears T.f_Acceptor_hears (N := (["self", "ballot"] : List Str)) (ps := (["self", "ballot"] : List Str)) (by decide +kernel) (fun _ _ _ _ _ _ us hl => match us, hl with | [_, _], _ => rfl) (fun vs H Q E h => ?_) (fun cdv A outer s H vs Q E hr h => ?_)
  · obtain ⟨_, _, _, _, _, _, _, _, _, rfl, _⟩ := h; rfl
  · obtain ⟨ac, ad, a, b, av, n1, n2, m1, m2, rfl, hac, hA, hB, k⟩ := h
    refine ⟨_,
      (pss_one (ps_ret (pe_cmpR (op_geT hr.units0) (L2.pv 1) (pe_fld (L2.pv 0) rfl) (nomark _))))
      , ?_⟩
    exact ⟨_, rfl, _, rfl, ac, _, ad, _, _, rfl, hac, T.c_Acceptor, T.n_Acceptor_promised, rfl, b, a, _, _, _, _, rfl, rfl, hB, hA, k⟩
theorem c_Acceptor_promise (T : Txt K mg) : C8.Met P w K mg base 1 (CA K) "promise" (spPromise K) [] := by
  refine met T.c_Acceptor T.m_Acceptor_promise T.f_Acceptor_promise (N := (["self", "ballot"] : List Str)) (ps := (["self", "ballot"] : List Str)) (by decide +kernel) (fun _ _ _ _ _ _ us hl => match us, hl with | [_, _], _ => rfl) (fun vs H Q E h => ?_) (fun cdv A outer s H vs Q E hr h => ?_)
  · obtain ⟨_, _, _, _, _, rfl, _⟩ := h; rfl
  · obtain ⟨ac, ad, pv, av, v, rfl, o, k⟩ := h
    refine ⟨_,
      (pss_one (ps_fld (L2.pv 0) (L2.pv 1) rfl))
      , ?_⟩
    obtain ⟨o1, x1⟩ := o.put 0 rfl trivial (.ins (CA K) ad [("promised", v), ("accepted", av)])
    exact ⟨_, rfl, _, rfl, ac, _, ad, _, rfl, o.get 0 rfl, T.c_Acceptor, T.n_Acceptor_promised, (by show 2 < 1000; decide), k _ x1 o1⟩
theorem c_Acceptor_accept (T : Txt K mg) : C8.Met P w K mg base 1 (CA K) "accept" (spAccept K) [] := by
  refine met T.c_Acceptor T.m_Acceptor_accept T.f_Acceptor_accept (N := (["self", "ballot", "entry"] : List Str)) (ps := (["self", "ballot", "entry"] : List Str)) (by decide +kernel) (fun _ _ _ _ _ _ us hl => match us, hl with | [_, _, _], _ => rfl) (fun vs H Q E h => ?_) (fun cdv A outer s H vs Q E hr h => ?_)
  · obtain ⟨_, _, _, _, _, _, rfl, _⟩ := h; rfl
  · obtain ⟨ac, ad, pv, av, v, e, rfl, o, k⟩ := h
    refine ⟨_,
      (pss_cons (ps_fld (L2.pv 0) (L2.pv 1) rfl)
        (pss_one (ps_fld (L2.pv 0) (pe_tup (pa_cons (L2.pv 1) (pa_cons (L2.pv 2) pa_nil))) rfl)))
      , ?_⟩
    obtain ⟨o1, x1⟩ := o.put 0 rfl trivial (.ins (CA K) ad [("promised", v), ("accepted", av)])
    refine ⟨_, rfl, _, rfl, ac, _, ad, _, rfl, o.get 0 rfl, T.c_Acceptor, T.n_Acceptor_promised, (by show 2 < 1000; decide), ?_⟩
    refine ⟨_, rfl, _, rfl, by show 2 ≤ sizeLine; decide, fun t ht => ?_⟩
    obtain ⟨o2, x2⟩ := o1.same (Same.nw (o := .tup [v, e]) ht)
    obtain ⟨o3, x3⟩ := o2.put 0 rfl trivial (.ins (CA K) ad [("promised", v), ("accepted", .ref t)])
    have et := x3.tups _ _ (show upd _ t (.tup [v, e]) t = _ from upd_same)
    exact ⟨_, rfl, ac, _, ad, _, rfl, o2.get 0 rfl, T.c_Acceptor, T.n_Acceptor_accepted, (by show 2 < 1000; decide), k t _ ((x1.trans x2).trans x3) o3 et⟩
theorem b_Acceptor_init (T : Txt K mg) : Body P w K mg base 0 ((["self", "promised", "accepted"] : List Str)) "Acceptor.__init__" s_Acceptor_init (d_Acceptor_init.ad K) (spAInit K) := by
  intro cdv A outer s H vs Q E hr h
  obtain ⟨ac, ad, pv, av, rfl, hac, k⟩ := h
  refine ⟨_,
    (pss_cons (ps_fld (L2.pv 0) (L2.pv 1) rfl)
        (pss_one (ps_fld (L2.pv 0) (L2.pv 2) rfl)))
    , ?_⟩
  refine ⟨_, rfl, _, rfl, ac, _, ad, _, rfl, hac, T.c_Acceptor, T.n_Acceptor_promised, (by show 0 < 1000; decide), ?_⟩
  refine ⟨_, rfl, _, rfl, ac, _, ad, _, rfl, upd_same, T.c_Acceptor, T.n_Acceptor_accepted, (by show 1 < 1000; decide), ?_⟩
  have x1 : Go (fun x => x = ac) H (fun x => x = ac) (upd H ac (.ins (CA K) ad [("promised", pv)])) := Go.put rfl hac trivial
  have x2 : Go (fun x => x = ac) (upd H ac (.ins (CA K) ad [("promised", pv)])) (fun x => x = ac) (upd (upd H ac (.ins (CA K) ad [("promised", pv)])) ac (.ins (CA K) ad [("promised", pv), ("accepted", av)])) := Go.put rfl upd_same trivial
  refine k _ (x1.trans x2) ⟨fun q hq => ?_, by simp⟩
  obtain rfl : q = _ := by simpa using hq
  exact upd_same
theorem len_AInit : Fix (spAInit K) ((["self", "promised", "accepted"] : List Str)) := fun vs H Q E h => by obtain ⟨_, _, _, _, rfl, _⟩ := h; rfl
theorem c_Acceptor_init2 (T : Txt K mg) : C8.Mak P w K mg base 1 "Acceptor" (CA K) (spAInit K) [] := by
  obtain ⟨fd, F⟩ := T.f_Acceptor_init
  obtain ⟨ds, r, b⟩ := FunD.binds1 (ps := (["self", "promised", "accepted"] : List Str)) F 3 2 (by simp [d_Acceptor_init]) rfl fun T kV doc pm an cdv ct us its h1 h2 => by
    match us, h1, its, h2 with
    | [_, _, _], _, [_, _], _ => exact ⟨_, rfl, rfl⟩
  exact ⟨_, fd, (["self", "promised", "accepted"] : List Str), ds, T.k_Acceptor, ok_of F (N := (["self", "promised", "accepted"] : List Str)) (by decide +kernel) len_AInit (b_Acceptor_init T), T.g_Acceptor, b, r⟩
theorem c_Acceptor_init0 (T : Txt K mg) : C8.Mak P w K mg base 1 "Acceptor" (CA K) (spAInit K) [.ref (He.ga K "NO_BALLOT"), .non] := by
  obtain ⟨fd, F⟩ := T.f_Acceptor_init
  obtain ⟨ds, r, b⟩ := FunD.binds1 (ps := (["self", "promised", "accepted"] : List Str)) F 1 0 (by simp [d_Acceptor_init]) rfl fun T kV doc pm an cdv ct us its h1 h2 => by
    match us, h1, its, h2 with
    | [_], _, [_, _], _ => exact ⟨_, rfl, rfl⟩
  exact ⟨_, fd, (["self", "promised", "accepted"] : List Str), ds, T.k_Acceptor, ok_of F (N := (["self", "promised", "accepted"] : List Str)) (by decide +kernel) len_AInit (b_Acceptor_init T), T.g_Acceptor, b, r⟩
theorem c_Acceptor_fork (T : Txt K mg) : C8.Met P w K mg base 3 (CA K) "fork" (spAFork K) [] := by
  refine met T.c_Acceptor T.m_Acceptor_fork T.f_Acceptor_fork (N := (["self"] : List Str)) (ps := (["self"] : List Str)) (by decide +kernel) (fun _ _ _ _ _ _ us hl => match us, hl with | [_], _ => rfl) (fun vs H Q E h => ?_) (fun cdv A outer s H vs Q E hr h => ?_)
  · obtain ⟨_, _, _, _, rfl, _⟩ := h; rfl
  · obtain ⟨ac, ad, pv, av, rfl, hac, k⟩ := h
    refine ⟨_,
      (pss_one (ps_ret (C8.pe_mk (c_Acceptor_init2 T) hr (by decide) rfl (pa_cons (pe_fld (L2.pv 0) rfl) (pa_cons (pe_fld (L2.pv 0) rfl) pa_nil)))))
      , ?_⟩
    refine ⟨_, rfl, ac, _, ad, _, _, rfl, hac, T.c_Acceptor, T.n_Acceptor_promised, rfl, _, rfl, ac, _, ad, _, _, rfl, hac, T.c_Acceptor, T.n_Acceptor_accepted, rfl, fun b bd nb nbd ne => ?_⟩
    exact ⟨b, bd, pv, av, rfl, upd_same, fun H1 x1 o1 => ⟨rfl, k b bd H1 nb (made_same nb nbd x1) o1⟩⟩
end
end Ck
/-! W9 -/
set_option maxHeartbeats 4000000
namespace Ck
open PySem PySem.Spec PyProof.Rows L2
/-! ### the journal -/
abbrev CJ (K : PySem.W.Frag) : Addr := He.ga K "Journal"
abbrev jl (K : PySem.W.Frag) (j jd jr : Addr) (rows : List V) (safe : Nat) : Ob := [(j, .ins (CJ K) jd [("rows", .ref jr), ("safe", .int safe)]), (jr, .lst rows)]
def spJInit (K : PySem.W.Frag) : Sp := fun vs H Q _ => ∃ (j jd : Addr), vs = [.ref j] ∧ H j = some (.ins (CJ K) jd []) ∧ ∀ (jr : Addr) H', H jr = none → Go (fun x => x = j) H (fun x => x = j) H' → Own H' (jl K j jd jr [] 0) → Q .non H'
def spJAppend (K : PySem.W.Frag) : Sp := fun vs H Q _ => ∃ (j jd jr a : Addr) (rows : List V) (safe : Nat) (ns : List Int), vs = [.ref j, .ref a] ∧ Own H (jl K j jd jr rows safe) ∧ SqL K H a (ns.map V.int) ∧ rows.length ≤ 1000 ∧
  ∀ q H', H q = none → Go (Ft (jl K j jd jr rows safe)) H (Ft (jl K j jd jr (rows ++ [.ref q]) safe)) H' → Own H' (jl K j jd jr (rows ++ [.ref q]) safe) → H' q = some (.lst (ns.map V.int)) → Q .non H'
def spJSync (K : PySem.W.Frag) : Sp := fun vs H Q _ => ∃ (j jd jr : Addr) (rows : List V) (safe : Nat), vs = [.ref j] ∧ Own H (jl K j jd jr rows safe) ∧
  ∀ H', Go (Ft (jl K j jd jr rows safe)) H (Ft (jl K j jd jr rows rows.length)) H' → Own H' (jl K j jd jr rows rows.length) → Q .non H'
def spJCount (K : PySem.W.Frag) : Sp := fun vs H Q _ => ∃ (j jd jr : Addr) (rows : List V) (safe : Nat), vs = [.ref j] ∧ Own H (jl K j jd jr rows safe) ∧ Q (.int rows.length) H
def spJSynced (K : PySem.W.Frag) : Sp := fun vs H Q _ => ∃ (j jd jr : Addr) (rows : List V) (safe : Nat), vs = [.ref j] ∧ Own H (jl K j jd jr rows safe) ∧ Q (.int safe) H
def spJPayloads (K : PySem.W.Frag) : Sp := fun vs H Q _ => ∃ (j jd jr : Addr) (rows : List V) (safe : Nat) (F : Addr → Prop) (ps : List (List Int)), vs = [.ref j] ∧ Own H (jl K j jd jr rows safe) ∧ Pays F H rows ps ∧ ps.length ≤ 1000 ∧
  ∀ D us H', H D = none → Same H H' → H' D = some (.lst us) → Pays (fun a => Old H a ∨ a = D) H' us ps → Q (.ref D) H'
def spJFork (K : PySem.W.Frag) : Sp := fun vs H Q _ => ∃ (j jd jr : Addr) (rows : List V) (safe : Nat), vs = [.ref j] ∧ Own H (jl K j jd jr rows safe) ∧
  ∀ b bd br H', (∀ a, Ft (jl K b bd br rows safe) a → H a = none) → Same H H' → Own H' (jl K b bd br rows safe) → Q (.ref b) H'
def spJCrash (K : PySem.W.Frag) : Sp := fun vs H Q _ => ∃ (j jd jr : Addr) (rows : List V) (safe c : Nat) (F : Addr → Prop) (ps : List (List Int)), vs = [.ref j, .int c] ∧ Own H (jl K j jd jr rows safe) ∧ Pays F H rows ps ∧ (∀ p ∈ ps, p.length < 65536) ∧ ps.length ≤ 1000 ∧
  (ps.flatMap frm).length ≤ 10000000 ∧ safe ≤ ps.length ∧
  ∀ jr' news H', H jr' = none → Go (Ft (jl K j jd jr rows safe)) H (Ft (jl K j jd jr' (rows.take safe ++ news) (safe + news.length))) H' → Own H' (jl K j jd jr' (rows.take safe ++ news) (safe + news.length)) →
    Pays (fun a => Old H a ∨ a = jr') H' news ((ps.drop safe).take (kept (ps.drop safe) c)) → Q .non H'
section
variable {P : Program} {w : World} {K : PySem.W.Frag} {mg : Str → Option Value} {base : Heap}
theorem c_Journal_init (T : Txt K mg) : C8.Mak P w K mg base 1 "Journal" (CJ K) (spJInit K) [] := by
  refine mak T.k_Journal T.g_Journal T.f_Journal_init (N := (["self"] : List Str)) (ps := (["self"] : List Str)) (by decide +kernel) (fun _ _ _ _ _ _ us hl => match us, hl with | [_], _ => rfl) (fun vs H Q E h => ?_) (fun cdv A outer s H vs Q E hr h => ?_)
  · obtain ⟨_, _, rfl, _⟩ := h; rfl
  · obtain ⟨m, md, rfl, hm, k⟩ := h
    refine ⟨_,
      (pss_cons (ps_fld (L2.pv 0) (pe_lst pa_nil) rfl)
        (pss_one (ps_fld (L2.pv 0) pe_int rfl)))
      , ?_⟩
    refine ⟨Nat.zero_le _, fun ml hl => ?_⟩
    have ne : m ≠ ml := ne_of_none hm hl
    have hm' : (upd H ml (.lst [])) m = some (.ins (CJ K) md []) := by rw [upd_ne ne]; exact hm
    refine ⟨_, rfl, m, _, md, _, rfl, hm', T.c_Journal, T.n_Journal_rows, (by show 0 < 1000; decide), ?_⟩
    refine ⟨_, rfl, m, _, md, _, rfl, upd_same, T.c_Journal, T.n_Journal_safe, (by show 1 < 1000; decide), ?_⟩
    have x1 : Go (fun x => x = m) H (fun x => x = m) (upd H ml (.lst [])) := Go.new hl
    have x2 : Go (fun x => x = m) (upd H ml (.lst [])) (fun x => x = m) (upd (upd H ml (.lst [])) m (.ins (CJ K) md [("rows", .ref ml)])) := Go.put rfl hm' trivial
    have x3 : Go (fun x => x = m) (upd (upd H ml (.lst [])) m (.ins (CJ K) md [("rows", .ref ml)])) (fun x => x = m) (upd (upd (upd H ml (.lst [])) m (.ins (CJ K) md [("rows", .ref ml)])) m (.ins (CJ K) md [("rows", .ref ml), ("safe", .int (0 : Nat))])) := Go.put rfl upd_same trivial
    refine k ml _ hl ((x1.trans x2).trans x3) ⟨fun q hq => ?_, ?_⟩
    · rcases List.mem_cons.mp hq with rfl | hq
      · exact upd_same
      · obtain rfl : q = _ := by simpa using hq
        show upd (upd (upd H ml (.lst [])) m _) m _ ml = _
        rw [upd_ne ne.symm, upd_ne ne.symm]; exact upd_same
    · simpa using ne
theorem c_Journal_append (T : Txt K mg) : C8.Met P w K mg base 1 (CJ K) "append" (spJAppend K) [] := by
  refine met T.c_Journal T.m_Journal_append T.f_Journal_append (N := (["self", "payload"] : List Str)) (ps := (["self", "payload"] : List Str)) (by decide +kernel) (fun _ _ _ _ _ _ us hl => match us, hl with | [_, _], _ => rfl) (fun vs H Q E h => ?_) (fun cdv A outer s H vs Q E hr h => ?_)
  · obtain ⟨_, _, _, _, _, _, _, rfl, _⟩ := h; rfl
  · obtain ⟨j, jd, jr, a, rows, safe, ns, rfl, o, hA, h1000, k⟩ := h
    refine ⟨_,
      (pss_one (ps_expr (pe_bm PySem.F.plainAttrs_list PySem.F.slot_list_append PySem.F.type_list_append mt_append (pe_fld (L2.pv 0) rfl) (pa_cons (pe_callTy call_list_of (by rfl) T.b_list bt_list (pa_cons (L2.pv 1) pa_nil)) pa_nil))))
      , ?_⟩
    have hj := o.get 0 rfl
    have hl := o.get 1 rfl
    refine ⟨_, rfl, j, _, jd, _, _, rfl, hj, T.c_Journal, T.n_Journal_rows, rfl, .inl ⟨rfl, _, SqL.of hl⟩, _, rfl, a, _, rfl, .inl hA, fun q hq => ?_⟩
    obtain ⟨o1, x1⟩ := o.same (Same.nw (o := .lst (ns.map V.int)) hq)
    refine ⟨jr, _, _, rfl, rfl, o1.get 1 rfl, small1000 h1000, ?_⟩
    obtain ⟨o2, x2⟩ := o1.put 1 rfl trivial (.lst (rows ++ [.ref q]))
    refine k q _ hq (x1.trans x2) o2 ?_
    rw [upd_ne (ne_of_none hl hq).symm]; exact upd_same
theorem c_Journal_sync (T : Txt K mg) : C8.Met P w K mg base 1 (CJ K) "sync" (spJSync K) [] := by
  refine met T.c_Journal T.m_Journal_sync T.f_Journal_sync (N := (["self"] : List Str)) (ps := (["self"] : List Str)) (by decide +kernel) (fun _ _ _ _ _ _ us hl => match us, hl with | [_], _ => rfl) (fun vs H Q E h => ?_) (fun cdv A outer s H vs Q E hr h => ?_)
  · obtain ⟨_, _, _, _, _, rfl, _⟩ := h; rfl
  · obtain ⟨j, jd, jr, rows, safe, rfl, o, k⟩ := h
    refine ⟨_,
      (pss_one (ps_fld (L2.pv 0) (pe_callB call_len_seq (by rfl) T.b_len PySem.boot_len (pa_cons (pe_fld (L2.pv 0) rfl) pa_nil)) rfl))
      , ?_⟩
    have hj := o.get 0 rfl
    have hl := o.get 1 rfl
    refine ⟨_, rfl, j, _, jd, _, _, rfl, hj, T.c_Journal, T.n_Journal_rows, rfl, jr, _, rfl, .inl (SqL.of hl), _, rfl, j, _, jd, _, rfl, hj, T.c_Journal, T.n_Journal_safe, (by show 2 < 1000; decide), ?_⟩
    obtain ⟨o1, x1⟩ := o.put 0 rfl trivial (.ins (CJ K) jd [("rows", .ref jr), ("safe", .int rows.length)])
    exact k _ x1 o1
theorem c_Journal_frame_count (T : Txt K mg) : Prop1 P w K mg base 1 (CJ K) "frame_count" (spJCount K) := by
  refine prp T.c_Journal T.p_Journal_frame_count T.f_Journal_frame_count (N := (["self"] : List Str)) (ps := (["self"] : List Str)) (by decide +kernel) (fun _ _ _ _ _ _ us hl => match us, hl with | [_], _ => rfl) (fun vs H Q E h => ?_) (fun cdv A outer s H vs Q E hr h => ?_)
  · obtain ⟨_, _, _, _, _, rfl, _⟩ := h; rfl
  · obtain ⟨j, jd, jr, rows, safe, rfl, o, k⟩ := h
    refine ⟨_,
      (pss_one (ps_ret (pe_callB call_len_seq (by rfl) T.b_len PySem.boot_len (pa_cons (pe_fld (L2.pv 0) rfl) pa_nil))))
      , ?_⟩
    exact ⟨_, rfl, j, _, jd, _, _, rfl, o.get 0 rfl, T.c_Journal, T.n_Journal_rows, rfl, jr, _, rfl, .inl (SqL.of (o.get 1 rfl)), k⟩
theorem c_Journal_synced_frames (T : Txt K mg) : Prop1 P w K mg base 1 (CJ K) "synced_frames" (spJSynced K) := by
  refine prp T.c_Journal T.p_Journal_synced_frames T.f_Journal_synced_frames (N := (["self"] : List Str)) (ps := (["self"] : List Str)) (by decide +kernel) (fun _ _ _ _ _ _ us hl => match us, hl with | [_], _ => rfl) (fun vs H Q E h => ?_) (fun cdv A outer s H vs Q E hr h => ?_)
  · obtain ⟨_, _, _, _, _, rfl, _⟩ := h; rfl
  · obtain ⟨j, jd, jr, rows, safe, rfl, o, k⟩ := h
    refine ⟨_,
      (pss_one (ps_ret (pe_fld (L2.pv 0) rfl)))
      , ?_⟩
    exact ⟨_, rfl, j, _, jd, _, _, rfl, o.get 0 rfl, T.c_Journal, T.n_Journal_safe, rfl, k⟩
theorem c_Journal_payloads (T : Txt K mg) : C8.Met P w K mg base 1 (CJ K) "payloads" (spJPayloads K) [] := by
  refine met T.c_Journal T.m_Journal_payloads T.f_Journal_payloads (N := (["self", "payload"] : List Str)) (ps := (["self"] : List Str)) (by decide +kernel) (fun _ _ _ _ _ _ us hl => match us, hl with | [_], _ => rfl) (fun vs H Q E h => ?_) (fun cdv A outer s H vs Q E hr h => ?_)
  · obtain ⟨_, _, _, _, _, _, _, rfl, _⟩ := h; rfl
  · obtain ⟨j, jd, jr, rows, safe, F, ps, rfl, o, hp, h1000, k⟩ := h
    have nd : ((["self", "payload"] : List Str)).Nodup := by decide +kernel
    refine ⟨_,
      (pss_one (ps_ret (pe_lc (by rfl) nd (pi_list (pe_fld (L2.pv 0) rfl)) (blkOk_by (own := [("payload", 1)]) (N := ["self", "payload"]) (sc := defScope s_Journal_payloads) (by decide +kernel)) (fun _ _ _ _ _ => pg_name (i := 1) nd rfl (by first | exact Or.inl rfl | exact Or.inr rfl)) (fun _ _ _ _ _ => pts_nil) (fun _ _ _ _ _ => (pe_callTy (call_list_ofK (K := K) rfl) (by rfl) T.b_list bt_list (pa_cons (L2.pv 1) pa_nil))))))
      , ?_⟩
    have hl := o.get 1 rfl
    refine ⟨_, rfl, j, _, jd, _, _, rfl, o.get 0 rfl, T.c_Journal, T.n_Journal_rows, rfl, jr, rfl, ⟨_, SqL.of hl⟩, fun D hD => ?_⟩
    refine lc_it (walk_list (xs := rows)) (fun i H' => Same H H' ∧ ∃ us, H' D = some (.lst us) ∧ Pays (fun a => Old H a ∨ a = D) H' us (ps.take i)) ⟨Same.nw hD, [], upd_same, .nil⟩ (fun i H' _ p => p.1.seq (SqL.of hl)) ?_ ?_
    · rintro i x H1 H2 hi ⟨s1, us, h1, hu⟩ ⟨rfl, hx⟩
      obtain ⟨p, hpi, q, rfl, hq⟩ := hp.of hx
      have hq1 := s1 _ _ hq.1
      refine ⟨rfl, _, rfl, q, _, rfl, .inl (SqL.of hq1), fun b hb => ?_⟩
      have nDb : D ≠ b := ne_of_none h1 hb
      have hul : us.length ≤ 1000 := by rw [hu.length, List.length_take]; omega
      refine ⟨us, by rw [upd_ne nDb]; exact h1, small1000 hul, (s1.trans (Same.nw hb)).mt hD, us ++ [.ref b], upd_same, ?_⟩
      have x1 : Go (fun a => Old H a ∨ a = D) H2 (fun a => Old H a ∨ a = D) (upd H2 b (.lst (p.map V.int))) := Go.new hb
      have x2 : Go (fun a => Old H a ∨ a = D) (upd H2 b (.lst (p.map V.int))) (fun a => Old H a ∨ a = D) (upd (upd H2 b (.lst (p.map V.int))) D (.lst (us ++ [.ref b]))) := Go.put (u := .lst us) (.inr rfl) (by rw [upd_ne nDb]; exact h1) trivial
      have e : ps.take (i + 1) = ps.take i ++ [p] := by rw [List.take_succ, hpi]; rfl
      rw [e]
      refine (hu.go (x1.trans x2)).append (.cons ⟨b, rfl, ?_, ?_⟩ .nil)
      · rw [upd_ne nDb.symm]; exact upd_same
      · rintro (⟨u, hu'⟩ | z)
        · exact absurd (s1 _ _ hu') (by rw [hb]; exact fun z => nomatch z)
        · exact nDb z.symm
    · rintro H1 ⟨s1, us, h1, hu⟩
      rw [hp.length, List.take_length] at hu
      exact k D us H1 hD s1 h1 hu
theorem c_Journal_fork (T : Txt K mg) : C8.Met P w K mg base 3 (CJ K) "fork" (spJFork K) [] := by
  refine met T.c_Journal T.m_Journal_fork T.f_Journal_fork (N := (["self", "twin"] : List Str)) (ps := (["self"] : List Str)) (by decide +kernel) (fun _ _ _ _ _ _ us hl => match us, hl with | [_], _ => rfl) (fun vs H Q E h => ?_) (fun cdv A outer s H vs Q E hr h => ?_)
  · obtain ⟨_, _, _, _, _, rfl, _⟩ := h; rfl
  · obtain ⟨j, jd, jr, rows, safe, rfl, o, k⟩ := h
    have nd : ((["self", "twin"] : List Str)).Nodup := by decide +kernel
    refine ⟨_,
      (pss_cons (ps_set (i := 1) nd rfl (by first | exact Or.inl rfl | exact Or.inr rfl) (pe_mk0 (c_Journal_init T) hr (by decide) rfl))
        (pss_cons (ps_fld (L2.pv 1) (pe_callTy call_list_of (by rfl) T.b_list bt_list (pa_cons (pe_fld (L2.pv 0) rfl) pa_nil)) rfl)
        (pss_cons (ps_fld (L2.pv 1) (pe_fld (L2.pv 0) rfl) rfl)
        (pss_one (ps_ret (L2.pv 1))))))
      , ?_⟩
    refine fun b bd nb nbd ne => ⟨b, bd, rfl, upd_same, fun br H1 n1 x1 o1 => ⟨rfl, ?_⟩⟩
    have s1 : Same H H1 := made_same nb nbd x1
    obtain ⟨oj, _⟩ := o.same s1
    have nbr : H br = none := by
      have : (upd (upd H bd (.own b)) b (.ins (CJ K) bd [])) br = none := n1
      have z1 : br ≠ b := fun z => by rw [z, upd_same] at this; cases this
      rw [upd_ne z1] at this
      have z2 : br ≠ bd := fun z => by rw [z, upd_same] at this; cases this
      rw [upd_ne z2] at this
      exact this
    -- twin.rows = list(self.rows)
    refine ⟨_, rfl, j, _, jd, _, _, rfl, oj.get 0 rfl, T.c_Journal, T.n_Journal_rows, rfl, jr, _, rfl, .inl (SqL.of (oj.get 1 rfl)), fun c hc => ?_⟩
    have s2 := s1.trans (Same.nw (o := .lst rows) hc)
    obtain ⟨o2, x2⟩ := o1.new 1 (Same.nw (o := .lst rows) hc) hc upd_same
    refine ⟨_, rfl, b, _, bd, _, rfl, o2.get 0 rfl, T.c_Journal, T.n_Journal_rows, (by show 2 < 1000; decide), ?_⟩
    obtain ⟨o3, x3⟩ := o2.put 0 rfl trivial (.ins (CJ K) bd [("rows", .ref c), ("safe", .int (0 : Nat))])
    have s3 : Same H (upd (upd H1 c (.lst rows)) b (.ins (CJ K) bd [("rows", .ref c), ("safe", .int (0 : Nat))])) := s2.mt nb
    obtain ⟨oj3, _⟩ := o.same s3
    refine ⟨_, rfl, j, _, jd, _, _, rfl, oj3.get 0 rfl, T.c_Journal, T.n_Journal_safe, rfl, _, rfl, b, _, bd, _, rfl, o3.get 0 rfl, T.c_Journal, T.n_Journal_safe, (by show 2 < 1000; decide), ?_⟩
    obtain ⟨o4, x4⟩ := o3.put 0 rfl trivial (.ins (CJ K) bd [("rows", .ref c), ("safe", .int safe)])
    refine ⟨_, rfl, k b bd c _ (fun a f => ?_) (s3.mt nb) o4⟩
    have f : a ∈ [b, c] := f
    rcases List.mem_cons.mp f with rfl | f
    · exact nb
    · obtain rfl : a = c := by simpa using f
      exact s1.back hc
end
end Ck
/-! W10 -/
set_option maxHeartbeats 4000000
namespace Ck
open PySem PySem.Spec PyProof.Rows L2
theorem old_mono {H H' : Hp} (s : Same H H') {a : Addr} (h : Old H a) : Old H' a := h.elim fun o e => ⟨o, s _ _ e⟩
theorem Pays.apart {F : Addr → Prop} {H : Hp} {b : Addr} (n : H b = none) : ∀ {vs : List V} {ps : List (List Int)}, Pays F H vs ps → Pays (fun a => F a ∨ a = b) H vs ps
  | _, _, .nil => .nil
  | _, _, .cons ⟨q, e, h⟩ r => .cons ⟨q, e, h.1, fun z => z.elim h.2 fun z => by rw [← z, h.1] at n; cases n⟩ (r.apart n)
section
variable {P : Program} {w : World} {K : PySem.W.Frag} {mg : Str → Option Value} {base : Heap}
theorem c_Journal_crash (T : Txt K mg) : C8.Met P w K mg base 4 (CJ K) "crash" (spJCrash K) [] := by
  refine met T.c_Journal T.m_Journal_crash T.f_Journal_crash (N := (["self", "count", "octets", "payload", "found"] : List Str)) (ps := (["self", "count"] : List Str)) (by decide +kernel) (fun _ _ _ _ _ _ us hl => match us, hl with | [_, _], _ => rfl) (fun vs H Q E h => ?_) (fun cdv A outer s H vs Q E hr h => ?_)
  · obtain ⟨_, _, _, _, _, _, _, _, rfl, _⟩ := h; rfl
  · obtain ⟨j, jd, jr, rows, safe, c, F, ps, rfl, o, hp, h64, h1000, hbig, hsf, k⟩ := h
    have nd : ((["self", "count", "octets", "payload", "found"] : List Str)).Nodup := by decide +kernel
    refine ⟨_,
      (pss_cons (ps_set (i := 2) nd rfl (by first | exact Or.inl rfl | exact Or.inr rfl) (pe_lst pa_nil))
        (pss_cons (ps_for PassesOwn.never rfl (pi_list (pe_slice sl_list (pe_fld (L2.pv 0) rfl) (po_some (pe_fld (L2.pv 0) rfl)) po_none)) (pg_name (i := 3) nd rfl (by first | exact Or.inl rfl | exact Or.inr rfl)) (pss_one (ps_expr (pe_bm PySem.F.plainAttrs_list PySem.F.slot_list_extend PySem.F.type_list_extend mt_extend (L2.pv 2) (pa_cons (C8.pe_c (c_frame T) hr (by decide) rfl (pa_cons (L2.pv 3) pa_nil)) pa_nil)))))
        (pss_cons (ps_set (i := 4) nd rfl (by first | exact Or.inl rfl | exact Or.inr rfl) (pe_ix ix_tup (C8.pe_c (c_read_frames T) hr (by decide) rfl (pa_cons (pe_slice sl_list (L2.pv 2) po_none (po_some (L2.pv 1))) pa_nil)) pe_int (fun _ _ => rfl)))
        (pss_cons (ps_fld (L2.pv 0) (pe_op op_cat (pe_slice sl_list (pe_fld (L2.pv 0) rfl) po_none (po_some (pe_fld (L2.pv 0) rfl))) (L2.pv 4)) rfl)
        (pss_one (ps_fld (L2.pv 0) (pe_callB call_len_seq (by rfl) T.b_len PySem.boot_len (pa_cons (pe_fld (L2.pv 0) rfl) pa_nil)) rfl))))))
      , ?_⟩
    have line : ∀ n, n ≤ 10000000 → n ≤ sizeLine := fun n h => Nat.le_trans h (by decide)
    -- octets = []
    refine ⟨Nat.zero_le _, fun oc hoc => ?_⟩
    have s1 : Same H (upd H oc (.lst [])) := Same.nw hoc
    obtain ⟨o1, _⟩ := o.same s1
    -- for payload in self.rows[self.safe:]
    refine ⟨_, rfl, j, _, jd, _, _, rfl, o1.get 0 rfl, T.c_Journal, T.n_Journal_rows, rfl, _, rfl, j, _, jd, _, _, rfl, o1.get 0 rfl, T.c_Journal, T.n_Journal_safe, rfl, _, rfl, jr, _, rfl, SqL.of (o1.get 1 rfl), fun sl hsl => ?_⟩
    have s2 : Same H (upd (upd H oc (.lst [])) sl (.lst (rows.drop safe))) := s1.trans (Same.nw hsl)
    have oc_sl : oc ≠ sl := ne_of_none upd_same hsl
    have hsl0 : H sl = none := s1.back hsl
    rw [cut_from]
    have hpd := hp.drop safe
    refine ⟨sl, rfl, ⟨_, SqL.of upd_same⟩, for_it (walk_list (xs := rows.drop safe)) (fun i σ H' => Same H H' ∧ H' sl = some (.lst (rows.drop safe)) ∧ H' oc = some (.lst ((((ps.drop safe).take i).flatMap frm).map V.int)) ∧ ∃ v3 v4, σ = [some (.ref j), some (.int c), some (.ref oc), v3, v4])
      ⟨s2, upd_same, by rw [upd_ne oc_sl]; exact upd_same, none, none, rfl⟩ (fun i σ H' _ p => SqL.of p.2.1) ?_ ?_⟩
    · rintro i x σ H1 H1' hi ⟨t1, t2, t3, v3, v4, rfl⟩ ⟨rfl, hx⟩
      obtain ⟨p, hpi, q, rfl, hq⟩ := hpd.of hx
      have hp64 : p.length < 65536 := h64 p (List.mem_of_mem_drop (List.mem_of_getElem? hpi))
      have hsum : ∀ m, (((ps.drop safe).take m).flatMap frm).length ≤ 10000000 := fun m => by
        refine Nat.le_trans ?_ hbig
        have e : ps.flatMap frm = (ps.take safe).flatMap frm ++ (((ps.drop safe).take m).flatMap frm ++ ((ps.drop safe).drop m).flatMap frm) := by
          rw [← List.flatMap_append, List.take_append_drop, ← List.flatMap_append, List.take_append_drop]
        rw [e, List.length_append, List.length_append]; omega
      have e1 : (ps.drop safe).take (i + 1) = (ps.drop safe).take i ++ [p] := by rw [List.take_succ, hpi]; rfl
      have hs1 := hsum (i + 1)
      rw [e1, List.flatMap_append, List.length_append] at hs1
      simp only [List.flatMap_cons, List.flatMap_nil, List.append_nil] at hs1
      refine ⟨_, rfl, .inl ⟨rfl, _, SqL.of t3⟩, _, rfl, q, p, rfl, SqL.of (t1 _ _ hq.1), by omega, fun f H2 nf sf hf => ?_⟩
      refine ⟨oc, f, _, _, rfl, rfl, sf _ _ t3, hf, line _ (by rw [List.length_map, List.length_map]; exact hs1), ?_⟩
      refine ⟨(t1.trans sf).mt hoc, by rw [upd_ne oc_sl.symm]; exact sf _ _ t2, ?_, some (.ref q), v4, rfl⟩
      rw [upd_same, e1, List.flatMap_append, List.map_append]
      simp
    · rintro σ H1 ⟨t1, t2, t3, v3, v4, rfl⟩
      rw [hpd.length, List.take_length] at t3
      -- found = read_frames(octets[:count])[0]
      refine ⟨_, rfl, _, rfl, _, rfl, oc, _, rfl, SqL.of t3, fun cu hcu => ?_⟩
      rw [cut_to]
      have t4 : Same H (upd H1 cu (.lst ((((ps.drop safe).flatMap frm).map V.int).take c))) := t1.trans (Same.nw hcu)
      refine ⟨cu, ps.drop safe, c, rfl, by rw [List.map_take]; exact SqL.of upd_same, fun p hp => h64 p (List.mem_of_mem_drop hp), by rw [List.length_drop]; omega, fun tp l n us H2 nl sl2 htp hl hus => ?_⟩
      have t5 := t4.trans sl2
      have hus2 : Pays (Old H) H2 us ((ps.drop safe).take (kept (ps.drop safe) c)) := hus.less fun a => old_mono t4
      refine ⟨tp, _, _, _, rfl, rfl, SqT.of htp, at_of (j := 0) rfl rfl, ?_⟩
      obtain ⟨o5, x5⟩ := o.same t5
      -- self.rows = self.rows[:self.safe] + found
      refine ⟨_, rfl, j, _, jd, _, _, rfl, o5.get 0 rfl, T.c_Journal, T.n_Journal_rows, rfl, _, rfl, j, _, jd, _, _, rfl, o5.get 0 rfl, T.c_Journal, T.n_Journal_safe, rfl, _, rfl, jr, _, rfl, SqL.of (o5.get 1 rfl), fun ca hca => ?_⟩
      rw [cut_to]
      have lca : l ≠ ca := ne_of_none hl hca
      have hul : us.length ≤ 1000 := by rw [hus2.length, List.length_take, List.length_drop]; omega
      have hrl := hp.length
      refine ⟨_, rfl, ca, l, _, _, rfl, rfl, upd_same, by rw [upd_ne lca]; exact hl, line _ (by rw [List.length_take]; omega), fun jn hjn => ?_⟩
      have e6 : Same H2 (upd (upd H2 ca (.lst (rows.take safe))) jn (.lst (rows.take safe ++ us))) := (Same.nw hca).trans (Same.nw hjn)
      have njn : H2 jn = none := (Same.nw hca).back hjn
      obtain ⟨o6, x6⟩ := o5.new 1 e6 njn upd_same
      refine ⟨_, rfl, j, _, jd, _, rfl, o6.get 0 rfl, T.c_Journal, T.n_Journal_rows, (by show 2 < 1000; decide), ?_⟩
      obtain ⟨o7, x7⟩ := o6.put 0 rfl trivial (.ins (CJ K) jd [("rows", .ref jn), ("safe", .int safe)])
      -- self.safe = len(self.rows)
      refine ⟨_, rfl, j, _, jd, _, _, rfl, o7.get 0 rfl, T.c_Journal, T.n_Journal_rows, rfl, jn, _, rfl, .inl (SqL.of (o7.get 1 rfl)), _, rfl, j, _, jd, _, rfl, o7.get 0 rfl, T.c_Journal, T.n_Journal_safe, (by show 2 < 1000; decide), ?_⟩
      have el : (rows.take safe ++ us).length = safe + us.length := by rw [List.length_append, List.length_take]; omega
      obtain ⟨o8, x8⟩ := o7.put 0 rfl trivial (.ins (CJ K) jd [("rows", .ref jn), ("safe", .int (safe + us.length : Nat))])
      have e8 : (HO.ins (CJ K) jd [("rows", V.ref jn), ("safe", .int ((rows.take safe ++ us).length : Nat))]) = .ins (CJ K) jd [("rows", V.ref jn), ("safe", .int (safe + us.length : Nat))] := by rw [el]
      have g := ((x5.trans x6).trans x7).trans x8
      have njH : H jn = none := t5.back njn
      have p8 : Pays (fun a => Old H a ∨ a = jn) (upd (upd (upd (upd H2 ca (.lst (rows.take safe))) jn (.lst (rows.take safe ++ us))) j (.ins (CJ K) jd [("rows", .ref jn), ("safe", .int safe)])) j (.ins (CJ K) jd [("rows", .ref jn), ("safe", .int (safe + us.length : Nat))])) us ((ps.drop safe).take (kept (ps.drop safe) c)) := by
        have q1 := (hus2.go (Go.same (Same.nw hca))).apart hjn
        have q2 : Pays (fun a => Old H a ∨ a = jn) (upd (upd H2 ca (.lst (rows.take safe))) jn (.lst (rows.take safe ++ us))) us _ := q1.go (Go.new hjn)
        have oj : Old H j := ⟨_, o.get 0 rfl⟩
        have q3 : Pays (fun a => Old H a ∨ a = jn) (upd (upd (upd H2 ca (.lst (rows.take safe))) jn (.lst (rows.take safe ++ us))) j (.ins (CJ K) jd [("rows", .ref jn), ("safe", .int safe)])) us _ := q2.go (Go.put (.inl oj) (o6.get 0 rfl) trivial)
        exact q3.go (Go.put (.inl oj) (o7.get 0 rfl) trivial)
      have fin := k jn us _ njH g o8 p8
      show Q .non (upd _ j (.ins (CJ K) jd [("rows", V.ref jn), ("safe", .int ((rows.take safe ++ us).length : Nat))]))
      rw [e8]
      exact fin
end
end Ck
/-! W11 -/
set_option maxHeartbeats 4000000
namespace Ck
open PySem PySem.Spec PyProof.Rows L2
/-! ### the record -/
abbrev CRc (K : PySem.W.Frag) : Addr := He.ga K "Record"
abbrev rl (K : PySem.W.Frag) (r rd rr : Addr) (row : List V) (ac ad : Addr) (pv av : V) : Ob := [(r, .ins (CRc K) rd [("row", .ref rr), ("acceptor", .ref ac)]), (rr, .lst row), (ac, .ins (CA K) ad [("promised", pv), ("accepted", av)])]
/-- what these values are -/
structure RcD (K : PySem.W.Frag) (H : Hp) (row : List V) (pv av : V) (R : Rc) : Prop where
  row : Ims K H row (R.row.map Ent.py)
  pr : Im K H pv (bal R.pr R.pi)
  ac : Im K H av (accPy R.ac)
theorem RcD.go {K : PySem.W.Frag} {F F' : Addr → Prop} {H H' : Hp} (x : Go F H F' H') {row : List V} {pv av : V} {R : Rc} (d : RcD K H row pv av R) : RcD K H' row pv av R := ⟨d.row.go x, d.pr.go x, d.ac.go x⟩
def spRcInit (K : PySem.W.Frag) : Sp := fun vs H Q _ => ∃ (r rd : Addr), vs = [.ref r] ∧ H r = some (.ins (CRc K) rd []) ∧ ∀ rr ac ad pv av H', H rr = none → H ac = none → Go (fun x => x = r) H (fun x => x = r) H' → Own H' (rl K r rd rr [] ac ad pv av) → RcD K H' [] pv av Rc.new → Q .non H'
def spUpto (K : PySem.W.Frag) : Sp := fun vs H Q _ => ∃ (r rd rr : Addr) (row : List V) (ac ad : Addr) (pv av : V), vs = [.ref r] ∧ Own H (rl K r rd rr row ac ad pv av) ∧ Q (.int row.length) H
def spRcDo (K : PySem.W.Frag) : Sp := fun vs H Q _ => ∃ (r rd rr : Addr) (row : List V) (ac ad : Addr) (pv av v : V) (R : Rc) (u : Upd), vs = [.ref r, v] ∧ Own H (rl K r rd rr row ac ad pv av) ∧ RcD K H row pv av R ∧ Im K H v u.py ∧ row.length ≤ 1000 ∧
  ∀ row' ac' ad' pv' av' H', Go (Ft (rl K r rd rr row ac ad pv av)) H (Ft (rl K r rd rr row' ac' ad' pv' av')) H' → Own H' (rl K r rd rr row' ac' ad' pv' av') → RcD K H' row' pv' av' (R.do u) → ((∀ s e, u ≠ .cho s e) → ac' = ac ∧ ad' = ad) → Q .non H'
def spRcFork (K : PySem.W.Frag) : Sp := fun vs H Q _ => ∃ (r rd rr : Addr) (row : List V) (ac ad : Addr) (pv av : V), vs = [.ref r] ∧ Own H (rl K r rd rr row ac ad pv av) ∧
  ∀ b bd br bc bcd H', (∀ a, Ft (rl K b bd br row bc bcd pv av) a → H a = none) → Same H H' → Own H' (rl K b bd br row bc bcd pv av) → Q (.ref b) H'
def spRecordOf (K : PySem.W.Frag) : Sp := fun vs H Q _ => ∃ (a : Addr) (us : List V) (F : Addr → Prop) (ups : List Upd), vs = [.ref a] ∧ SqL K H a us ∧ Pays F H us (ups.map Upd.pack) ∧ (∀ u ∈ ups, u.Ok) ∧ ups.length ≤ 1000 ∧
  ∀ b bd br row bc bcd pv av H', (∀ a, Ft (rl K b bd br row bc bcd pv av) a → H a = none) → Same H H' → Own H' (rl K b bd br row bc bcd pv av) → RcD K H' row pv av (recOf ups) → Q (.ref b) H'
theorem fresh2 {H : Hp} {b bd a : Addr} {o u : HO} (h : upd (upd H bd o) b u a = none) : H a = none := by
  have z1 : a ≠ b := fun z => by rw [z, upd_same] at h; cases h
  rw [upd_ne z1] at h
  have z2 : a ≠ bd := fun z => by rw [z, upd_same] at h; cases h
  rw [upd_ne z2] at h
  exact h
theorem str_ne {a b : Str} (h : a ≠ b) : decide (V.str a = V.str b) = false := decide_eq_false fun z => h (by injection z)
theorem recOf_row_le (us : List Upd) : (recOf us).row.length ≤ us.length := by
  rcases List.eq_nil_or_concat us with rfl | ⟨r, u, rfl⟩
  · simp [recOf, Rc.new]
  · have ih : (recOf r).row.length ≤ r.length := recOf_row_le r
    rw [List.concat_eq_append, recOf_snoc, List.length_append]
    cases u <;> simp [Rc.do] <;> omega
termination_by us.length
decreasing_by simp_all
section
variable {P : Program} {w : World} {K : PySem.W.Frag} {mg : Str → Option Value} {base : Heap}
theorem c_Record_init (T : Txt K mg) : C8.Mak P w K mg base 3 "Record" (CRc K) (spRcInit K) [] := by
  refine mak T.k_Record T.g_Record T.f_Record_init (N := (["self"] : List Str)) (ps := (["self"] : List Str)) (by decide +kernel) (fun _ _ _ _ _ _ us hl => match us, hl with | [_], _ => rfl) (fun vs H Q E h => ?_) (fun cdv A outer s H vs Q E hr h => ?_)
  · obtain ⟨_, _, rfl, _⟩ := h; rfl
  · obtain ⟨r, rd, rfl, hR, k⟩ := h
    refine ⟨_,
      (pss_cons (ps_fld (L2.pv 0) (pe_lst pa_nil) rfl)
        (pss_one (ps_fld (L2.pv 0) (pe_mk0 (c_Acceptor_init0 T) hr (by decide) rfl) rfl)))
      , ?_⟩
    refine ⟨Nat.zero_le _, fun rr nrr => ?_⟩
    have rrr : r ≠ rr := ne_of_none hR nrr
    have hR1 : (upd H rr (.lst [])) r = some (.ins (CRc K) rd []) := by rw [upd_ne rrr]; exact hR
    refine ⟨_, rfl, r, _, rd, _, rfl, hR1, T.c_Record, T.n_Record_row, (by show 0 < 1000; decide), ?_⟩
    have x1 : Go (fun x => x = r) H (fun x => x = r) (upd H rr (.lst [])) := Go.new nrr
    have x2 : Go (fun x => x = r) (upd H rr (.lst [])) (fun x => x = r) (upd (upd H rr (.lst [])) r (.ins (CRc K) rd [("row", .ref rr)])) := Go.put rfl hR1 trivial
    have o2 : Own (upd (upd H rr (.lst [])) r (.ins (CRc K) rd [("row", .ref rr)])) [(r, .ins (CRc K) rd [("row", .ref rr)]), (rr, .lst [])] := by
      refine ⟨fun q hq => ?_, by simpa using rrr⟩
      rcases List.mem_cons.mp hq with rfl | hq
      · exact upd_same
      · obtain rfl : q = _ := by simpa using hq
        show upd (upd H rr (.lst [])) r _ rr = _
        rw [upd_ne rrr.symm]; exact upd_same
    have g2 := x1.trans x2
    -- self.acceptor = Acceptor()
    refine fun ac ad nac nad ne => ⟨ac, ad, _, _, rfl, upd_same, fun H3 x3 o3 => ⟨rfl, ?_⟩⟩
    have s3 := made_same nac nad x3
    have o4 : Own H3 [(ac, .ins (CA K) ad [("promised", .ref (He.ga K "NO_BALLOT")), ("accepted", .non)]), (r, .ins (CRc K) rd [("row", .ref rr)]), (rr, .lst [])] := o2.cons s3 nac (o3.get 0 rfl)
    refine ⟨_, rfl, r, _, rd, _, rfl, o4.get 1 rfl, T.c_Record, T.n_Record_acceptor, (by show 1 < 1000; decide), ?_⟩
    obtain ⟨o5, x5⟩ := o4.put 1 rfl trivial (.ins (CRc K) rd [("row", .ref rr), ("acceptor", .ref ac)])
    have hacH : H ac = none := g2.some_ _ nac
    have x6 : Go (fun x => x = r) H3 (fun x => x = r) (upd H3 r (.ins (CRc K) rd [("row", .ref rr), ("acceptor", .ref ac)])) := Go.put (u := .ins (CRc K) rd [("row", .ref rr)]) rfl (o4.get 1 rfl) trivial
    refine k rr ac ad _ _ _ nrr hacH ((g2.trans (Go.same s3)).trans x6) ⟨fun q hq => o5.at_ q ?_, ?_⟩ ⟨.nil, .tup (T.t_NO_BALLOT _) (.cons (.int _) (.cons (.int _) .nil)), .non⟩
    · simp only [List.mem_cons, List.not_mem_nil, or_false] at hq
      show q ∈ [(ac, _), (r, _), (rr, _)]
      rcases hq with rfl | rfl | rfl
      · exact List.mem_cons_of_mem _ List.mem_cons_self
      · exact List.mem_cons_of_mem _ (List.mem_cons_of_mem _ List.mem_cons_self)
      · exact List.mem_cons_self
    · have nd := o5.nd
      have nd : [ac, r, rr].Nodup := nd
      show [r, rr, ac].Nodup
      simp only [List.nodup_cons, List.mem_cons, List.not_mem_nil, or_false, not_or] at nd ⊢
      exact ⟨⟨rrr, fun z => nd.1.1 z.symm⟩, fun z => nd.1.2 z.symm, not_false, List.nodup_nil⟩
theorem c_Record_upto (T : Txt K mg) : Prop1 P w K mg base 1 (CRc K) "upto" (spUpto K) := by
  refine prp T.c_Record T.p_Record_upto T.f_Record_upto (N := (["self"] : List Str)) (ps := (["self"] : List Str)) (by decide +kernel) (fun _ _ _ _ _ _ us hl => match us, hl with | [_], _ => rfl) (fun vs H Q E h => ?_) (fun cdv A outer s H vs Q E hr h => ?_)
  · obtain ⟨_, _, _, _, _, _, _, _, rfl, _⟩ := h; rfl
  · obtain ⟨r, rd, rr, row, ac, ad, pv, av, rfl, o, k⟩ := h
    refine ⟨_,
      (pss_one (ps_ret (pe_callB call_len_seq (by rfl) T.b_len PySem.boot_len (pa_cons (pe_fld (L2.pv 0) rfl) pa_nil))))
      , ?_⟩
    exact ⟨_, rfl, r, _, rd, _, _, rfl, o.get 0 rfl, T.c_Record, T.n_Record_row, rfl, rr, _, rfl, .inl (SqL.of (o.get 1 rfl)), k⟩
theorem c_Record_do (T : Txt K mg) : C8.Met P w K mg base 3 (CRc K) "do" (spRcDo K) [] := by
  refine met T.c_Record T.m_Record_do T.f_Record_do (N := (["self", "update"] : List Str)) (ps := (["self", "update"] : List Str)) (by decide +kernel) (fun _ _ _ _ _ _ us hl => match us, hl with | [_, _], _ => rfl) (fun vs H Q E h => ?_) (fun cdv A outer s H vs Q E hr h => ?_)
  · obtain ⟨_, _, _, _, _, _, _, _, _, _, _, rfl, _⟩ := h; rfl
  · obtain ⟨r, rd, rr, row, ac, ad, pv, av, v, R, u, rfl, o, d, hv, h1000, k⟩ := h
    refine ⟨_,
      (pss_one (ps_if (pt_cmpR op_eq (pe_ix ix_tup (L2.pv 1) pe_int (fun _ _ => rfl)) (C8.pe_gc rfl (gs T.v_PROMISE)) (nomark _)) (pss_one (ps_expr (C8.pe_mt (c_Acceptor_promise T) hr (by decide) (pe_fld (L2.pv 0) rfl) (pa_cons (pe_ix ix_tup (L2.pv 1) pe_int (fun _ _ => rfl)) pa_nil)))) (pss_one (ps_if (pt_cmpR op_eq (pe_ix ix_tup (L2.pv 1) pe_int (fun _ _ => rfl)) (C8.pe_gc rfl (gs T.v_ACCEPT)) (nomark _)) (pss_one (ps_expr (C8.pe_mt (c_Acceptor_accept T) hr (by decide) (pe_fld (L2.pv 0) rfl) (pa_cons (pe_ix ix_tup (L2.pv 1) pe_int (fun _ _ => rfl)) (pa_cons (pe_ix ix_tup (L2.pv 1) pe_int (fun _ _ => rfl)) pa_nil))))) (pss_cons (ps_expr (pe_bm PySem.F.plainAttrs_list PySem.F.slot_list_append PySem.F.type_list_append mt_append (pe_fld (L2.pv 0) rfl) (pa_cons (pe_ix ix_tup (L2.pv 1) pe_int (fun _ _ => rfl)) pa_nil)))
        (pss_one (ps_fld (L2.pv 0) (pe_mk0 (c_Acceptor_init0 T) hr (by decide) rfl) rfl)))))))
      , ?_⟩
    have h0 := o.get 0 rfl
    have h1 := o.get 1 rfl
    have h2 := o.get 2 rfl
    have sub : Own H (al K ac ad pv av) := Own.sub (a := [_, _]) (b := []) o
    cases u with
    | pro s r' i' =>
      obtain ⟨a, us, rfl, hT, hU⟩ := hv.tuple
      obtain ⟨v0, e0, i0⟩ := hU.at_ (i := 0) rfl
      obtain ⟨v2, e2, i2⟩ := hU.at_ (i := 2) rfl
      cases i0.strE
      refine ⟨_, rfl, a, _, _, _, rfl, rfl, hT, at_of (j := 0) rfl e0, rfl, _, rfl, ?_⟩
      refine t_yes (decide_eq_true rfl) ?_
      refine ⟨_, rfl, r, _, rd, _, _, rfl, h0, T.c_Record, T.n_Record_acceptor, rfl, ac, ad, _, rfl, h2, rfl, _, rfl, a, _, _, _, rfl, rfl, hT, at_of (j := 2) rfl e2, ?_⟩
      refine ⟨ac, ad, pv, av, v2, rfl, sub, fun H1 x1 o1 => ?_⟩
      obtain ⟨o2, x2⟩ := Own.mid (a := [_, _]) (b := []) o x1 o1
      exact k row ac ad v2 av H1 x2 o2 ⟨d.row.go x2, i2.go x2, d.ac.go x2⟩ fun _ => ⟨rfl, rfl⟩
    | acc s r' i' e =>
      obtain ⟨a, us, rfl, hT, hU⟩ := hv.tuple
      obtain ⟨v0, e0, i0⟩ := hU.at_ (i := 0) rfl
      obtain ⟨v2, e2, i2⟩ := hU.at_ (i := 2) rfl
      obtain ⟨v3, e3, i3⟩ := hU.at_ (i := 3) rfl
      cases i0.strE
      refine ⟨_, rfl, a, _, _, _, rfl, rfl, hT, at_of (j := 0) rfl e0, rfl, _, rfl, ?_⟩
      refine t_no (str_ne (by decide +kernel)) ?_
      refine ⟨_, rfl, a, _, _, _, rfl, rfl, hT, at_of (j := 0) rfl e0, rfl, _, rfl, ?_⟩
      refine t_yes (decide_eq_true rfl) ?_
      refine ⟨_, rfl, r, _, rd, _, _, rfl, h0, T.c_Record, T.n_Record_acceptor, rfl, ac, ad, _, rfl, h2, rfl, _, rfl, a, _, _, _, rfl, rfl, hT, at_of (j := 2) rfl e2, _, rfl, a, _, _, _, rfl, rfl, hT, at_of (j := 3) rfl e3, ?_⟩
      refine ⟨ac, ad, pv, av, v2, v3, rfl, sub, fun t H1 x1 o1 ht => ?_⟩
      obtain ⟨o2, x2⟩ := Own.mid (a := [_, _]) (b := []) o x1 o1
      exact k row ac ad v2 (.ref t) H1 x2 o2 ⟨d.row.go x2, i2.go x2, .tup (SqT.of ht) (.cons (i2.go x2) (.cons (i3.go x2) .nil))⟩ fun _ => ⟨rfl, rfl⟩
    | cho s e =>
      obtain ⟨a, us, rfl, hT, hU⟩ := hv.tuple
      obtain ⟨v0, e0, i0⟩ := hU.at_ (i := 0) rfl
      obtain ⟨v2, e2, i2⟩ := hU.at_ (i := 2) rfl
      cases i0.strE
      refine ⟨_, rfl, a, _, _, _, rfl, rfl, hT, at_of (j := 0) rfl e0, rfl, _, rfl, ?_⟩
      refine t_no (str_ne (by decide +kernel)) ?_
      refine ⟨_, rfl, a, _, _, _, rfl, rfl, hT, at_of (j := 0) rfl e0, rfl, _, rfl, ?_⟩
      refine t_no (str_ne (by decide +kernel)) ?_
      refine ⟨_, rfl, r, _, rd, _, _, rfl, h0, T.c_Record, T.n_Record_row, rfl, .inl ⟨rfl, _, SqL.of h1⟩, _, rfl, a, _, _, _, rfl, rfl, hT, at_of (j := 2) rfl e2, rr, _, _, rfl, rfl, h1, small1000 h1000, ?_⟩
      obtain ⟨o1, x1⟩ := o.put 1 rfl trivial (.lst (row ++ [v2]))
      generalize upd H rr (.lst (row ++ [v2])) = H1 at o1 x1 ⊢
      refine fun b bd nb nbd ne => ⟨b, bd, _, _, rfl, upd_same, fun H2 x2 o2 => ⟨rfl, ?_⟩⟩
      have s2 := made_same nb nbd x2
      obtain ⟨o3, x3⟩ := o1.new 2 s2 nb (o2.get 0 rfl)
      refine ⟨_, rfl, r, _, rd, _, rfl, o3.get 0 rfl, T.c_Record, T.n_Record_acceptor, (by show 2 < 1000; decide), ?_⟩
      obtain ⟨o4, x4⟩ := o3.put 0 rfl trivial (.ins (CRc K) rd [("row", .ref rr), ("acceptor", .ref b)])
      have g := (x1.trans x3).trans x4
      refine k (row ++ [v2]) b bd _ _ _ g o4 ⟨?_, .tup (T.t_NO_BALLOT _) (.cons (.int _) (.cons (.int _) .nil)), .non⟩ fun h => absurd rfl (h _ _)
      rw [Rc.do, List.map_append]
      exact (d.row.go g).append (.cons (i2.go g) .nil)
theorem c_Record_fork (T : Txt K mg) : C8.Met P w K mg base 5 (CRc K) "fork" (spRcFork K) [] := by
  refine met T.c_Record T.m_Record_fork T.f_Record_fork (N := (["self", "twin"] : List Str)) (ps := (["self"] : List Str)) (by decide +kernel) (fun _ _ _ _ _ _ us hl => match us, hl with | [_], _ => rfl) (fun vs H Q E h => ?_) (fun cdv A outer s H vs Q E hr h => ?_)
  · obtain ⟨_, _, _, _, _, _, _, _, rfl, _⟩ := h; rfl
  · obtain ⟨r, rd, rr, row, ac, ad, pv, av, rfl, o, k⟩ := h
    have nd : ((["self", "twin"] : List Str)).Nodup := by decide +kernel
    refine ⟨_,
      (pss_cons (ps_set (i := 1) nd rfl (by first | exact Or.inl rfl | exact Or.inr rfl) (pe_mk0 (c_Record_init T) hr (by decide) rfl))
        (pss_cons (ps_fld (L2.pv 1) (pe_callTy call_list_of (by rfl) T.b_list bt_list (pa_cons (pe_fld (L2.pv 0) rfl) pa_nil)) rfl)
        (pss_cons (ps_fld (L2.pv 1) (C8.pe_mt0 (c_Acceptor_fork T) hr (by decide) (pe_fld (L2.pv 0) rfl)) rfl)
        (pss_one (ps_ret (L2.pv 1))))))
      , ?_⟩
    refine fun b bd nb nbd ne => ⟨b, bd, rfl, upd_same, fun br bc bcd pv1 av1 H1 n1 n2 x1 o1 _ => ⟨rfl, ?_⟩⟩
    have s1 : Same H H1 := made_same nb nbd x1
    have n1H : H br = none := fresh2 n1
    have n2H : H bc = none := fresh2 n2
    obtain ⟨os, _⟩ := o.same s1
    -- twin.row = list(self.row)
    refine ⟨_, rfl, r, _, rd, _, _, rfl, os.get 0 rfl, T.c_Record, T.n_Record_row, rfl, rr, _, rfl, .inl (SqL.of (os.get 1 rfl)), fun c hc => ?_⟩
    have s2 := s1.trans (Same.nw (o := .lst row) hc)
    obtain ⟨o2, x2⟩ := o1.new 1 (Same.nw (o := .lst row) hc) hc upd_same
    refine ⟨_, rfl, b, _, bd, _, rfl, o2.get 0 rfl, T.c_Record, T.n_Record_row, (by show 2 < 1000; decide), ?_⟩
    obtain ⟨o3, x3⟩ := o2.put 0 rfl trivial (.ins (CRc K) bd [("row", .ref c), ("acceptor", .ref bc)])
    have s3 : Same H (upd (upd H1 c (.lst row)) b (.ins (CRc K) bd [("row", .ref c), ("acceptor", .ref bc)])) := s2.mt nb
    obtain ⟨os3, _⟩ := o.same s3
    -- twin.acceptor = self.acceptor.fork()
    refine ⟨_, rfl, r, _, rd, _, _, rfl, os3.get 0 rfl, T.c_Record, T.n_Record_acceptor, rfl, ac, ad, _, rfl, os3.get 2 rfl, rfl, ac, ad, pv, av, rfl, os3.get 2 rfl, fun e ed H4 ne4 s4 o4 => ?_⟩
    obtain ⟨o5, x5⟩ := o3.new 2 s4 ne4 (o4.get 0 rfl)
    refine ⟨_, rfl, b, _, bd, _, rfl, o5.get 0 rfl, T.c_Record, T.n_Record_acceptor, (by show 2 < 1000; decide), ?_⟩
    obtain ⟨o6, x6⟩ := o5.put 0 rfl trivial (.ins (CRc K) bd [("row", .ref c), ("acceptor", .ref e)])
    refine ⟨_, rfl, k b bd c e ed _ (fun a f => ?_) ((s3.trans s4).mt nb) o6⟩
    have f : a ∈ [b, c, e] := f
    simp only [List.mem_cons, List.not_mem_nil, or_false] at f
    rcases f with rfl | rfl | rfl
    · exact nb
    · exact s1.back hc
    · exact s3.back ne4
theorem c_record_of (T : Txt K mg) : C8.Cal P w K mg base 6 "record_of" (spRecordOf K) [] := by
  refine cal T.f_record_of T.g_record_of (N := (["payloads", "record", "payload"] : List Str)) (ps := (["payloads"] : List Str)) (by decide +kernel) (fun _ _ _ _ _ _ us hl => match us, hl with | [_], _ => rfl) (fun vs H Q E h => ?_) (fun cdv A outer s H vs Q E hr h => ?_)
  · obtain ⟨_, _, _, _, rfl, _⟩ := h; rfl
  · obtain ⟨a, us, F, ups, rfl, hA, hp, hok, h1000, k⟩ := h
    have nd : ((["payloads", "record", "payload"] : List Str)).Nodup := by decide +kernel
    refine ⟨_,
      (pss_cons (ps_set (i := 1) nd rfl (by first | exact Or.inl rfl | exact Or.inr rfl) (pe_mk0 (c_Record_init T) hr (by decide) rfl))
        (pss_cons (ps_for PassesOwn.never rfl (pi_list (L2.pv 0)) (pg_name (i := 2) nd rfl (by first | exact Or.inl rfl | exact Or.inr rfl)) (pss_one (ps_expr (C8.pe_mt (c_Record_do T) hr (by decide) (L2.pv 1) (pa_cons (C8.pe_c (c_unpack T) hr (by decide) rfl (pa_cons (L2.pv 2) pa_nil)) pa_nil)))))
        (pss_one (ps_ret (L2.pv 1)))))
      , ?_⟩
    refine fun b bd nb nbd ne => ⟨b, bd, rfl, upd_same, fun br bc bcd pv1 av1 H1 n1 n2 x1 o1 d1 => ⟨rfl, ?_⟩⟩
    have s1 : Same H H1 := made_same nb nbd x1
    have hul := hp.length
    rw [List.length_map] at hul
    refine ⟨_, rfl, a, rfl, ⟨_, s1.seq hA⟩, for_it (walk_list (xs := us)) (fun i σ H' => ∃ br row bc bcd pv av v2, σ = [some (.ref a), some (.ref b), v2] ∧ Same H H' ∧ (∀ x, Ft (rl K b bd br row bc bcd pv av) x → H x = none) ∧ Own H' (rl K b bd br row bc bcd pv av) ∧ RcD K H' row pv av (recOf (ups.take i)))
      ⟨br, [], bc, bcd, pv1, av1, none, rfl, s1, fun x f => ?_, o1, d1⟩ (fun i σ H' _ z => ?_) ?_ ?_⟩
    · have f : x ∈ [b, br, bc] := f
      simp only [List.mem_cons, List.not_mem_nil, or_false] at f
      rcases f with rfl | rfl | rfl
      · exact nb
      · exact fresh2 n1
      · exact fresh2 n2
    · obtain ⟨_, _, _, _, _, _, _, _, s2, _⟩ := z
      exact s2.seq hA
    · rintro i x σ H2 H2' hi ⟨br, row, bc, bcd, pv, av, v2, rfl, s2, fr, o2, d2⟩ ⟨rfl, hx⟩
      obtain ⟨p, hpi, q, rfl, hq⟩ := hp.of hx
      rw [List.getElem?_map] at hpi
      obtain ⟨u, hu, rfl⟩ := Option.map_eq_some_iff.mp hpi
      have huo := hok u (List.mem_of_getElem? hu)
      refine ⟨_, rfl, b, bd, _, rfl, o2.get 0 rfl, rfl, _, rfl, q, u.py, 5, rfl, SqL.of (s2 _ _ hq.1), Upd.pk huo, by decide, fun v H3 s3 hv => ?_⟩
      obtain ⟨o3, x3⟩ := o2.same s3
      have hrow : row.length ≤ 1000 := by
        have e1 := d2.row.length
        rw [List.length_map] at e1
        have e2 := recOf_row_le (ups.take i)
        rw [List.length_take] at e2
        omega
      refine ⟨b, bd, br, row, bc, bcd, pv, av, v, _, u, rfl, o3, d2.go x3, hv, hrow, fun row' bc' bcd' pv' av' H4 x4 o4 d4 _ => ?_⟩
      have e1 : ups.take (i + 1) = ups.take i ++ [u] := by rw [List.take_succ, hu]; rfl
      refine ⟨br, row', bc', bcd', pv', av', some (.ref q), rfl, fun y o e => ?_, fun y f => ?_, o4, by rw [e1, recOf_snoc]; exact d4⟩
      · refine x4.keep y o (s3 _ _ (s2 _ _ e)) fun f => ?_
        rw [fr y f] at e; cases e
      · rcases x4.foot y f with f | n
        · exact fr y f
        · exact (s2.trans s3).back n
    · rintro σ H2 ⟨br, row, bc, bcd, pv, av, v2, rfl, s2, fr, o2, d2⟩
      rw [hul, List.take_length] at d2
      exact ⟨_, rfl, k b bd br row bc bcd pv av H2 fr s2 o2 d2⟩
end
end Ck
/-! W12 -/
set_option maxHeartbeats 4000000
namespace Ck
open PySem PySem.Spec PyProof.Rows L2
/-! ### entries, members, ballots, attempts -/
abbrev CT (K : PySem.W.Frag) : Addr := He.ga K "Attempt"
abbrev tfs (b e m : V) (l1 l2 : Addr) : List (Str × V) := [("ballot", b), ("entry", e), ("members", m), ("stage", .str "asking"), ("promised_by", .ref l1), ("voted_by", .ref l2), ("bound", .non)]
def MemV (K : PySem.W.Frag) (H : Hp) (v : V) : Prop := ∃ (a : Addr) (ns : List Int), v = .ref a ∧ SqT K H a (ns.map V.int)
theorem MemV.go {K : PySem.W.Frag} {F F' : Addr → Prop} {H H' : Hp} (x : Go F H F' H') {v : V} (m : MemV K H v) : MemV K H' v := m.elim fun a z => z.elim fun ns z => ⟨a, ns, z.1, sqT_go x z.2⟩
def spBatch (K : PySem.W.Frag) : Sp := fun vs H Q _ => ∃ (l : Addr) (wv : List V), vs = [.ref l] ∧ SqL K H l wv ∧ ∀ v H', Same H H' → Q v H'
def spCmds (K : PySem.W.Frag) : Sp := fun vs H Q _ => ∃ (v : V) (e : Ent), vs = [v] ∧ Im K H v e.py ∧ ∀ D us H', H D = none → Same H H' → H' D = some (.lst us) → Ims K H' us e.cmds → Q (.ref D) H'
def spMembers (K : PySem.W.Frag) : Sp := fun vs H Q _ => ∃ (f : V) (l : Addr) (row : List V) (es : List Ent), vs = [f, .ref l, .int ((row.length : Nat) + 1)] ∧ MemV K H f ∧ SqL K H l row ∧ Ims K H row (es.map Ent.py) ∧ ∀ v H', Same H H' → MemV K H' v → Q v H'
def spNext : Sp := fun vs H Q _ => ∃ (a i : Nat), vs = [.int a, .int i] ∧ a < 9999 ∧ ∀ t H', Same H H' → H' t = some (.tup [.int (a + 1 : Nat), .int i]) → Q (.ref t) H'
def spTInit (K : PySem.W.Frag) : Sp := fun vs H Q _ => ∃ (t td : Addr) (b e m : V), vs = [.ref t, b, e, m] ∧ H t = some (.ins (CT K) td []) ∧
  ∀ l1 l2 H', H l1 = none → H l2 = none → Go (fun x => x = t) H (fun x => x = t) H' → H' t = some (.ins (CT K) td (tfs b e m l1 l2)) → H' l1 = some (.lst []) → H' l2 = some (.lst []) → Q .non H'
def spTFork (K : PySem.W.Frag) : Sp := fun vs H Q _ => ∃ (t td : Addr) (b e m : V) (l1 l2 : Addr), vs = [.ref t] ∧ H t = some (.ins (CT K) td (tfs b e m l1 l2)) ∧ H l1 = some (.lst []) ∧ H l2 = some (.lst []) ∧
  ∀ u ud k1 k2 H', H u = none → H k1 = none → H k2 = none → Same H H' → H' u = some (.ins (CT K) ud (tfs b e m k1 k2)) → H' k1 = some (.lst []) → H' k2 = some (.lst []) → Q (.ref u) H'
section
variable {P : Program} {w : World} {K : PySem.W.Frag} {mg : Str → Option Value} {base : Heap}
theorem c_batch_of (T : Txt K mg) : C8.Cal P w K mg base 1 "batch_of" (spBatch K) [] := by
  refine cal T.f_batch_of T.g_batch_of (N := (["commands"] : List Str)) (ps := (["commands"] : List Str)) (by decide +kernel) (fun _ _ _ _ _ _ us hl => match us, hl with | [_], _ => rfl) (fun vs H Q E h => ?_) (fun cdv A outer s H vs Q E hr h => ?_)
  · obtain ⟨_, _, rfl, _⟩ := h; rfl
  · obtain ⟨l, wv, rfl, hl, k⟩ := h
    refine ⟨_,
      (pss_one (ps_ret (pe_tup (pa_cons (C8.pe_gc rfl (gs T.v_BATCH)) (pa_cons (pe_callTy call_tuple_of (by rfl) T.b_tuple bt_tuple (pa_cons (pe_slice sl_list (L2.pv 0) po_none (po_some (C8.pe_gc rfl (gi T.v_MOST_BATCH)))) pa_nil)) pa_nil)))))
      , ?_⟩
    refine ⟨_, rfl, _, rfl, l, _, rfl, hl, fun c hc => ?_⟩
    refine ⟨c, _, rfl, .inl ⟨SqL.of upd_same, fun t ht => ?_⟩⟩
    refine ⟨by show 2 ≤ sizeLine; decide, fun q hq => ?_⟩
    exact k _ _ (((Same.nw hc).trans (Same.nw ht)).trans (Same.nw hq))
theorem c_commands_of (T : Txt K mg) : C8.Cal P w K mg base 1 "commands_of" (spCmds K) [] := by
  refine cal T.f_commands_of T.g_commands_of (N := (["entry"] : List Str)) (ps := (["entry"] : List Str)) (by decide +kernel) (fun _ _ _ _ _ _ us hl => match us, hl with | [_], _ => rfl) (fun vs H Q E h => ?_) (fun cdv A outer s H vs Q E hr h => ?_)
  · obtain ⟨_, _, rfl, _⟩ := h; rfl
  · obtain ⟨v, e, rfl, hv, k⟩ := h
    refine ⟨_,
      (pss_cons (ps_if (pt_cmpR op_eq (pe_ix ix_tup (L2.pv 0) pe_int (fun _ _ => rfl)) (C8.pe_gc rfl (gs T.v_BATCH)) (nomark _)) (pss_one (ps_ret (pe_callTy call_list_of (by rfl) T.b_list bt_list (pa_cons (pe_ix ix_tup (L2.pv 0) pe_int (fun _ _ => rfl)) pa_nil)))) pss_nil)
        (pss_one (ps_ret (pe_lst pa_nil))))
      , ?_⟩
    cases e with
    | batch cs =>
      obtain ⟨a, us, rfl, hT, hU⟩ := hv.tuple
      obtain ⟨v0, e0, i0⟩ := hU.at_ (i := 0) rfl
      obtain ⟨v1, e1, i1⟩ := hU.at_ (i := 1) rfl
      cases i0.strE
      obtain ⟨b, ws, rfl, hT2, hW⟩ := i1.tuple
      refine ⟨_, rfl, a, _, _, _, rfl, rfl, hT, at_of (j := 0) rfl e0, rfl, _, rfl, ?_⟩
      refine t_yes (decide_eq_true rfl) ?_
      refine ⟨_, rfl, a, _, _, _, rfl, rfl, hT, at_of (j := 1) rfl e1, b, _, rfl, .inr hT2, fun D hD => ?_⟩
      exact k D ws _ hD (Same.nw hD) upd_same (hW.go (Go.same (F := No) (Same.nw hD)))
    | mem ms =>
      obtain ⟨a, us, rfl, hT, hU⟩ := hv.tuple
      obtain ⟨v0, e0, i0⟩ := hU.at_ (i := 0) rfl
      cases i0.strE
      refine ⟨_, rfl, a, _, _, _, rfl, rfl, hT, at_of (j := 0) rfl e0, rfl, _, rfl, ?_⟩
      refine t_no (str_ne (by decide +kernel)) ?_
      refine ⟨Nat.zero_le _, fun D hD => ?_⟩
      exact k D [] _ hD (Same.nw hD) upd_same .nil
theorem c_members_of_slot (T : Txt K mg) : C8.Cal P w K mg base 1 "members_of_slot" (spMembers K) [] := by
  refine cal T.f_members_of_slot T.g_members_of_slot (N := (["first_members", "row", "slot", "entry"] : List Str)) (ps := (["first_members", "row", "slot"] : List Str)) (by decide +kernel) (fun _ _ _ _ _ _ us hl => match us, hl with | [_, _, _], _ => rfl) (fun vs H Q E h => ?_) (fun cdv A outer s H vs Q E hr h => ?_)
  · obtain ⟨_, _, _, _, rfl, _⟩ := h; rfl
  · obtain ⟨f, l, row, es, rfl, hf, hl, hi, k⟩ := h
    have nd : ((["first_members", "row", "slot", "entry"] : List Str)).Nodup := by decide +kernel
    refine ⟨_,
      (pss_cons (ps_for PassesOwn.never rfl (pi_reversed (by rfl) T.b_reversed (pa_cons (pe_slice sl_list (L2.pv 1) po_none (po_some (pe_op op_sub (L2.pv 2) pe_int))) pa_nil)) (pg_name (i := 3) nd rfl (by first | exact Or.inl rfl | exact Or.inr rfl)) (pss_one (ps_if (pt_cmpR op_eq (pe_ix ix_tup (L2.pv 3) pe_int (fun _ _ => rfl)) (C8.pe_gc rfl (gs T.v_MEMBERS)) (nomark _)) (pss_one (ps_ret (pe_ix ix_tup (L2.pv 3) pe_int (fun _ _ => rfl)))) pss_nil)))
        (pss_one (ps_ret (L2.pv 0))))
      , ?_⟩
    refine ⟨_, rfl, _, rfl, _, _, rfl, rfl, _, rfl, l, _, rfl, hl, fun c hc => ?_⟩
    have e1 : ((row.length : Nat) : Int) + 1 - 1 = ((row.length : Nat) : Int) := by omega
    rw [e1, cut_to, List.take_length]
    have s1 : Same H (upd H c (.lst row)) := Same.nw hc
    refine ⟨c, row, rfl, SqL.of upd_same, for_it (walk_rev (xs := row)) (fun i σ H' => H' = upd H c (.lst row) ∧ ∃ v3, σ = [some f, some (.ref l), some (.int ((row.length : Nat) + 1)), v3]) ⟨rfl, none, rfl⟩ (fun i σ H' _ z => z.1 ▸ SqL.of upd_same) ?_ ?_⟩
    · rintro i x σ H1 H1' hi' ⟨rfl, v3, rfl⟩ ⟨rfl, hx⟩
      obtain ⟨d, hd, hx2⟩ := hi.of hx
      rw [List.getElem?_map] at hd
      obtain ⟨e, he, rfl⟩ := Option.map_eq_some_iff.mp hd
      have hx3 := hx2.go (Go.same (F := No) s1)
      cases e with
      | batch cs =>
        obtain ⟨a, us, rfl, hT, hU⟩ := hx3.tuple
        obtain ⟨v0, e0, i0⟩ := hU.at_ (i := 0) rfl
        cases i0.strE
        refine ⟨_, rfl, a, _, _, _, rfl, rfl, hT, at_of (j := 0) rfl e0, rfl, _, rfl, ?_⟩
        refine t_no (str_ne (by decide +kernel)) ?_
        exact ⟨rfl, some (.ref a), rfl⟩
      | mem ms =>
        obtain ⟨a, us, rfl, hT, hU⟩ := hx3.tuple
        obtain ⟨v0, e0, i0⟩ := hU.at_ (i := 0) rfl
        obtain ⟨v1, e1, i1⟩ := hU.at_ (i := 1) rfl
        cases i0.strE
        obtain ⟨b, ws, rfl, hT2, hW⟩ := i1.tuple
        refine ⟨_, rfl, a, _, _, _, rfl, rfl, hT, at_of (j := 0) rfl e0, rfl, _, rfl, ?_⟩
        refine t_yes (decide_eq_true rfl) ?_
        refine ⟨_, rfl, a, _, _, _, rfl, rfl, hT, at_of (j := 1) rfl e1, ?_⟩
        refine k _ _ s1 ⟨b, ms.map fun m => ((m : Nat) : Int), rfl, ?_⟩
        have e3 : ∀ {ws : List V} {ms : List Nat}, Ims K (upd H c (.lst row)) ws (ms.map fun m => PyData.int (m : Nat)) → ws = (ms.map fun m => ((m : Nat) : Int)).map V.int := by
          intro ws ms
          induction ms generalizing ws with
          | nil => intro h; cases h; rfl
          | cons m ms ih =>
            intro h
            cases h with
            | cons h1 h2 => rw [h1.intE, ih h2]; rfl
        rw [← e3 hW]
        exact hT2
    · rintro σ H1 ⟨rfl, v3, rfl⟩
      exact ⟨_, rfl, k _ _ s1 (hf.go (Go.same (F := No) s1))⟩
theorem c_next_ballot (T : Txt K mg) : C8.Cal P w K mg base 1 "next_ballot" spNext [] := by
  refine cal T.f_next_ballot T.g_next_ballot (N := (["after", "index"] : List Str)) (ps := (["after", "index"] : List Str)) (by decide +kernel) (fun _ _ _ _ _ _ us hl => match us, hl with | [_, _], _ => rfl) (fun vs H Q E h => ?_) (fun cdv A outer s H vs Q E hr h => ?_)
  · obtain ⟨_, _, rfl, _⟩ := h; rfl
  · obtain ⟨a, i, rfl, ha, k⟩ := h
    refine ⟨_,
      (pss_cons (ps_if (pt_cmpR op_ge (L2.pv 0) (C8.pe_gc rfl (gi T.v_MOST_ROUND)) (nomark _)) (pss_one (ps_ret pe_non)) pss_nil)
        (pss_one (ps_ret (pe_tup (pa_cons (pe_op op_add (L2.pv 0) pe_int) (pa_cons (L2.pv 1) pa_nil))))))
      , ?_⟩
    refine ⟨_, rfl, _, _, rfl, rfl, _, rfl, ?_⟩
    refine t_no (decide_eq_false (by omega)) ?_
    refine ⟨_, rfl, _, _, rfl, rfl, _, rfl, by show 2 ≤ sizeLine; decide, fun t ht => ?_⟩
    exact k t _ (Same.nw ht) upd_same
theorem c_Attempt_init (T : Txt K mg) : C8.Mak P w K mg base 1 "Attempt" (CT K) (spTInit K) [] := by
  refine mak T.k_Attempt T.g_Attempt T.f_Attempt_init (N := (["self", "ballot", "entry", "members"] : List Str)) (ps := (["self", "ballot", "entry", "members"] : List Str)) (by decide +kernel) (fun _ _ _ _ _ _ us hl => match us, hl with | [_, _, _, _], _ => rfl) (fun vs H Q E h => ?_) (fun cdv A outer s H vs Q E hr h => ?_)
  · obtain ⟨_, _, _, _, _, rfl, _⟩ := h; rfl
  · obtain ⟨t, td, b, e, m, rfl, ht, k⟩ := h
    refine ⟨_,
      (pss_cons (ps_fld (L2.pv 0) (L2.pv 1) rfl)
        (pss_cons (ps_fld (L2.pv 0) (L2.pv 2) rfl)
        (pss_cons (ps_fld (L2.pv 0) (L2.pv 3) rfl)
        (pss_cons (ps_fld (L2.pv 0) (C8.pe_gc rfl (gs T.v_ASKING)) rfl)
        (pss_cons (ps_fld (L2.pv 0) (pe_lst pa_nil) rfl)
        (pss_cons (ps_fld (L2.pv 0) (pe_lst pa_nil) rfl)
        (pss_one (ps_fld (L2.pv 0) pe_non rfl))))))))
      , ?_⟩
    have own : ∀ {H' : Hp} {fs : List (Str × V)}, H' t = some (.ins (CT K) td fs) → ∀ gs, Go (fun x => x = t) H' (fun x => x = t) (upd H' t (.ins (CT K) td gs)) := fun h gs => Go.put rfl h trivial
    have x1 := own ht [("ballot", b)]
    refine ⟨_, rfl, _, rfl, t, _, td, _, rfl, ht, T.c_Attempt, T.n_Attempt_ballot, (by show 0 < 1000; decide), ?_⟩
    have x2 := x1.trans (own upd_same [("ballot", b), ("entry", e)])
    refine ⟨_, rfl, _, rfl, t, _, td, _, rfl, upd_same, T.c_Attempt, T.n_Attempt_entry, (by show 1 < 1000; decide), ?_⟩
    have x3 := x2.trans (own upd_same [("ballot", b), ("entry", e), ("members", m)])
    refine ⟨_, rfl, _, rfl, t, _, td, _, rfl, upd_same, T.c_Attempt, T.n_Attempt_members, (by show 2 < 1000; decide), ?_⟩
    have x4 := x3.trans (own upd_same [("ballot", b), ("entry", e), ("members", m), ("stage", .str "asking")])
    refine ⟨_, rfl, t, _, td, _, rfl, upd_same, T.c_Attempt, T.n_Attempt_stage, (by show 3 < 1000; decide), ?_⟩
    refine ⟨Nat.zero_le _, fun l1 h1 => ?_⟩
    have t1 : t ≠ l1 := ne_of_none upd_same h1
    have x5 := x4.trans (Go.new (o := .lst []) h1)
    have x6 := x5.trans (own (by rw [upd_ne t1]; exact upd_same) [("ballot", b), ("entry", e), ("members", m), ("stage", .str "asking"), ("promised_by", .ref l1)])
    refine ⟨_, rfl, t, _, td, _, rfl, by rw [upd_ne t1]; exact upd_same, T.c_Attempt, T.n_Attempt_promised_by, (by show 4 < 1000; decide), ?_⟩
    refine ⟨Nat.zero_le _, fun l2 h2 => ?_⟩
    have t2 : t ≠ l2 := ne_of_none upd_same h2
    have x7 := x6.trans (Go.new (o := .lst []) h2)
    have x8 := x7.trans (own (by rw [upd_ne t2]; exact upd_same) [("ballot", b), ("entry", e), ("members", m), ("stage", .str "asking"), ("promised_by", .ref l1), ("voted_by", .ref l2)])
    refine ⟨_, rfl, t, _, td, _, rfl, by rw [upd_ne t2]; exact upd_same, T.c_Attempt, T.n_Attempt_voted_by, (by show 5 < 1000; decide), ?_⟩
    have x9 := x8.trans (own upd_same (tfs b e m l1 l2))
    refine ⟨_, rfl, t, _, td, _, rfl, upd_same, T.c_Attempt, T.n_Attempt_bound, (by show 6 < 1000; decide), ?_⟩
    have l12 : l1 ≠ l2 := ne_of_none (by rw [upd_ne t1.symm]; exact upd_same) h2
    refine k l1 l2 _ (x4.some_ _ h1) (x6.some_ _ h2) x9 upd_same ?_ ?_
    · rw [upd_ne t1.symm, upd_ne t1.symm, upd_ne l12, upd_ne t1.symm]; exact upd_same
    · rw [upd_ne t2.symm, upd_ne t2.symm]; exact upd_same
theorem c_Attempt_fork (T : Txt K mg) : C8.Met P w K mg base 3 (CT K) "fork" (spTFork K) [] := by
  refine met T.c_Attempt T.m_Attempt_fork T.f_Attempt_fork (N := (["self", "twin"] : List Str)) (ps := (["self"] : List Str)) (by decide +kernel) (fun _ _ _ _ _ _ us hl => match us, hl with | [_], _ => rfl) (fun vs H Q E h => ?_) (fun cdv A outer s H vs Q E hr h => ?_)
  · obtain ⟨_, _, _, _, _, _, _, rfl, _⟩ := h; rfl
  · obtain ⟨t, td, b, e, m, l1, l2, rfl, ht, h1, h2, k⟩ := h
    have nd : ((["self", "twin"] : List Str)).Nodup := by decide +kernel
    refine ⟨_,
      (pss_cons (ps_set (i := 1) nd rfl (by first | exact Or.inl rfl | exact Or.inr rfl) (C8.pe_mk (c_Attempt_init T) hr (by decide) rfl (pa_cons (pe_fld (L2.pv 0) rfl) (pa_cons (pe_fld (L2.pv 0) rfl) (pa_cons (pe_fld (L2.pv 0) rfl) pa_nil)))))
        (pss_cons (ps_fld (L2.pv 1) (pe_fld (L2.pv 0) rfl) rfl)
        (pss_cons (ps_fld (L2.pv 1) (pe_callTy call_list_of (by rfl) T.b_list bt_list (pa_cons (pe_fld (L2.pv 0) rfl) pa_nil)) rfl)
        (pss_cons (ps_fld (L2.pv 1) (pe_callTy call_list_of (by rfl) T.b_list bt_list (pa_cons (pe_fld (L2.pv 0) rfl) pa_nil)) rfl)
        (pss_cons (ps_fld (L2.pv 1) (pe_fld (L2.pv 0) rfl) rfl)
        (pss_one (ps_ret (L2.pv 1))))))))
      , ?_⟩
    refine ⟨_, rfl, t, _, td, _, _, rfl, ht, T.c_Attempt, T.n_Attempt_ballot, rfl, _, rfl, t, _, td, _, _, rfl, ht, T.c_Attempt, T.n_Attempt_entry, rfl, _, rfl, t, _, td, _, _, rfl, ht, T.c_Attempt, T.n_Attempt_members, rfl, ?_⟩
    refine fun u ud nu nud ne => ⟨u, ud, b, e, m, rfl, upd_same, fun k1 k2 H1 n1 n2 x1 hu hk1 hk2 => ⟨rfl, ?_⟩⟩
    have s1 : Same H H1 := made_same nu nud x1
    have own : ∀ {H' : Hp} {fs : List (Str × V)}, Same H H' → ∀ gs, Same H (upd H' u (.ins (CT K) ud gs)) := fun s gs => s.mt nu
    -- twin.stage = self.stage
    refine ⟨_, rfl, t, _, td, _, _, rfl, s1 _ _ ht, T.c_Attempt, T.n_Attempt_stage, rfl, _, rfl, u, _, ud, _, rfl, hu, T.c_Attempt, T.n_Attempt_stage, (by show 7 < 1000; decide), ?_⟩
    have s2 : Same H (upd H1 u (.ins (CT K) ud (tfs b e m k1 k2))) := s1.mt nu
    -- twin.promised_by = list(self.promised_by)
    refine ⟨_, rfl, t, _, td, _, _, rfl, s2 _ _ ht, T.c_Attempt, T.n_Attempt_promised_by, rfl, l1, _, rfl, .inl (SqL.of (s2 _ _ h1)), fun c1 hc1 => ?_⟩
    have uc1 : u ≠ c1 := ne_of_none upd_same hc1
    have s3 := s2.trans (Same.nw (o := .lst []) hc1)
    refine ⟨_, rfl, u, _, ud, _, rfl, by rw [upd_ne uc1]; exact upd_same, T.c_Attempt, T.n_Attempt_promised_by, (by show 7 < 1000; decide), ?_⟩
    have s4 : Same H (upd (upd (upd H1 u (.ins (CT K) ud (tfs b e m k1 k2))) c1 (.lst [])) u (.ins (CT K) ud (tfs b e m c1 k2))) := s3.mt nu
    -- twin.voted_by = list(self.voted_by)
    refine ⟨_, rfl, t, _, td, _, _, rfl, s4 _ _ ht, T.c_Attempt, T.n_Attempt_voted_by, rfl, l2, _, rfl, .inl (SqL.of (s4 _ _ h2)), fun c2 hc2 => ?_⟩
    have uc2 : u ≠ c2 := ne_of_none upd_same hc2
    have c12 : c1 ≠ c2 := ne_of_none (by rw [upd_ne uc1.symm]; exact upd_same) hc2
    have s5 := s4.trans (Same.nw (o := .lst []) hc2)
    refine ⟨_, rfl, u, _, ud, _, rfl, by rw [upd_ne uc2]; exact upd_same, T.c_Attempt, T.n_Attempt_voted_by, (by show 7 < 1000; decide), ?_⟩
    have s6 : Same H (upd (upd (upd (upd (upd H1 u (.ins (CT K) ud (tfs b e m k1 k2))) c1 (.lst [])) u (.ins (CT K) ud (tfs b e m c1 k2))) c2 (.lst [])) u (.ins (CT K) ud (tfs b e m c1 c2))) := s5.mt nu
    -- twin.bound = self.bound
    refine ⟨_, rfl, t, _, td, _, _, rfl, s6 _ _ ht, T.c_Attempt, T.n_Attempt_bound, rfl, _, rfl, u, _, ud, _, rfl, upd_same, T.c_Attempt, T.n_Attempt_bound, (by show 7 < 1000; decide), ?_⟩
    refine ⟨_, rfl, k u ud c1 c2 _ nu (s2.back hc1) (s4.back hc2) (s6.mt nu) upd_same ?_ ?_⟩
    · rw [upd_ne uc1.symm, upd_ne uc1.symm, upd_ne c12, upd_ne uc1.symm]; exact upd_same
    · rw [upd_ne uc2.symm, upd_ne uc2.symm]; exact upd_same
end
end Ck
/-! Nd -/
set_option maxHeartbeats 4000000
/-! A node: where it stands, what it holds. -/
namespace Ck
open PySem PySem.Spec PyProof.Rows L2
abbrev CN (K : PySem.W.Frag) : Addr := He.ga K "Node"
/-- what never changes -/
structure Nc where
  p : Addr
  pd : Addr
  ix : Nat
  sz : Nat
  fm : V
  x : Ob
  hs : sz ≤ 5
  hi : ix < sz
/-- what changes seldom -/
structure Nm where
  S : Nat
  cb : Nat
  st : Str
structure Nx where
  j : Addr
  jd : Addr
  jr : Addr
  rows : List V
  r : Addr
  rd : Addr
  rr : Addr
  row : List V
  ac : Addr
  ad : Addr
  pv : V
  av : V
  m : Addr
  md : Addr
  ml : Addr
  ls : List V
  wa : Addr
  wr : List V
  ob : Addr
  os : List V
  sp : Addr
  ss : List V
  ca : Addr
  cs : List V
  att : V
  pat : Int
  gu : Bool
abbrev nfs (K : PySem.W.Frag) (c : Nc) (m : Nm) (g : Nx) : List (Str × V) := [("index", .int (c.ix : Nat)), ("size", .int (c.sz : Nat)), ("first_members", c.fm), ("make_machine", .ref (d_law_make.ad K)), ("lazy", .bl true), ("state", .str m.st), ("journal", .ref g.j), ("record", .ref g.r), ("machine", .ref g.m), ("waiting", .ref g.wa), ("wanted", .non), ("attempt", g.att), ("patience", .int g.pat), ("guest", .bl g.gu), ("seen", .int 0), ("outbox", .ref g.ob), ("spoken", .ref g.sp), ("cast", .ref g.ca)]
abbrev nob (K : PySem.W.Frag) (c : Nc) (m : Nm) (g : Nx) : Ob :=
  (c.p, .ins (CN K) c.pd (nfs K c m g)) ::
   (g.j, .ins (CJ K) g.jd [("rows", .ref g.jr), ("safe", .int m.S)]) :: (g.jr, .lst g.rows) ::
   (g.r, .ins (CRc K) g.rd [("row", .ref g.rr), ("acceptor", .ref g.ac)]) :: (g.rr, .lst g.row) :: (g.ac, .ins (CA K) g.ad [("promised", g.pv), ("accepted", g.av)]) ::
   (g.m, .ins (CD K) g.md [("lines", .ref g.ml)]) :: (g.ml, .lst g.ls) ::
   (g.wa, .lst g.wr) :: (g.ob, .lst g.os) :: (g.sp, .lst g.ss) :: (g.ca, .lst g.cs) :: c.x
/-- an attempt, if there is one: it stands and stays -/
def AtV (K : PySem.W.Frag) (F : Addr → Prop) (H : Hp) (v : V) : Prop := v = .non ∨ ∃ (t td : Addr) (b e m : V) (l1 l2 : Addr), v = .ref t ∧ Fz F H t (.ins (CT K) td (tfs b e m l1 l2)) ∧ Fz F H l1 (.lst []) ∧ Fz F H l2 (.lst [])
theorem AtV.go {K : PySem.W.Frag} {F F' : Addr → Prop} {H H' : Hp} (x : Go F H F' H') {v : V} (h : AtV K F H v) : AtV K F' H' v := by
  rcases h with h | ⟨t, td, b, e, m, l1, l2, h0, h1, h2, h3⟩
  · exact .inl h
  · exact .inr ⟨t, td, b, e, m, l1, l2, h0, h1.go x, h2.go x, h3.go x⟩
structure ND0 (K : PySem.W.Frag) (F : Addr → Prop) (H : Hp) (rows row : List V) (pv av : V) (ls wr cs : List V) (fm att : V) (os : List V) (us : List Upd) (S cb : Nat) (lr : List PyData) (n : Nat) : Prop where
  pays : Pays F H rows (us.map Upd.pack)
  rc : RcD K H row pv av (recOf us)
  ln : Ims K H ls lr
  wd : ∃ ds, Ims K H wr ds ∧ ∀ d ∈ ds, good 10 d = true
  ca : Ims K H cs ((castOf cb us).map pairPy)
  fm : MemV K H fm
  at_ : AtV K F H att
  ok : ∀ u ∈ us, u.Ok
  wl : wr.length ≤ 16
  ul : us.length ≤ n
  pl : ∀ k, (recOf (us.take k)).pr ≤ n
  ol : os.length ≤ n
  sl : S ≤ us.length
  cl : cb ≤ us.length
theorem ND0.go {K : PySem.W.Frag} {F F' : Addr → Prop} {H H' : Hp} {rows row : List V} {pv av : V} {ls wr cs : List V} {fm att : V} {os : List V} {us : List Upd} {S cb : Nat} {lr : List PyData} {n : Nat} (d : ND0 K F H rows row pv av ls wr cs fm att os us S cb lr n) (x : Go F H F' H') :
    ND0 K F' H' rows row pv av ls wr cs fm att os us S cb lr n :=
  ⟨d.pays.go x, d.rc.go x, d.ln.go x, d.wd.imp fun _ z => ⟨z.1.go x, z.2⟩, d.ca.go x, d.fm.go x, d.at_.go x, d.ok, d.wl, d.ul, d.pl, d.ol, d.sl, d.cl⟩
theorem ND0.mono {K : PySem.W.Frag} {F : Addr → Prop} {H : Hp} {rows row : List V} {pv av : V} {ls wr cs : List V} {fm att : V} {os : List V} {us : List Upd} {S cb : Nat} {lr : List PyData} {n k : Nat} (d : ND0 K F H rows row pv av ls wr cs fm att os us S cb lr n) (h : n ≤ k) :
    ND0 K F H rows row pv av ls wr cs fm att os us S cb lr k :=
  ⟨d.pays, d.rc, d.ln, d.wd, d.ca, d.fm, d.at_, d.ok, d.wl, Nat.le_trans d.ul h, fun k => Nat.le_trans (d.pl k) h, Nat.le_trans d.ol h, d.sl, d.cl⟩
structure ND (K : PySem.W.Frag) (H : Hp) (c : Nc) (m : Nm) (g : Nx) (us : List Upd) (lr : List PyData) (n : Nat) : Prop where
  own : Own H (nob K c m g)
  d : ND0 K (Ft (nob K c m g)) H g.rows g.row g.pv g.av g.ls g.wr g.cs c.fm g.att g.os us m.S m.cb lr n
abbrev NG (K : PySem.W.Frag) (c : Nc) (m : Nm) (g : Nx) (H : Hp) (m' : Nm) (g' : Nx) (H' : Hp) : Prop := Go (Ft (nob K c m g)) H (Ft (nob K c m' g')) H'
theorem ND.mono {K : PySem.W.Frag} {H : Hp} {c : Nc} {m : Nm} {g : Nx} {us : List Upd} {lr : List PyData} {n k : Nat} (h : ND K H c m g us lr n) (e : n ≤ k) : ND K H c m g us lr k := ⟨h.own, h.d.mono e⟩
theorem ND.same {K : PySem.W.Frag} {H H' : Hp} {c : Nc} {m : Nm} {g : Nx} {us : List Upd} {lr : List PyData} {n : Nat} (h : ND K H c m g us lr n) (s : Same H H') : ND K H' c m g us lr n ∧ NG K c m g H m g H' := ⟨⟨(h.own.same s).1, h.d.go (h.own.same s).2⟩, (h.own.same s).2⟩
theorem ND.rl {K : PySem.W.Frag} {H : Hp} {c : Nc} {m : Nm} {g : Nx} {us : List Upd} {lr : List PyData} {n : Nat} (h : ND K H c m g us lr n) : g.row.length = (recOf us).row.length ∧ g.row.length ≤ us.length := by
  have e := h.d.rc.row.length
  rw [List.length_map] at e
  exact ⟨e, by have := recOf_row_le us; omega⟩
theorem ND.rows {K : PySem.W.Frag} {H : Hp} {c : Nc} {m : Nm} {g : Nx} {us : List Upd} {lr : List PyData} {n : Nat} (h : ND K H c m g us lr n) : g.rows.length = us.length := by
  have e := h.d.pays.length
  rwa [List.length_map] at e
theorem ND.prn {K : PySem.W.Frag} {H : Hp} {c : Nc} {m : Nm} {g : Nx} {us : List Upd} {lr : List PyData} {n : Nat} (h : ND K H c m g us lr n) : (recOf us).pr ≤ n := by
  have := h.d.pl us.length
  rwa [List.take_length] at this
theorem ND.ix {K : PySem.W.Frag} {H : Hp} {c : Nc} {m : Nm} {g : Nx} {us : List Upd} {lr : List PyData} {n : Nat} (_ : ND K H c m g us lr n) : c.ix ≤ 4 := by
  have := c.hs
  have := c.hi
  omega
theorem castOf_snoc {cb : Nat} {us : List Upd} (h : cb ≤ us.length) (u : Upd) : castOf cb (us ++ [u]) = castOf cb us ++ votesFrom us.length [u] := by
  unfold castOf
  rw [List.drop_append_of_le_length h, votesFrom_append, List.length_drop, show cb + (us.length - cb) = us.length by omega]
/-- the lines of a row whose entries are well -/
theorem addLine_all {p : PyData → Prop} {ls : List PyData} {c : PyData} (h : ∀ d ∈ ls, p d) (hc : p c) : ∀ d ∈ addLine ls c, p d := by
  unfold addLine
  split
  · exact h
  · intro d hd
    rcases List.mem_append.mp hd with hd | hd
    · exact h d hd
    · obtain rfl : d = c := by simpa using hd
      exact hc
theorem fold_all {p : PyData → Prop} {cs ls : List PyData} (h : ∀ d ∈ ls, p d) (hc : ∀ d ∈ cs, p d) : ∀ d ∈ cs.foldl addLine ls, p d := by
  induction cs generalizing ls with
  | nil => exact h
  | cons c cs ih => exact ih (addLine_all h (hc c List.mem_cons_self)) fun d hd => hc d (List.mem_cons_of_mem _ hd)
theorem addLine_len (ls : List PyData) (c : PyData) : (addLine ls c).length ≤ ls.length + 1 := by
  unfold addLine
  split
  · omega
  · simp
theorem fold_len (cs ls : List PyData) : (cs.foldl addLine ls).length ≤ ls.length + cs.length := by
  induction cs generalizing ls with
  | nil => simp
  | cons c cs ih =>
    have := ih (addLine ls c)
    have := addLine_len ls c
    rw [List.foldl_cons, List.length_cons]
    omega
theorem Ent.cmds_ok {e : Ent} (h : e.Ok) : e.cmds.length ≤ 8 ∧ ∀ c ∈ e.cmds, CmdOk c := by
  cases e with
  | batch cs => exact h
  | mem ms => exact ⟨Nat.zero_le _, fun _ h => nomatch h⟩
theorem recOf_ok {us : List Upd} (h : ∀ u ∈ us, u.Ok) : ∀ e ∈ (recOf us).row, e.Ok := by
  have key : ∀ (us : List Upd) (R : Rc), (∀ e ∈ R.row, e.Ok) → (∀ u ∈ us, u.Ok) → ∀ e ∈ (us.foldl Rc.do R).row, e.Ok := by
    intro us
    induction us with
    | nil => intro R h _; exact h
    | cons u us ih =>
      intro R h hu
      refine ih _ ?_ fun u hm => hu u (List.mem_cons_of_mem _ hm)
      have h1 := hu u List.mem_cons_self
      cases u with
      | pro s r i => exact h
      | acc s r i e => exact h
      | cho s e =>
        intro d hd
        rcases List.mem_append.mp hd with hd | hd
        · exact h d hd
        · obtain rfl : d = e := by simpa using hd
          exact h1.2
  exact key us Rc.new (fun _ h => nomatch h) h
theorem lines_ok {row : List Ent} (h : ∀ e ∈ row, e.Ok) : (linesOf row).length ≤ 8 * row.length ∧ ∀ c ∈ linesOf row, CmdOk c := by
  have key : ∀ (row : List Ent) (ls : List PyData), (∀ e ∈ row, e.Ok) → (∀ c ∈ ls, CmdOk c) → (row.foldl (fun ls e => e.cmds.foldl addLine ls) ls).length ≤ ls.length + 8 * row.length ∧ ∀ c ∈ row.foldl (fun ls e => e.cmds.foldl addLine ls) ls, CmdOk c := by
    intro row
    induction row with
    | nil => intro ls _ h; exact ⟨by simp, h⟩
    | cons e row ih =>
      intro ls he h
      have h1 := Ent.cmds_ok (he e List.mem_cons_self)
      have h2 := ih (e.cmds.foldl addLine ls) (fun e hm => he e (List.mem_cons_of_mem _ hm)) (fold_all h h1.2)
      have h3 := fold_len e.cmds ls
      rw [List.foldl_cons, List.length_cons]
      exact ⟨by omega, h2.2⟩
  have := key row [] h (fun _ h => nomatch h)
  exact ⟨by unfold linesOf; simpa using this.1, this.2⟩
theorem CmdOk.good {c : PyData} (h : CmdOk c) : Ck.good 10 c = true := good_mono (by decide) (pk_good h.1)
end Ck
/-! W13 -/
set_option maxHeartbeats 4000000
namespace Ck
open PySem PySem.Spec PyProof.Rows L2
/-! ### the node's small steps -/
def spNUpto (K : PySem.W.Frag) : Sp := fun vs H Q _ => ∃ (c : Nc) (m : Nm) (g : Nx), vs = [.ref c.p] ∧ Own H (nob K c m g) ∧ Q (.int g.row.length) H
def spMNow (K : PySem.W.Frag) : Sp := fun vs H Q _ => ∃ (c : Nc) (m : Nm) (g : Nx) (es : List Ent), vs = [.ref c.p] ∧ Own H (nob K c m g) ∧ MemV K H c.fm ∧ Ims K H g.row (es.map Ent.py) ∧ ∀ v H', Same H H' → MemV K H' v → Q v H'
def spLong (K : PySem.W.Frag) : Sp := fun vs H Q _ => ∃ (p pd : Addr) (fs : List (Str × V)) (ix : Nat), vs = [.ref p] ∧ H p = some (.ins (CN K) pd fs) ∧ fs.lookup ("index" : Str) = some (.int (ix : Nat)) ∧ ∀ i : Int, Q (.int i) H
def Wishes (g : Nx) : Prop := 0 < g.wr.length ∨ g.av ≠ .non
def spHas (K : PySem.W.Frag) : Sp := fun vs H Q _ => ∃ (c : Nc) (m : Nm) (g : Nx), vs = [.ref c.p] ∧ Own H (nob K c m g) ∧ (g.av = .non ∨ ∃ a, g.av = .ref a) ∧ ∀ b : Bool, (b = true → Wishes g) → Q (.bl b) H
def spWish (K : PySem.W.Frag) : Sp := fun vs H Q _ => ∃ (c : Nc) (m : Nm) (g : Nx), vs = [.ref c.p] ∧ Own H (nob K c m g) ∧ Wishes g ∧ (g.av ≠ .non → ∃ a x y, g.av = .ref a ∧ SqT K H a [x, y]) ∧ ∀ v H', Same H H' → Q v H'
def spNote (K : PySem.W.Frag) : Sp := fun vs H Q _ => ∃ (c : Nc) (m : Nm) (g : Nx) (us : List Upd) (lr : List PyData) (n : Nat) (v : V) (u : Upd), vs = [.ref c.p, v] ∧ ND K H c m g us lr n ∧ n ≤ 900 ∧ Im K H v u.py ∧ u.Ok ∧ (recOf (us ++ [u])).pr ≤ n + 3 ∧
  ∀ rows' row' ac' ad' pv' av' cs' H', NG K c m g H m { g with rows := rows', row := row', ac := ac', ad := ad', pv := pv', av := av', cs := cs' } H' →
    ND K H' c m { g with rows := rows', row := row', ac := ac', ad := ad', pv := pv', av := av', cs := cs' } (us ++ [u]) lr (n + 3) → ((∀ s e, u ≠ .cho s e) → ac' = g.ac ∧ ad' = g.ad) → Q .non H'
def spPost (K : PySem.W.Frag) : Sp := fun vs H Q _ => ∃ (c : Nc) (m : Nm) (g : Nx) (us : List Upd) (lr : List PyData) (n : Nat) (x y : V), vs = [.ref c.p, x, y] ∧ ND K H c m g us lr n ∧ n ≤ 950 ∧
  ∀ t H', NG K c m g H m { g with os := g.os ++ [.ref t] } H' → ND K H' c m { g with os := g.os ++ [.ref t] } us lr (n + 1) → SqT K H' t [x, y] → Q .non H'
def spPostAll (K : PySem.W.Frag) : Sp := fun vs H Q _ => ∃ (c : Nc) (m : Nm) (g : Nx) (us : List Upd) (lr : List PyData) (n : Nat) (y : V), vs = [.ref c.p, y] ∧ ND K H c m g us lr n ∧ n ≤ 940 ∧
  ∀ ts H', NG K c m g H m { g with os := g.os ++ ts } H' → ND K H' c m { g with os := g.os ++ ts } us lr (n + c.sz) → ts.length = c.sz → (∀ x ∈ ts, ∃ t z, x = .ref t ∧ SqT K H' t [z, y]) → Q .non H'
def spPostOthers (K : PySem.W.Frag) : Sp := fun vs H Q _ => ∃ (c : Nc) (m : Nm) (g : Nx) (us : List Upd) (lr : List PyData) (n : Nat) (y : V), vs = [.ref c.p, y] ∧ ND K H c m g us lr n ∧ n ≤ 940 ∧
  ∀ ts H', NG K c m g H m { g with os := g.os ++ ts } H' → ND K H' c m { g with os := g.os ++ ts } us lr (n + c.sz) → Q .non H'
def spEnd (K : PySem.W.Frag) : Sp := fun vs H Q _ => ∃ (c : Nc) (m : Nm) (g : Nx), vs = [.ref c.p] ∧ Own H (nob K c m g) ∧ Q .non H
def spSilent (K : PySem.W.Frag) : Sp := fun vs H Q _ => ∃ (c : Nc) (m : Nm) (g : Nx), vs = [.ref c.p] ∧ Own H (nob K c m g) ∧ Q (.bl (decide (((m.S : Nat) : Int) < ((g.rows.length : Nat) : Int)))) H
section
variable {P : Program} {w : World} {K : PySem.W.Frag} {mg : Str → Option Value} {base : Heap}
theorem Own.nj {H : Hp} {c : Nc} {m : Nm} {g : Nx} (o : Own H (nob K c m g)) : Own H (jl K g.j g.jd g.jr g.rows m.S) := Own.sub (a := [_]) (b := _ :: _ :: _ :: _ :: _ :: _ :: _ :: _ :: _ :: c.x) o
theorem Own.nr {H : Hp} {c : Nc} {m : Nm} {g : Nx} (o : Own H (nob K c m g)) : Own H (rl K g.r g.rd g.rr g.row g.ac g.ad g.pv g.av) := Own.sub (a := [_, _, _]) (b := _ :: _ :: _ :: _ :: _ :: _ :: c.x) o
theorem Own.nm {H : Hp} {c : Nc} {m : Nm} {g : Nx} (o : Own H (nob K c m g)) : Own H (dl K g.m g.md g.ml g.ls) := Own.sub (a := [_, _, _, _, _, _]) (b := _ :: _ :: _ :: _ :: c.x) o
theorem c_Node_upto (T : Txt K mg) : Prop1 P w K mg base 3 (CN K) "upto" (spNUpto K) := by
  refine prp T.c_Node T.p_Node_upto T.f_Node_upto (N := (["self"] : List Str)) (ps := (["self"] : List Str)) (by decide +kernel) (fun _ _ _ _ _ _ us hl => match us, hl with | [_], _ => rfl) (fun vs H Q E h => ?_) (fun cdv A outer s H vs Q E hr h => ?_)
  · obtain ⟨_, _, _, rfl, _⟩ := h; rfl
  · obtain ⟨c, m, g, rfl, o, k⟩ := h
    refine ⟨_,
      (pss_one (ps_ret (pe_pr (c_Record_upto T) hr (by decide) (pe_fld (L2.pv 0) rfl))))
      , ?_⟩
    exact ⟨_, rfl, c.p, _, c.pd, _, _, rfl, o.get 0 rfl, T.c_Node, T.n_Node_record, rfl, g.r, g.rd, _, rfl, o.get 3 rfl, g.r, g.rd, g.rr, g.row, g.ac, g.ad, g.pv, g.av, rfl, o.nr, k⟩
theorem c_Node_members_now (T : Txt K mg) : Prop1 P w K mg base 5 (CN K) "members_now" (spMNow K) := by
  refine prp T.c_Node T.p_Node_members_now T.f_Node_members_now (N := (["self"] : List Str)) (ps := (["self"] : List Str)) (by decide +kernel) (fun _ _ _ _ _ _ us hl => match us, hl with | [_], _ => rfl) (fun vs H Q E h => ?_) (fun cdv A outer s H vs Q E hr h => ?_)
  · obtain ⟨_, _, _, _, rfl, _⟩ := h; rfl
  · obtain ⟨c, m, g, es, rfl, o, hf, hi, k⟩ := h
    refine ⟨_,
      (pss_one (ps_ret (C8.pe_c (c_members_of_slot T) hr (by decide) rfl (pa_cons (pe_fld (L2.pv 0) rfl) (pa_cons (pe_fld (pe_fld (L2.pv 0) rfl) rfl) (pa_cons (pe_op op_add (pe_pr (c_Node_upto T) hr (by decide) (L2.pv 0)) pe_int) pa_nil))))))
      , ?_⟩
    have h0 := o.get 0 rfl
    have h3 := o.get 3 rfl
    refine ⟨_, rfl, c.p, _, c.pd, _, _, rfl, h0, T.c_Node, T.n_Node_first_members, rfl, _, rfl, c.p, _, c.pd, _, _, rfl, h0, T.c_Node, T.n_Node_record, rfl, g.r, _, g.rd, _, _, rfl, h3, T.c_Record, T.n_Record_row, rfl, _, rfl, c.p, c.pd, _, rfl, h0, c, m, g, rfl, o, _, _, rfl, rfl, ?_⟩
    exact ⟨c.fm, g.rr, g.row, es, rfl, hf, SqL.of (o.get 4 rfl), hi, k⟩
theorem c_Node_long_patience (T : Txt K mg) : C8.Met P w K mg base 1 (CN K) "long_patience" (spLong K) [] := by
  refine met T.c_Node T.m_Node_long_patience T.f_Node_long_patience (N := (["self"] : List Str)) (ps := (["self"] : List Str)) (by decide +kernel) (fun _ _ _ _ _ _ us hl => match us, hl with | [_], _ => rfl) (fun vs H Q E h => ?_) (fun cdv A outer s H vs Q E hr h => ?_)
  · obtain ⟨_, _, _, _, rfl, _⟩ := h; rfl
  · obtain ⟨p, pd, fs, ix, rfl, h0, hl, k⟩ := h
    refine ⟨_,
      (pss_one (ps_ret (pe_op op_add pe_int (pe_op op_mul pe_int (pe_fld (L2.pv 0) rfl)))))
      , ?_⟩
    exact ⟨_, rfl, p, _, pd, _, _, rfl, h0, T.c_Node, T.n_Node_index, hl, _, _, rfl, rfl, .inl ⟨by decide, by decide⟩, _, _, rfl, rfl, k _⟩
theorem c_Node_has_wishes (T : Txt K mg) : C8.Met P w K mg base 1 (CN K) "has_wishes" (spHas K) [] := by
  refine met T.c_Node T.m_Node_has_wishes T.f_Node_has_wishes (N := (["self"] : List Str)) (ps := (["self"] : List Str)) (by decide +kernel) (fun _ _ _ _ _ _ us hl => match us, hl with | [_], _ => rfl) (fun vs H Q E h => ?_) (fun cdv A outer s H vs Q E hr h => ?_)
  · obtain ⟨_, _, _, rfl, _⟩ := h; rfl
  · obtain ⟨c, m, g, rfl, o, hav, k⟩ := h
    refine ⟨_,
      (pss_cons (ps_if (PW.pt (pw_or (pt_cmpR op_gt (pe_callB call_len_seq (by rfl) T.b_len PySem.boot_len (pa_cons (pe_fld (L2.pv 0) rfl) pa_nil)) pe_int (nomark _)) (pw_or1 (pt_cmpR op_notN (pe_fld (L2.pv 0) rfl) pe_non (nomark _))))) (pss_one (ps_ret pe_bl)) pss_nil)
        (pss_one (ps_ret (pe_cmpR op_notN (pe_fld (pe_fld (pe_fld (L2.pv 0) rfl) rfl) rfl) pe_non (nomark _)))))
      , ?_⟩
    have h0 := o.get 0 rfl
    refine ⟨_, rfl, c.p, _, c.pd, _, _, rfl, h0, T.c_Node, T.n_Node_waiting, rfl, g.wa, _, rfl, .inl (SqL.of (o.get 8 rfl)), _, _, rfl, rfl, _, rfl, ?_⟩
    by_cases hw : 0 < g.wr.length
    · refine t_yes (decide_eq_true (by omega)) ?_
      exact k true fun _ => .inl hw
    · refine t_no (decide_eq_false (by omega)) ?_
      refine ⟨_, rfl, c.p, _, c.pd, _, _, rfl, h0, T.c_Node, T.n_Node_wanted, rfl, rfl, _, rfl, ?_⟩
      refine t_no rfl ?_
      refine ⟨_, rfl, c.p, _, c.pd, _, _, rfl, h0, T.c_Node, T.n_Node_record, rfl, g.r, _, g.rd, _, _, rfl, o.get 3 rfl, T.c_Record, T.n_Record_acceptor, rfl, g.ac, _, g.ad, _, _, rfl, o.get 5 rfl, T.c_Acceptor, T.n_Acceptor_accepted, rfl, rfl, ?_⟩
      exact k _ fun e => .inr fun z => by rw [z] at e; simp at e
theorem c_Node_end_step (T : Txt K mg) : C8.Met P w K mg base 1 (CN K) "end_step" (spEnd K) [] := by
  refine met T.c_Node T.m_Node_end_step T.f_Node_end_step (N := (["self"] : List Str)) (ps := (["self"] : List Str)) (by decide +kernel) (fun _ _ _ _ _ _ us hl => match us, hl with | [_], _ => rfl) (fun vs H Q E h => ?_) (fun cdv A outer s H vs Q E hr h => ?_)
  · obtain ⟨_, _, _, rfl, _⟩ := h; rfl
  · obtain ⟨c, m, g, rfl, o, k⟩ := h
    refine ⟨_,
      (pss_one (ps_if (pt_not (pt_val (pe_fld (L2.pv 0) rfl))) pss_never pss_nil))
      , ?_⟩
    refine ⟨_, rfl, c.p, _, c.pd, _, _, rfl, o.get 0 rfl, T.c_Node, T.n_Node_lazy, rfl, _, rfl, ?_⟩
    exact t_no rfl k
theorem c_Node_post (T : Txt K mg) : C8.Met P w K mg base 1 (CN K) "post" (spPost K) [] := by
  refine met T.c_Node T.m_Node_post T.f_Node_post (N := (["self", "receiver", "body"] : List Str)) (ps := (["self", "receiver", "body"] : List Str)) (by decide +kernel) (fun _ _ _ _ _ _ us hl => match us, hl with | [_, _, _], _ => rfl) (fun vs H Q E h => ?_) (fun cdv A outer s H vs Q E hr h => ?_)
  · obtain ⟨_, _, _, _, _, _, _, _, rfl, _⟩ := h; rfl
  · obtain ⟨c, m, g, us, lr, n, x, y, rfl, nd, hn, k⟩ := h
    refine ⟨_,
      (pss_one (ps_expr (pe_bm PySem.F.plainAttrs_list PySem.F.slot_list_append PySem.F.type_list_append mt_append (pe_fld (L2.pv 0) rfl) (pa_cons (pe_tup (pa_cons (L2.pv 1) (pa_cons (L2.pv 2) pa_nil))) pa_nil))))
      , ?_⟩
    have o := nd.own
    refine ⟨_, rfl, c.p, _, c.pd, _, _, rfl, o.get 0 rfl, T.c_Node, T.n_Node_outbox, rfl, .inl ⟨rfl, _, SqL.of (o.get 9 rfl)⟩, _, rfl, _, rfl, by show 2 ≤ sizeLine; decide, fun t ht => ?_⟩
    obtain ⟨o1, x1⟩ := o.same (Same.nw (o := .tup [x, y]) ht)
    have hl := nd.d.ol
    refine ⟨g.ob, _, _, rfl, rfl, o1.get 9 rfl, small1000 (by omega), ?_⟩
    obtain ⟨o2, x2⟩ := o1.put 9 rfl trivial (.lst (g.os ++ [.ref t]))
    have x := x1.trans x2
    have d := nd.d.go x
    refine k t _ x ⟨o2, { (d.mono (Nat.le_succ n)) with ol := ?_ }⟩ (sqT_go x2 (SqT.of upd_same))
    rw [List.length_append]; have := nd.d.ol; simp only [List.length_cons, List.length_nil]; omega

theorem c_Node_wish (T : Txt K mg) : C8.Met P w K mg base 2 (CN K) "wish" (spWish K) [] := by
  refine met T.c_Node T.m_Node_wish T.f_Node_wish (N := (["self"] : List Str)) (ps := (["self"] : List Str)) (by decide +kernel) (fun _ _ _ _ _ _ us hl => match us, hl with | [_], _ => rfl) (fun vs H Q E h => ?_) (fun cdv A outer s H vs Q E hr h => ?_)
  · obtain ⟨_, _, _, rfl, _⟩ := h; rfl
  · obtain ⟨c, m, g, rfl, o, hw, hav, k⟩ := h
    refine ⟨_,
      (pss_cons (ps_if (pt_cmpR op_notN (pe_fld (L2.pv 0) rfl) pe_non (nomark _)) pss_never pss_nil)
        (pss_cons (ps_if (pt_cmpR op_gt (pe_callB call_len_seq (by rfl) T.b_len PySem.boot_len (pa_cons (pe_fld (L2.pv 0) rfl) pa_nil)) pe_int (nomark _)) (pss_one (ps_ret (C8.pe_c (c_batch_of T) hr (by decide) rfl (pa_cons (pe_fld (L2.pv 0) rfl) pa_nil)))) pss_nil)
        (pss_one (ps_ret (pe_ix ix_tup (pe_fld (pe_fld (pe_fld (L2.pv 0) rfl) rfl) rfl) pe_int (fun _ _ => rfl))))))
      , ?_⟩
    have h0 := o.get 0 rfl
    refine ⟨_, rfl, c.p, _, c.pd, _, _, rfl, h0, T.c_Node, T.n_Node_wanted, rfl, rfl, _, rfl, ?_⟩
    refine t_no rfl ?_
    refine ⟨_, rfl, c.p, _, c.pd, _, _, rfl, h0, T.c_Node, T.n_Node_waiting, rfl, g.wa, _, rfl, .inl (SqL.of (o.get 8 rfl)), _, _, rfl, rfl, _, rfl, ?_⟩
    by_cases h : 0 < g.wr.length
    · refine t_yes (decide_eq_true (by omega)) ?_
      exact ⟨_, rfl, c.p, _, c.pd, _, _, rfl, h0, T.c_Node, T.n_Node_waiting, rfl, g.wa, g.wr, rfl, SqL.of (o.get 8 rfl), fun v H' s => k v H' s⟩
    · refine t_no (decide_eq_false (by omega)) ?_
      obtain ⟨a, x, y, e, hT⟩ := hav (hw.resolve_left h)
      exact ⟨_, rfl, c.p, _, c.pd, _, _, rfl, h0, T.c_Node, T.n_Node_record, rfl, g.r, _, g.rd, _, _, rfl, o.get 3 rfl, T.c_Record, T.n_Record_acceptor, rfl, g.ac, _, g.ad, _, _, rfl, o.get 5 rfl, T.c_Acceptor, T.n_Acceptor_accepted, rfl, a, _, _, _, e, rfl, hT, at_of (j := 1) rfl rfl, k _ _ (Same.refl H)⟩
theorem c_Node_is_silent (T : Txt K mg) : C8.Met P w K mg base 3 (CN K) "is_silent" (spSilent K) [] := by
  refine met T.c_Node T.m_Node_is_silent T.f_Node_is_silent (N := (["self"] : List Str)) (ps := (["self"] : List Str)) (by decide +kernel) (fun _ _ _ _ _ _ us hl => match us, hl with | [_], _ => rfl) (fun vs H Q E h => ?_) (fun cdv A outer s H vs Q E hr h => ?_)
  · obtain ⟨_, _, _, rfl, _⟩ := h; rfl
  · obtain ⟨c, m, g, rfl, o, k⟩ := h
    refine ⟨_,
      (pss_one (ps_ret (pe_cmpR op_lt (pe_pr (c_Journal_synced_frames T) hr (by decide) (pe_fld (L2.pv 0) rfl)) (pe_pr (c_Journal_frame_count T) hr (by decide) (pe_fld (L2.pv 0) rfl)) (nomark _))))
      , ?_⟩
    have h0 := o.get 0 rfl
    exact ⟨_, rfl, c.p, _, c.pd, _, _, rfl, h0, T.c_Node, T.n_Node_journal, rfl, g.j, g.jd, _, rfl, o.get 1 rfl, g.j, g.jd, g.jr, g.rows, m.S, rfl, o.nj, _, rfl, c.p, _, c.pd, _, _, rfl, h0, T.c_Node, T.n_Node_journal, rfl, g.j, g.jd, _, rfl, o.get 1 rfl, g.j, g.jd, g.jr, g.rows, m.S, rfl, o.nj, _, _, rfl, rfl, k⟩
theorem c_Node_post_all (T : Txt K mg) : C8.Met P w K mg base 2 (CN K) "post_all" (spPostAll K) [] := by
  refine met T.c_Node T.m_Node_post_all T.f_Node_post_all (N := (["self", "body", "receiver"] : List Str)) (ps := (["self", "body"] : List Str)) (by decide +kernel) (fun _ _ _ _ _ _ us hl => match us, hl with | [_, _], _ => rfl) (fun vs H Q E h => ?_) (fun cdv A outer s H vs Q E hr h => ?_)
  · obtain ⟨_, _, _, _, _, _, _, rfl, _⟩ := h; rfl
  · obtain ⟨c, m, g, us, lr, n, y, rfl, h, hn, k⟩ := h
    have nd : ((["self", "body", "receiver"] : List Str)).Nodup := by decide +kernel
    refine ⟨_,
      (pss_one (ps_for PassesOwn.never rfl (pi_range1 (by rfl) T.b_range (pa_cons (pe_fld (L2.pv 0) rfl) pa_nil)) (pg_name (i := 2) nd rfl (by first | exact Or.inl rfl | exact Or.inr rfl)) (pss_one (ps_expr (C8.pe_mt (c_Node_post T) hr (by decide) (L2.pv 0) (pa_cons (L2.pv 2) (pa_cons (L2.pv 1) pa_nil)))))))
      , ?_⟩
    have hs := c.hs
    refine ⟨_, rfl, c.p, _, c.pd, _, _, rfl, h.own.get 0 rfl, T.c_Node, T.n_Node_size, rfl, _, rfl, by omega, by omega, for_it (walk_range (lo := 0) (n := c.sz)) (fun i σ H' => ∃ ts v2, σ = [some (.ref c.p), some y, v2] ∧ NG K c m g H m { g with os := g.os ++ ts } H' ∧ ND K H' c m { g with os := g.os ++ ts } us lr (n + i) ∧ ts.length = i ∧ ∀ x ∈ ts, ∃ t z, x = .ref t ∧ SqT K H' t [z, y])
      ⟨[], none, rfl, by rw [List.append_nil]; exact Go.refl H, by rw [List.append_nil]; exact h, rfl, fun _ z => nomatch z⟩ (fun i σ H' _ z => trivial) ?_ ?_⟩
    · rintro i x σ H1 H1' hi ⟨ts, v2, rfl, x1, h1, hl, ht⟩ ⟨rfl, hx⟩
      refine ⟨_, rfl, c.p, c.pd, _, rfl, h1.own.get 0 rfl, rfl, _, rfl, _, rfl, c, m, _, us, lr, n + i, _, y, rfl, h1, by omega, fun t H2 x2 h2 ht2 => ?_⟩
      refine ⟨ts ++ [.ref t], _, rfl, ?_, ?_, by rw [List.length_append, hl]; rfl, fun x hx => ?_⟩
      · rw [← List.append_assoc]; exact x1.trans x2
      · rw [← List.append_assoc]; exact h2
      · rcases List.mem_append.mp hx with hx | hx
        · obtain ⟨t, z, e, q⟩ := ht x hx
          exact ⟨t, z, e, sqT_go x2 q⟩
        · obtain rfl : x = _ := by simpa using hx
          exact ⟨t, _, rfl, ht2⟩
    · rintro σ H1 ⟨ts, v2, rfl, x1, h1, hl, ht⟩
      exact k ts H1 x1 h1 hl ht
end
end Ck
/-! W14 -/
set_option maxHeartbeats 4000000
namespace Ck
open PySem PySem.Spec PyProof.Rows L2
section
variable {P : Program} {w : World} {K : PySem.W.Frag} {mg : Str → Option Value} {base : Heap}
theorem c_Node_post_others (T : Txt K mg) : C8.Met P w K mg base 2 (CN K) "post_others" (spPostOthers K) [] := by
  refine met T.c_Node T.m_Node_post_others T.f_Node_post_others (N := (["self", "body", "receiver"] : List Str)) (ps := (["self", "body"] : List Str)) (by decide +kernel) (fun _ _ _ _ _ _ us hl => match us, hl with | [_, _], _ => rfl) (fun vs H Q E h => ?_) (fun cdv A outer s H vs Q E hr h => ?_)
  · obtain ⟨_, _, _, _, _, _, _, rfl, _⟩ := h; rfl
  · obtain ⟨c, m, g, us, lr, n, y, rfl, h, hn, k⟩ := h
    have nd : ((["self", "body", "receiver"] : List Str)).Nodup := by decide +kernel
    refine ⟨_,
      (pss_one (ps_for PassesOwn.never rfl (pi_range1 (by rfl) T.b_range (pa_cons (pe_fld (L2.pv 0) rfl) pa_nil)) (pg_name (i := 2) nd rfl (by first | exact Or.inl rfl | exact Or.inr rfl)) (pss_one (ps_if (pt_cmpR op_ne (L2.pv 2) (pe_fld (L2.pv 0) rfl) (nomark _)) (pss_one (ps_expr (C8.pe_mt (c_Node_post T) hr (by decide) (L2.pv 0) (pa_cons (L2.pv 2) (pa_cons (L2.pv 1) pa_nil))))) pss_nil))))
      , ?_⟩
    have hs := c.hs
    refine ⟨_, rfl, c.p, _, c.pd, _, _, rfl, h.own.get 0 rfl, T.c_Node, T.n_Node_size, rfl, _, rfl, by omega, by omega, for_it (walk_range (lo := 0) (n := c.sz)) (fun i σ H' => ∃ ts v2, σ = [some (.ref c.p), some y, v2] ∧ NG K c m g H m { g with os := g.os ++ ts } H' ∧ ND K H' c m { g with os := g.os ++ ts } us lr (n + i))
      ⟨[], none, rfl, by rw [List.append_nil]; exact Go.refl H, by rw [List.append_nil]; exact h⟩ (fun i σ H' _ z => trivial) ?_ ?_⟩
    · rintro i x σ H1 H1' hi ⟨ts, v2, rfl, x1, h1⟩ ⟨rfl, rfl⟩
      refine ⟨_, rfl, _, rfl, c.p, _, c.pd, _, _, rfl, h1.own.get 0 rfl, T.c_Node, T.n_Node_index, rfl, rfl, _, rfl, ?_⟩
      by_cases hb : (!decide (V.int (0 + (i : Int)) = V.int (c.ix : Nat))) = true
      · refine t_yes hb ?_
        refine ⟨_, rfl, c.p, c.pd, _, rfl, h1.own.get 0 rfl, rfl, _, rfl, _, rfl, c, m, _, us, lr, n + i, _, y, rfl, h1, by omega, fun t H2 x2 h2 ht2 => ?_⟩
        refine ⟨ts ++ [.ref t], _, rfl, ?_, ?_⟩
        · rw [← List.append_assoc]; exact x1.trans x2
        · rw [← List.append_assoc]; exact h2
      · refine t_no (by simpa using hb) ?_
        exact ⟨ts, _, rfl, x1, h1.mono (Nat.le_succ _)⟩
    · rintro σ H1 ⟨ts, v2, rfl, x1, h1⟩
      exact k ts H1 x1 h1
theorem slice1 {n k : Nat} (e : n = k + 2) : ¬(HT.sIx n 0 (some 1) = 0 ∧ HT.sIx n n none = n) := fun z => by
  have := z.1
  subst e
  simp [HT.sIx] at this
  try omega
theorem ND.note {H H' : Hp} {c : Nc} {m : Nm} {g : Nx} {us : List Upd} {lr : List PyData} {n : Nat} {u : Upd} {g' : Nx} {cs' : List V} {q : Addr} (h : ND K H c m g us lr n) (x : NG K c m g H m g' H') (o : Own H' (nob K c m g')) (hu : u.Ok) (hp : (recOf (us ++ [u])).pr ≤ n + 3)
    (e1 : g'.rows = g.rows ++ [.ref q]) (hq : Fz (Ft (nob K c m g')) H' q (.lst (u.pack.map V.int))) (hr : RcD K H' g'.row g'.pv g'.av (recOf (us ++ [u]))) (e2 : g'.cs = g.cs ++ cs') (hc : Ims K H' cs' ((votesFrom us.length [u]).map pairPy))
    (e3 : g'.ls = g.ls) (e4 : g'.wr = g.wr) (e5 : g'.att = g.att) (e6 : g'.os = g.os) : ND K H' c m g' (us ++ [u]) lr (n + 3) := by
  have d := h.d.go x
  refine ⟨o, ?_, hr, e3 ▸ d.ln, e4 ▸ d.wd, ?_, d.fm, e5 ▸ d.at_, fun v hv => ?_, e4 ▸ d.wl, ?_, fun k => ?_, e6 ▸ Nat.le_trans d.ol (by omega), ?_, ?_⟩
  · rw [e1, List.map_append]
    exact d.pays.append (.cons ⟨q, rfl, hq⟩ .nil)
  · rw [e2, castOf_snoc d.cl, List.map_append]
    exact d.ca.append hc
  · rcases List.mem_append.mp hv with hv | hv
    · exact d.ok v hv
    · obtain rfl : v = u := by simpa using hv
      exact hu
  · rw [List.length_append]; have := d.ul; simp only [List.length_cons, List.length_nil]; omega
  · by_cases hk : k ≤ us.length
    · rw [List.take_append_of_le_length hk]
      exact Nat.le_trans (d.pl k) (by omega)
    · rw [List.take_of_length_le (by rw [List.length_append]; simp only [List.length_cons, List.length_nil]; omega)]
      exact hp
  · rw [List.length_append]; have := d.sl; omega
  · rw [List.length_append]; have := d.cl; omega
theorem c_Node_note (T : Txt K mg) : C8.Met P w K mg base 4 (CN K) "note" (spNote K) [] := by
  refine met T.c_Node T.m_Node_note T.f_Node_note (N := (["self", "update"] : List Str)) (ps := (["self", "update"] : List Str)) (by decide +kernel) (fun _ _ _ _ _ _ us hl => match us, hl with | [_, _], _ => rfl) (fun vs H Q E h => ?_) (fun cdv A outer s H vs Q E hr h => ?_)
  · obtain ⟨_, _, _, _, _, _, _, _, rfl, _⟩ := h; rfl
  · obtain ⟨c, m, g, us, lr, n, v, u, rfl, h, hn, hv, hu, hpr, k⟩ := h
    refine ⟨_,
      (C8.pss_cut (ps_if (pt_cmpR op_eq (pe_ix ix_tup (L2.pv 1) pe_int (fun _ _ => rfl)) (C8.pe_gc rfl (gs T.v_ACCEPT)) (nomark _)) (pss_one (ps_expr (pe_bm PySem.F.plainAttrs_list PySem.F.slot_list_append PySem.F.type_list_append mt_append (pe_fld (L2.pv 0) rfl) (pa_cons (pe_tup (pa_cons (pe_pr (c_Journal_frame_count T) hr (by decide) (pe_fld (L2.pv 0) rfl)) (pa_cons (pe_slice sl_tup (L2.pv 1) (po_some pe_int) po_none) pa_nil))) pa_nil)))) pss_nil)
        (pss_cons (ps_expr (C8.pe_mt (c_Journal_append T) hr (by decide) (pe_fld (L2.pv 0) rfl) (pa_cons (C8.pe_c (c_pack T) hr (by decide) rfl (pa_cons (L2.pv 1) pa_nil)) pa_nil)))
        (pss_one (ps_expr (C8.pe_mt (c_Record_do T) hr (by decide) (pe_fld (L2.pv 0) rfl) (pa_cons (L2.pv 1) pa_nil))))))
      , ?_⟩
    have hul := h.d.ul
    have hrl := h.rl
    have hrows := h.rows
    have hsz := Upd.size hu
    have h0 := h.own.get 0 rfl
    refine ⟨fun σ H1 => σ = [some (.ref c.p), some v] ∧ ∃ cs', NG K c m g H m { g with cs := g.cs ++ cs' } H1 ∧ Own H1 (nob K c m { g with cs := g.cs ++ cs' }) ∧ Ims K H1 cs' ((votesFrom us.length [u]).map pairPy), ?_, ?_⟩
    · have no : (votesFrom us.length [u]) = [] → ∃ cs', NG K c m g H m { g with cs := g.cs ++ cs' } H ∧ Own H (nob K c m { g with cs := g.cs ++ cs' }) ∧ Ims K H cs' ((votesFrom us.length [u]).map pairPy) := fun e => by
        refine ⟨[], ?_⟩
        rw [List.append_nil, e]
        exact ⟨Go.refl H, h.own, .nil⟩
      cases u with
      | pro s r i =>
        obtain ⟨a, ws, rfl, hT, hU⟩ := hv.tuple
        obtain ⟨v0, e0, i0⟩ := hU.at_ (i := 0) rfl
        cases i0.strE
        refine ⟨_, rfl, a, _, _, _, rfl, rfl, hT, at_of (j := 0) rfl e0, rfl, _, rfl, ?_⟩
        exact t_no (str_ne (by decide +kernel)) ⟨rfl, no rfl⟩
      | cho s e =>
        obtain ⟨a, ws, rfl, hT, hU⟩ := hv.tuple
        obtain ⟨v0, e0, i0⟩ := hU.at_ (i := 0) rfl
        cases i0.strE
        refine ⟨_, rfl, a, _, _, _, rfl, rfl, hT, at_of (j := 0) rfl e0, rfl, _, rfl, ?_⟩
        exact t_no (str_ne (by decide +kernel)) ⟨rfl, no rfl⟩
      | acc s r i e =>
        obtain ⟨a, ws, rfl, hT, hU⟩ := hv.tuple
        obtain ⟨v0, e0, i0⟩ := hU.at_ (i := 0) rfl
        cases i0.strE
        refine ⟨_, rfl, a, _, _, _, rfl, rfl, hT, at_of (j := 0) rfl e0, rfl, _, rfl, ?_⟩
        refine t_yes (decide_eq_true rfl) ?_
        have hcl := h.d.ca.length
        refine ⟨_, rfl, c.p, _, c.pd, _, _, rfl, h0, T.c_Node, T.n_Node_cast, rfl, .inl ⟨rfl, _, SqL.of (h.own.get 11 rfl)⟩, _, rfl, c.p, _, c.pd, _, _, rfl, h0, T.c_Node, T.n_Node_journal, rfl, g.j, g.jd, _, rfl, h.own.get 1 rfl, g.j, g.jd, g.jr, g.rows, m.S, rfl, h.own.nj, _, rfl, _, rfl, a, _, rfl, hT, slice1 hU.length, fun t ht => ?_⟩
        refine ⟨by show 2 ≤ sizeLine; decide, fun q hq => ?_⟩
        obtain ⟨o1, x1⟩ := h.own.same ((Same.nw (o := .tup (cutV ws (some 1) none)) ht).trans (Same.nw (o := .tup [.int (g.rows.length : Nat), .ref t]) hq))
        have hlen : (castOf m.cb us).length ≤ us.length := by
          have key : ∀ n us, (votesFrom n us).length ≤ us.length := by
            intro n us
            induction us generalizing n with
            | nil => simp [votesFrom]
            | cons u us ih => cases u <;> simp only [votesFrom, List.length_cons] <;> have := ih (n + 1) <;> omega
          have := key m.cb (us.drop m.cb)
          rw [List.length_drop] at this
          unfold castOf
          omega
        rw [List.length_map] at hcl
        refine ⟨g.ca, _, _, rfl, rfl, o1.get 11 rfl, small1000 (by omega), rfl, [.ref q], ?_⟩
        obtain ⟨o2, x2⟩ := o1.put 11 rfl trivial (.lst (g.cs ++ [.ref q]))
        refine ⟨x1.trans x2, o2, .cons (.tup (sqT_go x2 (SqT.of upd_same)) (.cons ?_ (.cons (.tup (vs := ws.drop 1) (sqT_go x2 (SqT.of ?_)) ?_) .nil))) .nil⟩
        · rw [hrows]; exact .int _
        · show upd (upd H t _) q _ t = some (.tup (ws.drop 1))
          rw [upd_ne (ne_of_none upd_same hq), upd_same]
          rw [show (some (1 : Int)) = some ((1 : Nat) : Int) from rfl, cut_from]
        · exact (Ims.drop 1 hU).go (x1.trans x2)
    · rintro σ H1 ⟨rfl, cs', x1, o1, hc⟩
      have hv1 := hv.go x1
      refine ⟨_, rfl, c.p, _, c.pd, _, _, rfl, o1.get 0 rfl, T.c_Node, T.n_Node_journal, rfl, g.j, g.jd, _, rfl, o1.get 1 rfl, rfl, _, rfl, v, u.py, rfl, hv1, ⟨5, Upd.pk hu⟩, by omega, by omega, fun p H2 hp s2 hp2 => ?_⟩
      obtain ⟨o2, x2⟩ := o1.same s2
      refine ⟨g.j, g.jd, g.jr, p, g.rows, m.S, packD u.py, rfl, o2.nj, SqL.of hp2, by omega, fun q H3 hq x3 o3 hq3 => ?_⟩
      obtain ⟨o4, x4⟩ := Own.mid (a := [_]) (b := _ :: _ :: _ :: _ :: _ :: _ :: _ :: _ :: _ :: c.x) o2 x3 o3
      have x14 := (x1.trans x2).trans x4
      refine ⟨_, rfl, c.p, _, c.pd, _, _, rfl, o4.get 0 rfl, T.c_Node, T.n_Node_record, rfl, g.r, g.rd, _, rfl, o4.get 3 rfl, rfl, _, rfl, ?_⟩
      refine ⟨g.r, g.rd, g.rr, g.row, g.ac, g.ad, g.pv, g.av, v, recOf us, u, rfl, Own.nr (m := m) (g := { g with cs := g.cs ++ cs', rows := g.rows ++ [.ref q] }) o4, h.d.rc.go x14, hv.go x14, by omega, fun row' ac' ad' pv' av' H5 x5 o5 d5 hac => ?_⟩
      obtain ⟨o6, x6⟩ := Own.mid (a := [_, _, _]) (b := _ :: _ :: _ :: _ :: _ :: _ :: c.x) o4 x5 o5
      have x := x14.trans x6
      have fq : Fz (Ft (nob K c m { g with cs := g.cs ++ cs', rows := g.rows ++ [.ref q] })) H3 q (.lst (u.pack.map V.int)) := ⟨hq3, o2.no hq⟩
      exact k (g.rows ++ [.ref q]) row' ac' ad' pv' av' (g.cs ++ cs') H5 x (ND.note (g' := { g with rows := g.rows ++ [.ref q], row := row', ac := ac', ad := ad', pv := pv', av := av', cs := g.cs ++ cs' }) h x o6 hu hpr rfl (fq.go x6) (by rw [recOf_snoc]; exact d5) rfl (hc.go ((x2.trans x4).trans x6)) rfl rfl rfl rfl) hac
end
end Ck
/-! W15 -/
set_option maxHeartbeats 4000000
namespace Ck
open PySem PySem.Spec PyProof.Rows L2
/-! ### an attempt begins -/
/-- the attempt's ballot is noted and all are asked -/
def Asked (K : PySem.W.Frag) (c : Nc) (g : Nx) (us : List Upd) (g' : Nx) (us' : List Upd) (H' : Hp) : Prop :=
  us' = us ++ [.pro ((recOf us).row.length + 1) ((recOf us).pr + 1) c.ix] ∧ ∃ ts y, g'.os = g.os ++ ts ∧ ts.length = c.sz ∧ (∀ x ∈ ts, ∃ t z, x = .ref t ∧ SqT K H' t [z, y]) ∧
    Im K H' y (.tuple [.str "ask", .int ((recOf us).row.length + 1 : Nat), bal ((recOf us).pr + 1) c.ix])
def spBegin (K : PySem.W.Frag) : Sp := fun vs H Q _ => ∃ (c : Nc) (m : Nm) (g : Nx) (us : List Upd) (lr : List PyData) (n : Nat), vs = [.ref c.p] ∧ ND K H c m g us lr n ∧ n ≤ 900 ∧ Wishes g ∧
  ∀ g' us' H', NG K c m g H m g' H' → ND K H' c m g' us' lr (n + 10) → (recOf us').row = (recOf us).row → Asked K c g us g' us' H' → Q (.bl true) H'
def spBiq (K : PySem.W.Frag) : Sp := fun vs H Q _ => ∃ (c : Nc) (m : Nm) (g : Nx) (us : List Upd) (lr : List PyData) (n : Nat), vs = [.ref c.p] ∧ ND K H c m g us lr n ∧ n ≤ 900 ∧ Wishes g ∧
  ∀ g' us' H', NG K c m g H m g' H' → ND K H' c m g' us' lr (n + 10) → (recOf us').row = (recOf us).row → (g.att = .non → g.gu = false → Asked K c g us g' us' H') → Q .non H'
theorem ND.bal {K : PySem.W.Frag} {H : Hp} {c : Nc} {m : Nm} {g : Nx} {us : List Upd} {lr : List PyData} {n : Nat} (h : ND K H c m g us lr n) : ∃ b, g.pv = .ref b ∧ SqT K H b [.int ((recOf us).pr : Nat), .int ((recOf us).pi : Nat)] := by
  obtain ⟨b, ws, e, hT, hU⟩ := h.d.rc.pr.tuple
  refine ⟨b, e, ?_⟩
  rcases hU with _ | ⟨i0, _ | ⟨i1, _ | _⟩⟩
  rw [i0.intE, i1.intE] at hT
  exact hT
theorem ND.acc {K : PySem.W.Frag} {H : Hp} {c : Nc} {m : Nm} {g : Nx} {us : List Upd} {lr : List PyData} {n : Nat} (h : ND K H c m g us lr n) : g.av = .non ∨ ∃ a x y r i e, g.av = .ref a ∧ SqT K H a [x, y] ∧ Im K H x (Ck.bal r i) ∧ Im K H y (Ent.py e) := by
  have z := h.d.rc.ac
  cases e0 : (recOf us).ac with
  | none => rw [e0] at z; exact .inl z.nonE
  | some q =>
    rw [e0] at z
    obtain ⟨r, i, e⟩ := q
    obtain ⟨a, ws, e1, hT, hU⟩ := Im.tuple z
    rcases hU with _ | ⟨i0, _ | ⟨i1, _ | _⟩⟩
    exact .inr ⟨a, _, _, r, i, e, e1, hT, i0, i1⟩
theorem ND.set {K : PySem.W.Frag} {H : Hp} {c : Nc} {m : Nm} {g : Nx} {us : List Upd} {lr : List PyData} {n : Nat} (h : ND K H c m g us lr n) (pat : Int) (gu : Bool) :
    ND K (upd H c.p (.ins (CN K) c.pd (nfs K c m { g with pat := pat, gu := gu }))) c m { g with pat := pat, gu := gu } us lr n ∧ NG K c m g H m { g with pat := pat, gu := gu } (upd H c.p (.ins (CN K) c.pd (nfs K c m { g with pat := pat, gu := gu }))) := by
  obtain ⟨o, x⟩ := h.own.put 0 rfl trivial (.ins (CN K) c.pd (nfs K c m { g with pat := pat, gu := gu }))
  exact ⟨⟨o, h.d.go x⟩, x⟩
theorem ND.att {K : PySem.W.Frag} {H : Hp} {c : Nc} {m : Nm} {g : Nx} {us : List Upd} {lr : List PyData} {n : Nat} (h : ND K H c m g us lr n) {v : V} (a : AtV K (Ft (nob K c m g)) H v) :
    ND K (upd H c.p (.ins (CN K) c.pd (nfs K c m { g with att := v }))) c m { g with att := v } us lr n ∧ NG K c m g H m { g with att := v } (upd H c.p (.ins (CN K) c.pd (nfs K c m { g with att := v }))) := by
  obtain ⟨o, x⟩ := h.own.put 0 rfl trivial (.ins (CN K) c.pd (nfs K c m { g with att := v }))
  have d := h.d.go x
  exact ⟨⟨o, ⟨d.pays, d.rc, d.ln, d.wd, d.ca, d.fm, a.go x, d.ok, d.wl, d.ul, d.pl, d.ol, d.sl, d.cl⟩⟩, x⟩
section
variable {P : Program} {w : World} {K : PySem.W.Frag} {mg : Str → Option Value} {base : Heap}
theorem c_Node_begin (T : Txt K mg) : C8.Met P w K mg base 7 (CN K) "begin" (spBegin K) [] := by
  refine met T.c_Node T.m_Node_begin T.f_Node_begin (N := (["self", "ballot", "slot", "entry"] : List Str)) (ps := (["self"] : List Str)) (by decide +kernel) (fun _ _ _ _ _ _ us hl => match us, hl with | [_], _ => rfl) (fun vs H Q E h => ?_) (fun cdv A outer s H vs Q E hr h => ?_)
  · obtain ⟨_, _, _, _, _, _, rfl, _⟩ := h; rfl
  · obtain ⟨c, m, g, us, lr, n, rfl, h, hn, hw, k⟩ := h
    have nd : ((["self", "ballot", "slot", "entry"] : List Str)).Nodup := by decide +kernel
    refine ⟨_,
      (pss_cons (ps_set (i := 1) nd rfl (by first | exact Or.inl rfl | exact Or.inr rfl) (C8.pe_c (c_next_ballot T) hr (by decide) rfl (pa_cons (pe_callB (call_max2 rfl) (by rfl) T.b_max bt_max (pa_cons (pe_fld (L2.pv 0) rfl) (pa_cons (pe_ix ix_tup (pe_fld (pe_fld (pe_fld (L2.pv 0) rfl) rfl) rfl) pe_int (fun _ _ => rfl)) pa_nil))) (pa_cons (pe_fld (L2.pv 0) rfl) pa_nil))))
        (pss_cons (ps_if (pt_cmpR op_isN (L2.pv 1) pe_non (nomark _)) (pss_one (ps_ret pe_bl)) pss_nil)
        (pss_cons (ps_set (i := 2) nd rfl (by first | exact Or.inl rfl | exact Or.inr rfl) (pe_op op_add (pe_pr (c_Node_upto T) hr (by decide) (L2.pv 0)) pe_int))
        (pss_cons (ps_set (i := 3) nd rfl (by first | exact Or.inl rfl | exact Or.inr rfl) (C8.pe_mt0 (c_Node_wish T) hr (by decide) (L2.pv 0)))
        (pss_cons (ps_expr (C8.pe_mt (c_Node_note T) hr (by decide) (L2.pv 0) (pa_cons (pe_tup (pa_cons (C8.pe_gc rfl (gs T.v_PROMISE)) (pa_cons (L2.pv 2) (pa_cons (L2.pv 1) pa_nil)))) pa_nil)))
        (pss_cons (ps_fld (L2.pv 0) (C8.pe_mk (c_Attempt_init T) hr (by decide) rfl (pa_cons (L2.pv 1) (pa_cons (L2.pv 3) (pa_cons (pe_pr (c_Node_members_now T) hr (by decide) (L2.pv 0)) pa_nil)))) rfl)
        (pss_cons (ps_fld (L2.pv 0) pe_bl rfl)
        (pss_cons (ps_fld (L2.pv 0) (C8.pe_mt0 (c_Node_long_patience T) hr (by decide) (L2.pv 0)) rfl)
        (pss_cons (ps_expr (C8.pe_mt (c_Node_post_all T) hr (by decide) (L2.pv 0) (pa_cons (pe_tup (pa_cons (C8.pe_gc rfl (gs T.v_ASK)) (pa_cons (L2.pv 2) (pa_cons (L2.pv 1) pa_nil)))) pa_nil)))
        (pss_one (ps_ret pe_bl)))))))))))
      , ?_⟩
    have h0 := h.own.get 0 rfl
    obtain ⟨b, hb, hbT⟩ := h.bal
    have hix := h.ix
    have hs := c.hs
    have hpl := h.prn
    have hrl := h.rl
    have hul := h.d.ul
    refine ⟨_, rfl, c.p, _, c.pd, _, _, rfl, h0, T.c_Node, T.n_Node_seen, rfl, _, rfl, c.p, _, c.pd, _, _, rfl, h0, T.c_Node, T.n_Node_record, rfl, g.r, _, g.rd, _, _, rfl, h.own.get 3 rfl, T.c_Record, T.n_Record_acceptor, rfl, g.ac, _, g.ad, _, _, rfl, h.own.get 5 rfl, T.c_Acceptor, T.n_Acceptor_promised, rfl, b, _, _, _, hb, rfl, hbT, at_of (j := 0) rfl rfl, ?_⟩
    have emx : (if (((recOf us).pr : Nat) : Int) > 0 then (((recOf us).pr : Nat) : Int) else 0) = (((recOf us).pr : Nat) : Int) := by
      split <;> omega
    refine ⟨_, _, rfl, _, rfl, c.p, _, c.pd, _, _, rfl, h0, T.c_Node, T.n_Node_index, rfl, (recOf us).pr, c.ix, by rw [emx]; rfl, by omega, fun t H1 s1 ht => ?_⟩
    obtain ⟨h1, x1⟩ := h.same s1
    refine ⟨_, rfl, rfl, _, rfl, ?_⟩
    refine t_no rfl ?_
    refine ⟨_, rfl, c.p, c.pd, _, rfl, h1.own.get 0 rfl, c, m, g, rfl, h1.own, _, _, rfl, rfl, ?_⟩
    -- entry = self.wish()
    refine ⟨_, rfl, c.p, c.pd, _, rfl, h1.own.get 0 rfl, rfl, c, m, g, rfl, h1.own, hw, fun hne => ?_, fun ev H2 s2 => ?_⟩
    · rcases h1.acc with z | ⟨a, x, y, r, i, e, e1, hT, _⟩
      · exact absurd z hne
      · exact ⟨a, x, y, e1, hT⟩
    obtain ⟨h2, x2⟩ := h1.same s2
    have slotI : ∀ H', Im K H' (.int ((g.row.length : Int) + 1)) (.int ((recOf us).row.length + 1 : Nat)) := fun H' => by
      rw [← hrl.1]; exact .int _
    have balI : Im K H2 (.ref t) (bal ((recOf us).pr + 1) c.ix) := .tup (SqT.of (s2 _ _ ht)) (.cons (.int _) (.cons (.int _) .nil))
    -- self.note((PROMISE, slot, ballot))
    refine ⟨_, rfl, c.p, c.pd, _, rfl, h2.own.get 0 rfl, rfl, _, rfl, _, rfl, by show 3 ≤ sizeLine; decide, fun q hq => ?_⟩
    obtain ⟨h3, x3⟩ := h2.same (Same.nw (o := .tup [.str "promise", .int ((g.row.length : Int) + 1), .ref t]) hq)
    refine ⟨c, m, g, us, lr, n, .ref q, .pro ((recOf us).row.length + 1) ((recOf us).pr + 1) c.ix, rfl, h3, hn, .tup (SqT.of upd_same) (.cons (.str _) (.cons (slotI _) (.cons (balI.go x3) .nil))), ⟨by omega, by omega, by omega⟩, by rw [recOf_snoc]; show (recOf us).pr + 1 ≤ n + 3; omega, fun rows' row' ac' ad' pv' av' cs' H4 x4 h4 _ => ?_⟩
    have bal4 := (balI.go x3).go x4
    have hrow : (recOf (us ++ [.pro ((recOf us).row.length + 1) ((recOf us).pr + 1) c.ix])).row = (recOf us).row := by rw [recOf_snoc]; rfl
    -- self.attempt = Attempt(ballot, entry, self.members_now)
    refine ⟨_, rfl, _, rfl, _, rfl, c.p, c.pd, _, rfl, h4.own.get 0 rfl, c, m, _, _, rfl, h4.own, h4.d.fm, h4.d.rc.row, fun mv H5 s5 _ => ?_⟩
    obtain ⟨h5, x5⟩ := h4.same s5
    refine fun u ud nu nud ne => ⟨u, ud, .ref t, ev, mv, rfl, upd_same, fun k1 k2 H6 n1 n2 x6 hu hk1 hk2 => ⟨rfl, ?_⟩⟩
    have s6 := made_same nu nud x6
    obtain ⟨h6, x6'⟩ := h5.same s6
    refine ⟨_, rfl, c.p, _, c.pd, _, rfl, h6.own.get 0 rfl, T.c_Node, T.n_Node_attempt, (by show 18 < 1000; decide), ?_⟩
    obtain ⟨h7, x7⟩ := h6.att (v := .ref u) (.inr ⟨u, ud, _, _, _, k1, k2, rfl, ⟨hu, h5.own.no nu⟩, ⟨hk1, h5.own.no (fresh2 n1)⟩, ⟨hk2, h5.own.no (fresh2 n2)⟩⟩)
    -- self.guest = False
    refine ⟨_, rfl, c.p, _, c.pd, _, rfl, h7.own.get 0 rfl, T.c_Node, T.n_Node_guest, (by show 18 < 1000; decide), ?_⟩
    obtain ⟨h8, x8⟩ := h7.set g.pat false
    -- self.patience = self.long_patience()
    refine ⟨_, rfl, c.p, c.pd, _, rfl, h8.own.get 0 rfl, rfl, c.p, c.pd, _, c.ix, rfl, h8.own.get 0 rfl, rfl, fun pi => ?_⟩
    refine ⟨_, rfl, c.p, _, c.pd, _, rfl, h8.own.get 0 rfl, T.c_Node, T.n_Node_patience, (by show 18 < 1000; decide), ?_⟩
    obtain ⟨h9, x9⟩ := h8.set pi false
    -- self.post_all((ASK, slot, ballot))
    refine ⟨_, rfl, c.p, c.pd, _, rfl, h9.own.get 0 rfl, rfl, _, rfl, _, rfl, by show 3 ≤ sizeLine; decide, fun y hy => ?_⟩
    obtain ⟨h10, x10⟩ := h9.same (Same.nw (o := .tup [.str "ask", .int ((g.row.length : Int) + 1), .ref t]) hy)
    refine ⟨c, m, _, _, lr, n + 3, .ref y, rfl, h10, by omega, fun ts H11 x11 h11 hl hts => ?_⟩
    refine k _ _ H11 (((((((((((x1.trans x2).trans x3).trans x4).trans x5).trans x6').trans x7).trans x8).trans x9).trans x10).trans x11)) (h11.mono (by omega)) hrow ⟨rfl, ts, .ref y, rfl, hl, hts, ?_⟩
    exact .tup (sqT_go x11 (SqT.of upd_same)) (.cons (.str _) (.cons (slotI _) (.cons (((((((bal4.go x5).go x6').go x7).go x8).go x9).go x10).go x11) .nil)))

theorem c_Node_begin_if_quiet (T : Txt K mg) : C8.Met P w K mg base 8 (CN K) "begin_if_quiet" (spBiq K) [] := by
  refine met T.c_Node T.m_Node_begin_if_quiet T.f_Node_begin_if_quiet (N := (["self"] : List Str)) (ps := (["self"] : List Str)) (by decide +kernel) (fun _ _ _ _ _ _ us hl => match us, hl with | [_], _ => rfl) (fun vs H Q E h => ?_) (fun cdv A outer s H vs Q E hr h => ?_)
  · obtain ⟨_, _, _, _, _, _, rfl, _⟩ := h; rfl
  · obtain ⟨c, m, g, us, lr, n, rfl, h, hn, hw, k⟩ := h
    refine ⟨_,
      (pss_one (ps_if (PW.pt (pw_and (pt_cmpR op_isN (pe_fld (L2.pv 0) rfl) pe_non (nomark _)) (pw_and1 (pt_not (pt_val (pe_fld (L2.pv 0) rfl)))))) (pss_one (ps_expr (C8.pe_mt0 (c_Node_begin T) hr (by decide) (L2.pv 0)))) pss_nil))
      , ?_⟩
    have h0 := h.own.get 0 rfl
    refine ⟨_, rfl, c.p, _, c.pd, _, _, rfl, h0, T.c_Node, T.n_Node_attempt, rfl, rfl, _, rfl, ?_⟩
    have no : ¬ (g.att = .non ∧ g.gu = false) → Q .non H := fun z => k g us H (Go.refl H) (h.mono (by omega)) rfl fun e1 e2 => absurd ⟨e1, e2⟩ z
    by_cases ha : g.att = .non
    · refine t_yes (decide_eq_true ha) ?_
      refine ⟨_, rfl, c.p, _, c.pd, _, _, rfl, h0, T.c_Node, T.n_Node_guest, rfl, _, rfl, ?_⟩
      cases hg : g.gu with
      | true => 
        refine t_no rfl ?_
        exact no fun z => by rw [hg] at z; exact Bool.noConfusion z.2
      | false =>
        refine t_yes rfl ?_
        exact ⟨_, rfl, c.p, c.pd, _, rfl, h0, rfl, c, m, g, us, lr, n, rfl, h, hn, hw, fun g' us' H' x h' e a => k g' us' H' x h' e fun _ _ => a⟩
    · refine t_no (decide_eq_false ha) ?_
      exact no fun z => ha z.1
end
end Ck
/-! W16 -/
set_option maxHeartbeats 4000000
namespace Ck
open PySem PySem.Spec PyProof.Rows L2
theorem ND.wait {K : PySem.W.Frag} {H H' : Hp} {c : Nc} {m : Nm} {g : Nx} {us : List Upd} {lr : List PyData} {n : Nat} (h : ND K H c m g us lr n) (s : Same H H') {D : Addr} {xs : List V} (nD : H D = none) (eD : H' D = some (.lst xs)) (w : ∃ ds, Ims K H' xs ds ∧ ∀ d ∈ ds, good 10 d = true) (w2 : xs.length ≤ 16) :
    ND K (upd H' c.p (.ins (CN K) c.pd (nfs K c m { g with wa := D, wr := xs }))) c m { g with wa := D, wr := xs } us lr n ∧ NG K c m g H m { g with wa := D, wr := xs } (upd H' c.p (.ins (CN K) c.pd (nfs K c m { g with wa := D, wr := xs }))) := by
  obtain ⟨o1, x1⟩ := h.own.new 8 s nD eD
  obtain ⟨o2, x2⟩ := o1.put 0 rfl trivial (.ins (CN K) c.pd (nfs K c m { g with wa := D, wr := xs }))
  have x := x1.trans x2
  have d := h.d.go x
  exact ⟨⟨o2, ⟨d.pays, d.rc, d.ln, w.imp fun _ z => ⟨z.1.go x2, z.2⟩, d.ca, d.fm, d.at_, d.ok, w2, d.ul, d.pl, d.ol, d.sl, d.cl⟩⟩, x⟩
theorem ND.outb {K : PySem.W.Frag} {H H' : Hp} {c : Nc} {m : Nm} {g : Nx} {us : List Upd} {lr : List PyData} {n : Nat} (h : ND K H c m g us lr n) (s : Same H H') {D : Addr} {xs : List V} (nD : H D = none) (eD : H' D = some (.lst xs)) (w : xs.length ≤ n) :
    ND K (upd H' c.p (.ins (CN K) c.pd (nfs K c m { g with ob := D, os := xs }))) c m { g with ob := D, os := xs } us lr n ∧ NG K c m g H m { g with ob := D, os := xs } (upd H' c.p (.ins (CN K) c.pd (nfs K c m { g with ob := D, os := xs }))) := by
  obtain ⟨o1, x1⟩ := h.own.new 9 s nD eD
  obtain ⟨o2, x2⟩ := o1.put 0 rfl trivial (.ins (CN K) c.pd (nfs K c m { g with ob := D, os := xs }))
  have x := x1.trans x2
  have d := h.d.go x
  exact ⟨⟨o2, ⟨d.pays, d.rc, d.ln, d.wd, d.ca, d.fm, d.at_, d.ok, d.wl, d.ul, d.pl, w, d.sl, d.cl⟩⟩, x⟩
theorem ND.spok {K : PySem.W.Frag} {H H' : Hp} {c : Nc} {m : Nm} {g : Nx} {us : List Upd} {lr : List PyData} {n : Nat} (h : ND K H c m g us lr n) (s : Same H H') {D : Addr} {xs : List V} (nD : H D = none) (eD : H' D = some (.lst xs))  :
    ND K (upd H' c.p (.ins (CN K) c.pd (nfs K c m { g with sp := D, ss := xs }))) c m { g with sp := D, ss := xs } us lr n ∧ NG K c m g H m { g with sp := D, ss := xs } (upd H' c.p (.ins (CN K) c.pd (nfs K c m { g with sp := D, ss := xs }))) := by
  obtain ⟨o1, x1⟩ := h.own.new 10 s nD eD
  obtain ⟨o2, x2⟩ := o1.put 0 rfl trivial (.ins (CN K) c.pd (nfs K c m { g with sp := D, ss := xs }))
  have x := x1.trans x2
  have d := h.d.go x
  exact ⟨⟨o2, ⟨d.pays, d.rc, d.ln, d.wd, d.ca, d.fm, d.at_, d.ok, d.wl, d.ul, d.pl, d.ol, d.sl, d.cl⟩⟩, x⟩
theorem ND.cast {K : PySem.W.Frag} {H H' : Hp} {c : Nc} {m : Nm} {g : Nx} {us : List Upd} {lr : List PyData} {n : Nat} (h : ND K H c m g us lr n) (s : Same H H') {D : Addr} {xs : List V} {cb : Nat} (nD : H D = none) (eD : H' D = some (.lst xs)) (w : Ims K H' xs ((castOf cb us).map pairPy)) (w2 : cb ≤ us.length) :
    ND K (upd H' c.p (.ins (CN K) c.pd (nfs K c m { g with ca := D, cs := xs }))) c { m with cb := cb } { g with ca := D, cs := xs } us lr n ∧ NG K c m g H { m with cb := cb } { g with ca := D, cs := xs } (upd H' c.p (.ins (CN K) c.pd (nfs K c m { g with ca := D, cs := xs }))) := by
  obtain ⟨o1, x1⟩ := h.own.new 11 s nD eD
  obtain ⟨o2, x2⟩ := o1.put 0 rfl trivial (.ins (CN K) c.pd (nfs K c m { g with ca := D, cs := xs }))
  have x := x1.trans x2
  have d := h.d.go x
  exact ⟨⟨o2, ⟨d.pays, d.rc, d.ln, d.wd, w.go x2, d.fm, d.at_, d.ok, d.wl, d.ul, d.pl, d.ol, d.sl, w2⟩⟩, x⟩
theorem ND.lin {K : PySem.W.Frag} {H : Hp} {c : Nc} {m : Nm} {g : Nx} {us : List Upd} {lr : List PyData} {n : Nat} (h : ND K H c m g us lr n) {H' : Hp} {ls' : List V} {lr' : List PyData} (x : Go (Ft (dl K g.m g.md g.ml g.ls)) H (Ft (dl K g.m g.md g.ml ls')) H') (o : Own H' (dl K g.m g.md g.ml ls')) (i : Ims K H' ls' lr') :
    ND K H' c m { g with ls := ls' } us lr' n ∧ NG K c m g H m { g with ls := ls' } H' := by
  obtain ⟨o1, x1⟩ := Own.mid (a := [_, _, _, _, _, _]) (b := _ :: _ :: _ :: _ :: c.x) h.own x o
  have d := h.d.go x1
  exact ⟨⟨o1, ⟨d.pays, d.rc, i, d.wd, d.ca, d.fm, d.at_, d.ok, d.wl, d.ul, d.pl, d.ol, d.sl, d.cl⟩⟩, x1⟩
/-- the machine told the row -/
abbrev NDs (K : PySem.W.Frag) (H : Hp) (c : Nc) (m : Nm) (g : Nx) (us : List Upd) (n : Nat) : Prop := ND K H c m g us (linesOf (recOf us).row) n
def spLearn (K : PySem.W.Frag) : Sp := fun vs H Q _ => ∃ (c : Nc) (m : Nm) (g : Nx) (us : List Upd) (n : Nat) (v : V) (e : Ent), vs = [.ref c.p, v, .bl false] ∧ NDs K H c m g us n ∧ n ≤ 900 ∧ Im K H v e.py ∧ e.Ok ∧
  ∀ g' us' H', NG K c m g H m g' H' → NDs K H' c m g' us' (n + 3) → Q .non H'
theorem Ent.ne_wanted (e : Ent) (h : e.Ok) : PyData.eqv e.py (.tuple [.str "members", .none]) = false := by
  refine eqv_no (pk_good (Ent.pk h)) (m := 10) (by decide +kernel) ?_
  cases e with
  | batch cs => simp [Ent.py]
  | mem ms => simp [Ent.py]
theorem ND.linesOk {K : PySem.W.Frag} {H : Hp} {c : Nc} {m : Nm} {g : Nx} {us : List Upd} {lr : List PyData} {n : Nat} (h : ND K H c m g us lr n) : (linesOf (recOf us).row).length ≤ 8 * us.length ∧ ∀ c ∈ linesOf (recOf us).row, CmdOk c := by
  have z := lines_ok (recOf_ok h.d.ok)
  have := recOf_row_le us
  exact ⟨by omega, z.2⟩
section
variable {P : Program} {w : World} {K : PySem.W.Frag} {mg : Str → Option Value} {base : Heap}
theorem c_Node_learn (T : Txt K mg) : C8.Met P w K mg base 5 (CN K) "learn" (spLearn K) [] := by
  refine met T.c_Node T.m_Node_learn T.f_Node_learn (N := (["self", "entry", "counted", "command", "letters"] : List Str)) (ps := (["self", "entry", "counted"] : List Str)) (by decide +kernel) (fun _ _ _ _ _ _ us hl => match us, hl with | [_, _, _], _ => rfl) (fun vs H Q E h => ?_) (fun cdv A outer s H vs Q E hr h => ?_)
  · obtain ⟨_, _, _, _, _, _, _, rfl, _⟩ := h; rfl
  · obtain ⟨c, m, g, us, n, v, e, rfl, h, hn, hv, he, k⟩ := h
    have nd : ((["self", "entry", "counted", "command", "letters"] : List Str)).Nodup := by decide +kernel
    refine ⟨_,
      (pss_cons (ps_expr (C8.pe_mt (c_Node_note T) hr (by decide) (L2.pv 0) (pa_cons (pe_tup (pa_cons (C8.pe_gc rfl (gs T.v_CHOSEN)) (pa_cons (pe_op op_add (pe_pr (c_Node_upto T) hr (by decide) (L2.pv 0)) pe_int) (pa_cons (L2.pv 1) pa_nil)))) pa_nil)))
        (pss_cons (ps_for PassesOwn.never rfl (pi_list (C8.pe_c (c_commands_of T) hr (by decide) rfl (pa_cons (L2.pv 1) pa_nil))) (pg_name (i := 3) nd rfl (by first | exact Or.inl rfl | exact Or.inr rfl)) (pss_cons (ps_set (i := 4) nd rfl (by first | exact Or.inl rfl | exact Or.inr rfl) (C8.pe_mt (c_Diary_apply T) hr (by decide) (pe_fld (L2.pv 0) rfl) (pa_cons (L2.pv 3) pa_nil)))
        (pss_one (ps_if (pt_val (L2.pv 2)) pss_never pss_nil))))
        (pss_cons (ps_fld (L2.pv 0) (pe_lc (by rfl) nd (pi_list (pe_fld (L2.pv 0) rfl)) (blkOk_by (own := [("command", 3)]) (N := ["self", "entry", "counted", "command", "letters"]) (sc := defScope s_Node_learn) (by decide +kernel)) (fun _ _ _ _ _ => pg_name (i := 3) nd rfl (by first | exact Or.inl rfl | exact Or.inr rfl)) (fun _ _ _ _ _ => (pts_one (pt_not (pt_val (C8.pe_mt (c_Diary_settled T) hr (by decide) (pe_fldK (K := K) rfl (L2.pv 0) rfl) (pa_cons (L2.pv 3) pa_nil)))))) (fun _ _ _ _ _ => (L2.pv 3))) rfl)
        (pss_cons (ps_if (pt_cmpR (op_eqD hr.units) (L2.pv 1) (pe_tup (pa_cons (C8.pe_gc rfl (gs T.v_MEMBERS)) (pa_cons (pe_fld (L2.pv 0) rfl) pa_nil))) (nomark _)) (pss_one (ps_fld (L2.pv 0) pe_non rfl)) pss_nil)
        (pss_cons (ps_fld (L2.pv 0) pe_non rfl)
        (pss_cons (ps_fld (L2.pv 0) pe_bl rfl)
        (pss_cons (ps_fld (L2.pv 0) (pe_op op_add pe_int (pe_op op_mul pe_int (pe_fld (L2.pv 0) rfl))) rfl)
        (pss_one (ps_fld (L2.pv 0) pe_int rfl)))))))))
      , ?_⟩
    have h0 := h.own.get 0 rfl
    have hrl := h.rl
    have hul := h.d.ul
    have hlk := h.linesOk
    refine ⟨_, rfl, c.p, c.pd, _, rfl, h0, rfl, _, rfl, c.p, c.pd, _, rfl, h0, c, m, g, rfl, h.own, _, _, rfl, rfl, _, rfl, by show 3 ≤ sizeLine; decide, fun q hq => ?_⟩
    obtain ⟨h1, x1⟩ := h.same (Same.nw (o := .tup [.str "chosen", .int ((g.row.length : Int) + 1), v]) hq)
    have slotI : ∀ H', Im K H' (.int ((g.row.length : Int) + 1)) (.int (g.row.length + 1 : Nat)) := fun H' => .int _
    refine ⟨c, m, g, us, _, n, .ref q, .cho (g.row.length + 1) e, rfl, h1, hn, .tup (SqT.of upd_same) (.cons (.str _) (.cons (slotI _) (.cons (hv.go x1) .nil))), ⟨by omega, he⟩, by rw [recOf_snoc]; exact Nat.zero_le _, fun rows' row' ac' ad' pv' av' cs' H2 x2 h2 _ => ?_⟩
    have hrow : (recOf (us ++ [.cho (g.row.length + 1) e])).row = (recOf us).row ++ [e] := by rw [recOf_snoc]; rfl
    generalize { g with rows := rows', row := row', ac := ac', ad := ad', pv := pv', av := av', cs := cs' } = g2 at x2 h2 ⊢
    generalize hus2 : us ++ [Upd.cho (g.row.length + 1) e] = us2 at h2 hrow ⊢
    have hv2 := (hv.go x1).go x2
    refine ⟨_, rfl, v, e, rfl, hv2, fun D ws H3 nD s3 hD hW => ?_⟩
    obtain ⟨h3, x3⟩ := h2.same s3
    have hx3 := (x1.trans x2).trans x3
    have hwl := hW.length
    obtain ⟨hcl, hcok⟩ := Ent.cmds_ok he
    refine ⟨D, rfl, ⟨_, SqL.of hD⟩, for_it (walk_list (xs := ws)) (fun i σ H' => ∃ g' v3 v4, σ = [some (.ref c.p), some v, some (.bl false), v3, v4] ∧ NG K c m g2 H3 m g' H' ∧ ND K H' c m g' us2 ((e.cmds.take i).foldl addLine (linesOf (recOf us).row)) (n + 3) ∧ Fz (Ft (nob K c m g')) H' D (.lst ws))
      ⟨g2, none, none, rfl, Go.refl H3, h3, hD, h2.own.no nD⟩ (fun i σ H' _ z => ?_) ?_ ?_⟩
    · obtain ⟨_, _, _, _, _, _, z⟩ := z
      exact SqL.of z.1
    · rintro i x σ H4 H4' hi ⟨g', v3, v4, rfl, x4, h4, z4⟩ ⟨rfl, hx⟩
      obtain ⟨cm, hcm, hxi⟩ := hW.of hx
      have hcmo := hcok cm (List.mem_of_getElem? hcm)
      refine ⟨_, rfl, c.p, _, c.pd, _, _, rfl, h4.own.get 0 rfl, T.c_Node, T.n_Node_machine, rfl, g'.m, g'.md, _, rfl, h4.own.get 6 rfl, rfl, _, rfl, g'.m, g'.md, g'.ml, g'.ls, _, x, cm, rfl, h4.own.nm, h4.d.ln, hxi.go x4, hcmo.good, ?_, ?_, fun p ls' H5 x5 o5 i5 => ?_⟩
      · exact fun d hd => (fold_all hlk.2 (fun c hc => hcok c (List.mem_of_mem_take hc)) d hd).good
      · have := fold_len (e.cmds.take i) (linesOf (recOf us).row)
        rw [List.length_take] at this
        omega
      · obtain ⟨h5, x5'⟩ := h4.lin x5 o5 i5
        refine ⟨_, rfl, _, rfl, ?_⟩
        refine t_no rfl ?_
        refine ⟨_, _, _, rfl, x4.trans x5', ?_, z4.go x5'⟩
        have e1 : e.cmds.take (i + 1) = e.cmds.take i ++ [cm] := by rw [List.take_succ, hcm]; rfl
        rw [e1, List.foldl_append]
        exact h5
    · rintro σ H4 ⟨g', v3, v4, rfl, x4, h4, z4⟩
      rw [hwl, List.take_length, ← linesOf_snoc, ← hrow] at h4
      have h0' := h4.own.get 0 rfl
      obtain ⟨wd, hwd, hwg⟩ := h4.d.wd
      have hlk4 := h4.linesOk
      -- self.waiting = [command for command in self.waiting if not self.machine.settled(command)]
      refine ⟨_, rfl, c.p, _, c.pd, _, _, rfl, h0', T.c_Node, T.n_Node_waiting, rfl, g'.wa, rfl, ⟨_, SqL.of (h4.own.get 8 rfl)⟩, fun W nW => ?_⟩
      have hwl4 := h4.d.wl
      refine lc_it (walk_list (xs := g'.wr)) (fun i H' => Same H4 H' ∧ ∃ us ds, H' W = some (.lst us) ∧ Ims K H' us ds ∧ (∀ d ∈ ds, good 10 d = true) ∧ us.length ≤ i) ⟨Same.nw nW, [], [], upd_same, .nil, (fun _ z => nomatch z), Nat.le_refl _⟩ (fun i H' _ p => p.1.seq (SqL.of (h4.own.get 8 rfl))) ?_ ?_
      · rintro i x H5 H5' hi ⟨s5, us5, ds5, e5, i5, g5, l5⟩ ⟨rfl, hx⟩
        obtain ⟨cm, hcm, hxi⟩ := hwd.of hx
        have hgc := hwg cm (List.mem_of_getElem? hcm)
        obtain ⟨h5, x5⟩ := h4.same s5
        refine ⟨rfl, _, rfl, c.p, _, c.pd, _, _, rfl, h5.own.get 0 rfl, T.c_Node, T.n_Node_machine, rfl, g'.m, g'.md, _, rfl, h5.own.get 6 rfl, rfl, _, rfl, g'.m, g'.md, g'.ml, g'.ls, _, x, cm, rfl, h5.own.nm, h5.d.ln, hxi.go x5, hgc, fun d hd => (hlk4.2 d hd).good, ?_⟩
        cases (linesOf (recOf us2).row).any (fun z => PyData.eqv z cm) with
        | true => 
          refine ⟨_, rfl, t_no rfl ?_⟩
          exact ⟨s5, us5, ds5, e5, i5, g5, by omega⟩
        | false =>
          refine ⟨_, rfl, t_yes rfl ?_⟩
          have nW5 : H4 W = none := nW
          have hi16 : us5.length ≤ 1000 := by
            have := List.getElem?_eq_some_iff.mp hx
            obtain ⟨hlt, _⟩ := this
            omega
          refine ⟨_, rfl, us5, e5, small1000 hi16, s5.mt nW, us5 ++ [x], ds5 ++ [cm], upd_same, ?_, ?_, ?_⟩
          · have x6 : Go (fun a => a = W) H5' (fun a => a = W) (upd H5' W (.lst (us5 ++ [x]))) := Go.put (u := .lst us5) rfl e5 trivial
            exact (i5.go x6).append (.cons ((hxi.go x5).go x6) .nil)
          · intro d hd
            rcases List.mem_append.mp hd with hd | hd
            · exact g5 d hd
            · obtain rfl : d = cm := by simpa using hd
              exact hgc
          · rw [List.length_append]; simp only [List.length_cons, List.length_nil]; omega
      · rintro H5 ⟨s5, us5, ds5, e5, i5, g5, l5⟩
        obtain ⟨h5, x5⟩ := h4.same s5
        refine ⟨_, rfl, c.p, _, c.pd, _, rfl, h5.own.get 0 rfl, T.c_Node, T.n_Node_waiting, (by show 18 < 1000; decide), ?_⟩
        obtain ⟨h6, x6⟩ := h4.wait s5 nW e5 ⟨ds5, i5, g5⟩ (by omega)
        have hv6 := (((hv2.go x3).go x4).go x6)
        refine ⟨_, rfl, _, rfl, c.p, _, c.pd, _, _, rfl, h6.own.get 0 rfl, T.c_Node, T.n_Node_wanted, rfl, by show 2 ≤ sizeLine; decide, fun q2 nq2 => ?_⟩
        obtain ⟨h7, x7⟩ := h6.same (Same.nw (o := .tup [.str "members", .non]) nq2)
        refine ⟨e.py, .tuple [.str "members", .none], (hv6.go x7).dp, .tup (SqT.of upd_same) (.cons (.str _) (.cons .non .nil)), shaped_good (pk_good (Ent.pk he)), shaped_good (n := 3) (by decide +kernel), _, rfl, ?_⟩
        refine t_no (Ent.ne_wanted e he) ?_
        refine ⟨_, rfl, c.p, _, c.pd, _, rfl, h7.own.get 0 rfl, T.c_Node, T.n_Node_attempt, (by show 18 < 1000; decide), ?_⟩
        obtain ⟨h8, x8⟩ := h7.att (v := .non) (.inl rfl)
        refine ⟨_, rfl, c.p, _, c.pd, _, rfl, h8.own.get 0 rfl, T.c_Node, T.n_Node_guest, (by show 18 < 1000; decide), ?_⟩
        obtain ⟨h9, x9⟩ := h8.set g'.pat false
        refine ⟨_, rfl, c.p, _, c.pd, _, _, rfl, h9.own.get 0 rfl, T.c_Node, T.n_Node_index, rfl, _, _, rfl, rfl, .inl ⟨by decide, by decide⟩, _, _, rfl, rfl, _, rfl, c.p, _, c.pd, _, rfl, h9.own.get 0 rfl, T.c_Node, T.n_Node_patience, (by show 18 < 1000; decide), ?_⟩
        obtain ⟨h10, x10⟩ := h9.set (2 + 2 * (c.ix : Nat)) false
        refine ⟨_, rfl, c.p, _, c.pd, _, rfl, h10.own.get 0 rfl, T.c_Node, T.n_Node_seen, (by show 18 < 1000; decide), ?_⟩
        obtain ⟨h11, x11⟩ := h10.set (2 + 2 * (c.ix : Nat)) false
        exact k _ us2 _ ((((((((hx3.trans x4).trans x6).trans x7).trans x8).trans x9).trans x10).trans x11)) h11
end
end Ck
/-! W17 -/
set_option maxHeartbeats 4000000
namespace Ck
open PySem PySem.Spec PyProof.Rows L2
/-! ### offers, ticks, syncs -/
def spNSync (K : PySem.W.Frag) : Sp := fun vs H Q _ => ∃ (c : Nc) (m : Nm) (g : Nx) (us : List Upd) (lr : List PyData) (n : Nat), vs = [.ref c.p] ∧ ND K H c m g us lr n ∧
  ∀ H', NG K c m g H { m with S := us.length } g H' → ND K H' c { m with S := us.length } g us lr n → Q .non H'
def spOffer (K : PySem.W.Frag) : Sp := fun vs H Q _ => ∃ (c : Nc) (m : Nm) (g : Nx) (us : List Upd) (n : Nat) (v : V) (d : PyData), vs = [.ref c.p, v] ∧ NDs K H c m g us n ∧ n ≤ 900 ∧ Im K H v d ∧ good 10 d = true ∧
  ∀ g' us' b H', NG K c m g H m g' H' → NDs K H' c m g' us' (n + 10) → (g.att = .non → g.gu = false → g.wr = [] → (linesOf (recOf us).row).any (fun z => PyData.eqv z d) = false → Asked K c g us g' us' H') → Q (.bl b) H'
def spTick (K : PySem.W.Frag) : Sp := fun vs H Q _ => ∃ (c : Nc) (m : Nm) (g : Nx) (us : List Upd) (n : Nat), vs = [.ref c.p] ∧ NDs K H c m g us n ∧ n ≤ 900 ∧
  ∀ g' us' H', NG K c m g H m g' H' → NDs K H' c m g' us' (n + 10) → Q .non H'
theorem ND.wapp {K : PySem.W.Frag} {H : Hp} {c : Nc} {m : Nm} {g : Nx} {us : List Upd} {lr : List PyData} {n : Nat} (h : ND K H c m g us lr n) {v : V} {d : PyData} (i : Im K H v d) (e : good 10 d = true) (l : g.wr.length < 16) :
    ND K (upd H g.wa (.lst (g.wr ++ [v]))) c m { g with wr := g.wr ++ [v] } us lr n ∧ NG K c m g H m { g with wr := g.wr ++ [v] } (upd H g.wa (.lst (g.wr ++ [v]))) := by
  obtain ⟨o, x⟩ := h.own.put 8 rfl trivial (.lst (g.wr ++ [v]))
  have d1 := h.d.go x
  obtain ⟨ds, h1, h2⟩ := d1.wd
  refine ⟨⟨o, ⟨d1.pays, d1.rc, d1.ln, ⟨ds ++ [d], h1.append (.cons (i.go x) .nil), fun z hz => ?_⟩, d1.ca, d1.fm, d1.at_, d1.ok, ?_, d1.ul, d1.pl, d1.ol, d1.sl, d1.cl⟩⟩, x⟩
  · rcases List.mem_append.mp hz with hz | hz
    · exact h2 z hz
    · obtain rfl : z = d := by simpa using hz
      exact e
  · rw [List.length_append]; simp only [List.length_cons, List.length_nil]; omega
section
variable {P : Program} {w : World} {K : PySem.W.Frag} {mg : Str → Option Value} {base : Heap}
theorem c_Node_sync (T : Txt K mg) : C8.Met P w K mg base 2 (CN K) "sync" (spNSync K) [] := by
  refine met T.c_Node T.m_Node_sync T.f_Node_sync (N := (["self"] : List Str)) (ps := (["self"] : List Str)) (by decide +kernel) (fun _ _ _ _ _ _ us hl => match us, hl with | [_], _ => rfl) (fun vs H Q E h => ?_) (fun cdv A outer s H vs Q E hr h => ?_)
  · obtain ⟨_, _, _, _, _, _, rfl, _⟩ := h; rfl
  · obtain ⟨c, m, g, us, lr, n, rfl, h, k⟩ := h
    refine ⟨_,
      (pss_one (ps_expr (C8.pe_mt0 (c_Journal_sync T) hr (by decide) (pe_fld (L2.pv 0) rfl))))
      , ?_⟩
    have h0 := h.own.get 0 rfl
    refine ⟨_, rfl, c.p, _, c.pd, _, _, rfl, h0, T.c_Node, T.n_Node_journal, rfl, g.j, g.jd, _, rfl, h.own.get 1 rfl, rfl, g.j, g.jd, g.jr, g.rows, m.S, rfl, h.own.nj, fun H1 x1 o1 => ?_⟩
    rw [h.rows] at x1 o1
    obtain ⟨o2, x2⟩ := Own.mid (a := [_]) (b := _ :: _ :: _ :: _ :: _ :: _ :: _ :: _ :: _ :: c.x) h.own x1 o1
    have d := h.d.go x2
    exact k H1 x2 ⟨o2, ⟨d.pays, d.rc, d.ln, d.wd, d.ca, d.fm, d.at_, d.ok, d.wl, d.ul, d.pl, d.ol, Nat.le_refl _, d.cl⟩⟩
theorem c_Node_offer (T : Txt K mg) : C8.Met P w K mg base 9 (CN K) "offer" (spOffer K) [] := by
  refine met T.c_Node T.m_Node_offer T.f_Node_offer (N := (["self", "command"] : List Str)) (ps := (["self", "command"] : List Str)) (by decide +kernel) (fun _ _ _ _ _ _ us hl => match us, hl with | [_, _], _ => rfl) (fun vs H Q E h => ?_) (fun cdv A outer s H vs Q E hr h => ?_)
  · obtain ⟨_, _, _, _, _, _, _, rfl, _⟩ := h; rfl
  · obtain ⟨c, m, g, us, n, v, d, rfl, h, hn, hv, hd, k⟩ := h
    refine ⟨_,
      (pss_cons (ps_if (PW.pt (pw_or (pt_val (C8.pe_mt (c_Diary_settled T) hr (by decide) (pe_fld (L2.pv 0) rfl) (pa_cons (L2.pv 1) pa_nil))) (pw_or (pt_cmpR (op_inD (hu65 hr)) (L2.pv 1) (pe_fld (L2.pv 0) rfl) (by rfl)) (pw_or1 (pt_cmpR op_ge (pe_callB call_len_seq (by rfl) T.b_len PySem.boot_len (pa_cons (pe_fld (L2.pv 0) rfl) pa_nil)) (C8.pe_gc rfl (gi T.v_MOST_WAITING)) (nomark _)))))) (pss_one (ps_ret pe_bl)) pss_nil)
        (pss_cons (ps_expr (pe_bm PySem.F.plainAttrs_list PySem.F.slot_list_append PySem.F.type_list_append mt_append (pe_fld (L2.pv 0) rfl) (pa_cons (L2.pv 1) pa_nil)))
        (pss_cons (ps_expr (C8.pe_mt0 (c_Node_begin_if_quiet T) hr (by decide) (L2.pv 0)))
        (pss_cons (ps_expr (C8.pe_mt0 (c_Node_end_step T) hr (by decide) (L2.pv 0)))
        (pss_one (ps_ret pe_bl))))))
      , ?_⟩
    have h0 := h.own.get 0 rfl
    have hlk := h.linesOk
    obtain ⟨wd, hwd, hwg⟩ := h.d.wd
    have hwl := h.d.wl
    have no : ¬ (g.wr = [] ∧ (linesOf (recOf us).row).any (fun z => PyData.eqv z d) = false) → Q (.bl false) H := fun z => k g us false H (Go.refl H) (h.mono (by omega)) fun _ _ e1 e2 => absurd ⟨e1, e2⟩ z
    refine ⟨_, rfl, c.p, _, c.pd, _, _, rfl, h0, T.c_Node, T.n_Node_machine, rfl, g.m, g.md, _, rfl, h.own.get 6 rfl, rfl, _, rfl, g.m, g.md, g.ml, g.ls, _, v, d, rfl, h.own.nm, h.d.ln, hv, hd, fun d hd => (hlk.2 d hd).good, _, rfl, ?_⟩
    cases ha : (linesOf (recOf us).row).any (fun z => PyData.eqv z d) with
    | true => 
      refine t_yes rfl ?_
      exact no fun z => by rw [ha] at z; exact Bool.noConfusion z.2
    | false =>
      refine t_no rfl ?_
      refine ⟨_, rfl, _, rfl, c.p, _, c.pd, _, _, rfl, h0, T.c_Node, T.n_Node_waiting, rfl, d, wd, hv.dp, dp_list (SqL.of (h.own.get 8 rfl)) hwd, shaped_good hd, shaped_list hwg (by decide), _, rfl, ?_⟩
      cases hb : wd.any (fun z => PyData.eqv z d) with
      | true =>
        refine t_yes rfl ?_
        refine no fun z => ?_
        rw [z.1] at hwd
        cases hwd
        exact Bool.noConfusion hb
      | false =>
        refine t_no rfl ?_
        refine ⟨_, rfl, c.p, _, c.pd, _, _, rfl, h0, T.c_Node, T.n_Node_waiting, rfl, g.wa, _, rfl, .inl (SqL.of (h.own.get 8 rfl)), _, _, rfl, rfl, _, rfl, ?_⟩
        by_cases hl : g.wr.length < 16
        · refine t_no (decide_eq_false (by omega)) ?_
          refine ⟨_, rfl, c.p, _, c.pd, _, _, rfl, h0, T.c_Node, T.n_Node_waiting, rfl, .inl ⟨rfl, _, SqL.of (h.own.get 8 rfl)⟩, _, rfl, g.wa, _, _, rfl, rfl, h.own.get 8 rfl, small1000 (by omega), ?_⟩
          obtain ⟨h1, x1⟩ := h.wapp hv hd hl
          refine ⟨_, rfl, c.p, c.pd, _, rfl, h1.own.get 0 rfl, rfl, c, m, _, us, _, n, rfl, h1, hn, .inl (by simp), fun g' us' H' x2 h2 e2 a2 => ?_⟩
          refine ⟨_, rfl, c.p, c.pd, _, rfl, h2.own.get 0 rfl, rfl, c, m, _, rfl, h2.own, ?_⟩
          exact k g' us' true H' (x1.trans x2) (by rw [NDs, e2]; exact h2) fun e1 e2 _ _ => a2 e1 e2
        · refine t_yes (decide_eq_true (by omega)) ?_
          exact no fun z => hl (by rw [z.1]; decide)
theorem c_Node_tick (T : Txt K mg) : C8.Met P w K mg base 8 (CN K) "tick" (spTick K) [] := by
  refine met T.c_Node T.m_Node_tick T.f_Node_tick (N := (["self"] : List Str)) (ps := (["self"] : List Str)) (by decide +kernel) (fun _ _ _ _ _ _ us hl => match us, hl with | [_], _ => rfl) (fun vs H Q E h => ?_) (fun cdv A outer s H vs Q E hr h => ?_)
  · obtain ⟨_, _, _, _, _, rfl, _⟩ := h; rfl
  · obtain ⟨c, m, g, us, n, rfl, h, hn, k⟩ := h
    refine ⟨_,
      (pss_cons (ps_fldaug (L2.pv 0) pe_int in_sub)
        (C8.pss_cut (ps_if (pt_cmpR op_eq (pe_fld (L2.pv 0) rfl) pe_int (nomark _)) (pss_cons (ps_fld (L2.pv 0) pe_bl rfl)
        (pss_one (ps_if (PW.pt (pw_or (pt_not (pt_val (C8.pe_mt0 (c_Node_has_wishes T) hr (by decide) (L2.pv 0)))) (pw_or1 (pt_not (pt_val (C8.pe_mt0 (c_Node_begin T) hr (by decide) (L2.pv 0))))))) (pss_cons (ps_fld (L2.pv 0) (C8.pe_mt0 (c_Node_long_patience T) hr (by decide) (L2.pv 0)) rfl)
        (pss_one (ps_expr (C8.pe_mt (c_Node_post_others T) hr (by decide) (L2.pv 0) (pa_cons (pe_tup (pa_cons (C8.pe_gc rfl (gs T.v_FETCH)) (pa_cons (pe_pr (c_Node_upto T) hr (by decide) (L2.pv 0)) pa_nil))) pa_nil))))) pss_nil))) pss_nil)
        (pss_one (ps_expr (C8.pe_mt0 (c_Node_end_step T) hr (by decide) (L2.pv 0))))))
      , ?_⟩
    have h0 := h.own.get 0 rfl
    refine ⟨_, rfl, c.p, _, c.pd, _, _, rfl, h0, T.c_Node, T.n_Node_patience, rfl, _, _, rfl, rfl, _, _, h0, (by show 18 < 1000; decide), ?_⟩
    obtain ⟨h1, x1⟩ := h.set (g.pat - 1) g.gu
    refine ⟨fun σ H1 => σ = [some (.ref c.p)] ∧ ∃ g' us', NG K c m g H m g' H1 ∧ NDs K H1 c m g' us' (n + 10), ?_, ?_⟩
    · refine ⟨_, rfl, c.p, _, c.pd, _, _, rfl, h1.own.get 0 rfl, T.c_Node, T.n_Node_patience, rfl, rfl, _, rfl, ?_⟩
      by_cases hp : (decide (V.int (g.pat - 1) = V.int 0)) = true
      · refine t_yes hp ?_
        refine ⟨_, rfl, c.p, _, c.pd, _, rfl, h1.own.get 0 rfl, T.c_Node, T.n_Node_guest, (by show 18 < 1000; decide), ?_⟩
        obtain ⟨h2, x2⟩ := h1.set (g.pat - 1) false
        have fin : ∀ H3, NG K c m g H m { g with pat := g.pat - 1, gu := false } H3 → NDs K H3 c m { g with pat := g.pat - 1, gu := false } us n → True := fun _ _ _ => trivial
        refine ⟨_, rfl, c.p, c.pd, _, rfl, h2.own.get 0 rfl, rfl, c, m, _, rfl, h2.own, ?_, fun b hb => ⟨_, rfl, ?_⟩⟩
        · rcases h2.acc with z | ⟨a, _, _, _, _, _, z, _⟩
          · exact .inl z
          · exact .inr ⟨a, z⟩
        cases b with
        | false =>
          refine t_yes rfl ?_
          refine ⟨_, rfl, c.p, c.pd, _, rfl, h2.own.get 0 rfl, rfl, c.p, c.pd, _, c.ix, rfl, h2.own.get 0 rfl, rfl, fun pi => ?_⟩
          refine ⟨_, rfl, c.p, _, c.pd, _, rfl, h2.own.get 0 rfl, T.c_Node, T.n_Node_patience, (by show 18 < 1000; decide), ?_⟩
          obtain ⟨h3, x3⟩ := h2.set pi false
          refine ⟨_, rfl, c.p, c.pd, _, rfl, h3.own.get 0 rfl, rfl, _, rfl, c.p, c.pd, _, rfl, h3.own.get 0 rfl, c, m, _, rfl, h3.own, by show 2 ≤ sizeLine; decide, fun q hq => ?_⟩
          obtain ⟨h4, x4⟩ := h3.same (Same.nw (o := .tup [.str "fetch", .int (g.row.length : Nat)]) hq)
          refine ⟨c, m, _, us, _, n, .ref q, rfl, h4, by omega, fun ts H5 x5 h5 => ⟨rfl, ?_⟩⟩
          have hs := c.hs
          exact ⟨_, us, ((((x1.trans x2).trans x3).trans x4).trans x5), h5.mono (by omega)⟩
        | true =>
          refine t_no rfl ?_
          refine ⟨_, rfl, c.p, c.pd, _, rfl, h2.own.get 0 rfl, rfl, c, m, _, us, _, n, rfl, h2, hn, hb rfl, fun g' us' H' x3 h3 e3 _ => ⟨_, rfl, ?_⟩⟩
          refine t_no rfl ?_
          exact ⟨rfl, g', us', (x1.trans x2).trans x3, by rw [NDs, e3]; exact h3⟩
      · refine t_no (by simpa using hp) ?_
        exact ⟨rfl, _, us, x1, h1.mono (by omega)⟩
    · rintro σ H1 ⟨rfl, g', us', x, h'⟩
      exact ⟨_, rfl, c.p, c.pd, _, rfl, h'.own.get 0 rfl, rfl, c, m, _, rfl, h'.own, k g' us' H1 x h'⟩
end
end Ck
/-! W18 -/
set_option maxHeartbeats 400000
namespace Ck
open PySem PySem.Spec PyProof.Rows L2
/-! ### what is lost, what comes back, what is told -/
theorem Go.fresh {F G : Addr → Prop} {H H' : Hp} (s : Same H H') (n : ∀ a, G a → H a = none) : Go F H G H' := ⟨fun a u e _ => s a u e, fun a f => .inr (n a f), fun a xs e => s a _ e, fun a o u e => s a _ e, fun a e => s.free e⟩
def spMake (K : PySem.W.Frag) : Sp := fun vs H Q _ => vs = [] ∧ ∀ m md ml H', (∀ a, Ft (dl K m md ml []) a → H a = none) → Same H H' → Own H' (dl K m md ml []) → Q (.ref m) H'
/-- nothing volatile -/
def Blank (g : Nx) : Prop := g.att = .non ∧ g.gu = false ∧ g.wr = [] ∧ g.os = [] ∧ g.ss = []
def spForget (K : PySem.W.Frag) : Sp := fun vs H Q _ => ∃ (c : Nc) (m : Nm) (g : Nx) (us : List Upd) (lr : List PyData) (n : Nat), vs = [.ref c.p] ∧ ND K H c m g us lr n ∧
  ∀ g' H', NG K c m g H m g' H' → ND K H' c m g' us [] n → Blank g' → Q .non H'
def spRestart (K : PySem.W.Frag) : Sp := fun vs H Q _ => ∃ (c : Nc) (m : Nm) (g : Nx) (us : List Upd) (lr : List PyData) (n : Nat), vs = [.ref c.p] ∧ ND K H c m g us lr n ∧ n ≤ 900 ∧
  ∀ g' H', NG K c m g H { m with st := "up" } g' H' → NDs K H' c { m with st := "up" } g' us n → Blank g' → Q .non H'
def spSends (K : PySem.W.Frag) : Sp := fun vs H Q _ => ∃ (c : Nc) (m : Nm) (g : Nx) (us : List Upd) (lr : List PyData) (n : Nat), vs = [.ref c.p] ∧ ND K H c m g us lr n ∧ m.S = us.length ∧
  ∀ D H', NG K c m g H m { g with ob := D, os := [] } H' → ND K H' c m { g with ob := D, os := [] } us lr n → H' g.ob = some (.lst g.os) → Q (.ref g.ob) H'
def spLetters (K : PySem.W.Frag) : Sp := fun vs H Q _ => ∃ (c : Nc) (m : Nm) (g : Nx) (us : List Upd) (lr : List PyData) (n : Nat), vs = [.ref c.p] ∧ ND K H c m g us lr n ∧ m.S = us.length ∧
  ∀ D H', NG K c m g H m { g with sp := D, ss := [] } H' → ND K H' c m { g with sp := D, ss := [] } us lr n → H' g.sp = some (.lst g.ss) → Q (.ref g.sp) H'
def spVotes (K : PySem.W.Frag) : Sp := fun vs H Q _ => ∃ (c : Nc) (m : Nm) (g : Nx) (us : List Upd) (lr : List PyData) (n : Nat), vs = [.ref c.p] ∧ ND K H c m g us lr n ∧ m.S = us.length ∧ n ≤ 950 ∧
  ∀ L ws D H', NG K c m g H { m with cb := us.length } { g with ca := D, cs := [] } H' → ND K H' c { m with cb := us.length } { g with ca := D, cs := [] } us lr n → H' L = some (.lst ws) → Ims K H' ws ((castOf m.cb us).map votePy) → Q (.ref L) H'
theorem ND.mach {K : PySem.W.Frag} {H H' : Hp} {c : Nc} {m : Nm} {g : Nx} {us : List Upd} {lr : List PyData} {n : Nat} (h : ND K H c m g us lr n) (s : Same H H') {m' md' ml' : Addr} (nw : ∀ a, Ft (dl K m' md' ml' []) a → H a = none) (o : Own H' (dl K m' md' ml' [])) :
    ND K (upd H' c.p (.ins (CN K) c.pd (nfs K c m { g with m := m', md := md', ml := ml', ls := [] }))) c m { g with m := m', md := md', ml := ml', ls := [] } us [] n ∧ NG K c m g H m { g with m := m', md := md', ml := ml', ls := [] } (upd H' c.p (.ins (CN K) c.pd (nfs K c m { g with m := m', md := md', ml := ml', ls := [] }))) := by
  obtain ⟨o1, x1⟩ := Own.mid (a := [_, _, _, _, _, _]) (b := _ :: _ :: _ :: _ :: c.x) h.own (Go.fresh (F := Ft (dl K g.m g.md g.ml g.ls)) s nw) o
  obtain ⟨o2, x2⟩ := o1.put 0 rfl trivial (.ins (CN K) c.pd (nfs K c m { g with m := m', md := md', ml := ml', ls := [] }))
  have x := x1.trans x2
  have d := h.d.go x
  exact ⟨⟨o2, ⟨d.pays, d.rc, .nil, d.wd, d.ca, d.fm, d.at_, d.ok, d.wl, d.ul, d.pl, d.ol, d.sl, d.cl⟩⟩, x⟩
theorem ND.state {K : PySem.W.Frag} {H : Hp} {c : Nc} {m : Nm} {g : Nx} {us : List Upd} {lr : List PyData} {n : Nat} (h : ND K H c m g us lr n) (st : Str) :
    ND K (upd H c.p (.ins (CN K) c.pd (nfs K c { m with st := st } g))) c { m with st := st } g us lr n ∧ NG K c m g H { m with st := st } g (upd H c.p (.ins (CN K) c.pd (nfs K c { m with st := st } g))) := by
  obtain ⟨o, x⟩ := h.own.put 0 rfl trivial (.ins (CN K) c.pd (nfs K c { m with st := st } g))
  exact ⟨⟨o, h.d.go x⟩, x⟩
theorem at_heap {f : Hp → Prop} {H H' : Hp} (e : H' = H) (q : f H') : f H := e ▸ q
theorem ND.set' {K : PySem.W.Frag} {H : Hp} {c : Nc} {m : Nm} {g : Nx} {us : List Upd} {lr : List PyData} {n : Nat} (h : ND K H c m g us lr n) (pat : Int) (gu : Bool) :
    ∃ H2 g2, g2 = ({ g with pat := pat, gu := gu } : Nx) ∧ H2 = upd H c.p (.ins (CN K) c.pd (nfs K c m { g with pat := pat, gu := gu })) ∧ ND K H2 c m g2 us lr n ∧ NG K c m g H m g2 H2 := ⟨_, _, rfl, rfl, h.set pat gu⟩
theorem ND.att' {K : PySem.W.Frag} {H : Hp} {c : Nc} {m : Nm} {g : Nx} {us : List Upd} {lr : List PyData} {n : Nat} (h : ND K H c m g us lr n) {v : V} (a : AtV K (Ft (nob K c m g)) H v) :
    ∃ H2 g2, g2 = ({ g with att := v } : Nx) ∧ H2 = upd H c.p (.ins (CN K) c.pd (nfs K c m { g with att := v })) ∧ ND K H2 c m g2 us lr n ∧ NG K c m g H m g2 H2 := ⟨_, _, rfl, rfl, h.att a⟩
theorem ND.wait' {K : PySem.W.Frag} {H H' : Hp} {c : Nc} {m : Nm} {g : Nx} {us : List Upd} {lr : List PyData} {n : Nat} (h : ND K H c m g us lr n) (s : Same H H') {D : Addr} {xs : List V} (nD : H D = none) (eD : H' D = some (.lst xs)) (w : ∃ ds, Ims K H' xs ds ∧ ∀ d ∈ ds, good 10 d = true) (w2 : xs.length ≤ 16) :
    ∃ H2 g2, g2 = ({ g with wa := D, wr := xs } : Nx) ∧ H2 = upd H' c.p (.ins (CN K) c.pd (nfs K c m { g with wa := D, wr := xs })) ∧ ND K H2 c m g2 us lr n ∧ NG K c m g H m g2 H2 := ⟨_, _, rfl, rfl, h.wait s nD eD w w2⟩
theorem ND.outb' {K : PySem.W.Frag} {H H' : Hp} {c : Nc} {m : Nm} {g : Nx} {us : List Upd} {lr : List PyData} {n : Nat} (h : ND K H c m g us lr n) (s : Same H H') {D : Addr} {xs : List V} (nD : H D = none) (eD : H' D = some (.lst xs)) (w : xs.length ≤ n) :
    ∃ H2 g2, g2 = ({ g with ob := D, os := xs } : Nx) ∧ H2 = upd H' c.p (.ins (CN K) c.pd (nfs K c m { g with ob := D, os := xs })) ∧ ND K H2 c m g2 us lr n ∧ NG K c m g H m g2 H2 := ⟨_, _, rfl, rfl, h.outb s nD eD w⟩
theorem ND.spok' {K : PySem.W.Frag} {H H' : Hp} {c : Nc} {m : Nm} {g : Nx} {us : List Upd} {lr : List PyData} {n : Nat} (h : ND K H c m g us lr n) (s : Same H H') {D : Addr} {xs : List V} (nD : H D = none) (eD : H' D = some (.lst xs)) :
    ∃ H2 g2, g2 = ({ g with sp := D, ss := xs } : Nx) ∧ H2 = upd H' c.p (.ins (CN K) c.pd (nfs K c m { g with sp := D, ss := xs })) ∧ ND K H2 c m g2 us lr n ∧ NG K c m g H m g2 H2 := ⟨_, _, rfl, rfl, h.spok s nD eD⟩
theorem ND.mach' {K : PySem.W.Frag} {H H' : Hp} {c : Nc} {m : Nm} {g : Nx} {us : List Upd} {lr : List PyData} {n : Nat} (h : ND K H c m g us lr n) (s : Same H H') {m' md' ml' : Addr} (nw : ∀ a, Ft (dl K m' md' ml' []) a → H a = none) (o : Own H' (dl K m' md' ml' [])) :
    ∃ H2 g2, g2 = ({ g with m := m', md := md', ml := ml', ls := [] } : Nx) ∧ H2 = upd H' c.p (.ins (CN K) c.pd (nfs K c m { g with m := m', md := md', ml := ml', ls := [] })) ∧ ND K H2 c m g2 us [] n ∧ NG K c m g H m g2 H2 := ⟨_, _, rfl, rfl, h.mach s nw o⟩
theorem castOf_done (us : List Upd) : castOf us.length us = [] := by unfold castOf; rw [List.drop_length]; rfl
section
variable {P : Program} {w : World} {K : PySem.W.Frag} {mg : Str → Option Value} {base : Heap}
theorem b_law_make (T : Txt K mg) : Body P w K mg base 2 (([] : List Str)) "_law_make" s_law_make (d_law_make.ad K) (spMake K) := by
  intro cdv A outer s H vs Q E hr h
  obtain ⟨rfl, k⟩ := h
  refine ⟨_,
    (pss_one (ps_ret (pe_mk0 (c_Diary_init T) hr (by decide) rfl)))
    , ?_⟩
  refine fun m md nm nmd ne => ⟨m, md, rfl, upd_same, fun ml H1 n1 x1 o1 => ⟨rfl, ?_⟩⟩
  refine k m md ml H1 (fun a f => ?_) (made_same nm nmd x1) o1
  have f : a ∈ [m, ml] := f
  rcases List.mem_cons.mp f with rfl | f
  · exact nm
  · obtain rfl : a = ml := by simpa using f
    exact fresh2 n1
theorem at_law_make (T : Txt K mg) : C8.CalAt P w K mg base 3 (d_law_make.ad K) (spMake K) :=
  calAt T.f_law_make (N := ([] : List Str)) (ps := ([] : List Str)) (by decide +kernel) (fun _ _ _ _ _ _ us hl => match us, hl with | [], _ => rfl) (fun vs H Q E h => by obtain ⟨rfl, _⟩ := h; rfl) (b_law_make T)
theorem c_law_make (T : Txt K mg) : C8.Cal P w K mg base 3 "_law_make" (spMake K) [] :=
  cal T.f_law_make T.g_law_make (N := ([] : List Str)) (ps := ([] : List Str)) (by decide +kernel) (fun _ _ _ _ _ _ us hl => match us, hl with | [], _ => rfl) (fun vs H Q E h => by obtain ⟨rfl, _⟩ := h; rfl) (b_law_make T)
theorem c_Node_forget (T : Txt K mg) : C8.Met P w K mg base 4 (CN K) "forget" (spForget K) [] := by
  refine met T.c_Node T.m_Node_forget T.f_Node_forget (N := (["self"] : List Str)) (ps := (["self"] : List Str)) (by decide +kernel) (fun _ _ _ _ _ _ us hl => match us, hl with | [_], _ => rfl) (fun vs H Q E h => ?_) (fun cdv A outer s H vs Q E hr h => ?_)
  · obtain ⟨_, _, _, _, _, _, rfl, _⟩ := h; rfl
  · obtain ⟨c, m, g, us, lr, n, rfl, h, k⟩ := h
    refine ⟨_,
      (pss_cons (ps_fld (L2.pv 0) (pe_fldCall (L2.pv 0) T.c_Node T.n_Node_make_machine (at_law_make T) hr (by decide)) rfl)
        (pss_cons (ps_fld (L2.pv 0) (pe_lst pa_nil) rfl)
        (pss_cons (ps_fld (L2.pv 0) pe_non rfl)
        (pss_cons (ps_fld (L2.pv 0) pe_non rfl)
        (pss_cons (ps_fld (L2.pv 0) (C8.pe_mt0 (c_Node_long_patience T) hr (by decide) (L2.pv 0)) rfl)
        (pss_cons (ps_fld (L2.pv 0) pe_bl rfl)
        (pss_cons (ps_fld (L2.pv 0) pe_int rfl)
        (pss_cons (ps_fld (L2.pv 0) (pe_lst pa_nil) rfl)
        (pss_one (ps_fld (L2.pv 0) (pe_lst pa_nil) rfl))))))))))
      , ?_⟩
    have h0 := h.own.get 0 rfl
    refine ⟨_, rfl, c.p, c.pd, _, rfl, h0, rfl, rfl, fun m' md' ml' Hm n1 s1 o1 => ?_⟩
    refine ⟨_, rfl, c.p, _, c.pd, _, rfl, s1 _ _ h0, T.c_Node, T.n_Node_machine, (by show 18 < 1000; decide), ?_⟩
    obtain ⟨H1, g1, q1, e1, h1, x1⟩ := h.mach' s1 n1 o1
    refine at_heap e1 ?_
    refine ⟨Nat.zero_le _, fun l1 hl1 => ?_⟩
    obtain ⟨h1', x1'⟩ := h1.same (Same.nw (o := .lst []) hl1)
    refine ⟨_, rfl, c.p, _, c.pd, _, rfl, h1'.own.get 0 rfl, T.c_Node, T.n_Node_waiting, (by show 18 < 1000; decide), ?_⟩
    obtain ⟨H2, g2, q2, e2, h2, x2⟩ := h1.wait' (Same.nw (o := .lst []) hl1) hl1 upd_same ⟨[], .nil, fun _ z => nomatch z⟩ (Nat.zero_le _)
    refine at_heap e2 ?_
    refine ⟨_, rfl, c.p, _, c.pd, _, rfl, h2.own.get 0 rfl, T.c_Node, T.n_Node_wanted, (by show 18 < 1000; decide), ?_⟩
    obtain ⟨H3, g3, q3, e3, h3, x3⟩ := h2.set' g2.pat g2.gu
    refine at_heap e3 ?_
    refine ⟨_, rfl, c.p, _, c.pd, _, rfl, h3.own.get 0 rfl, T.c_Node, T.n_Node_attempt, (by show 18 < 1000; decide), ?_⟩
    obtain ⟨H4, g4, q4, e4, h4, x4⟩ := h3.att' (v := .non) (.inl rfl)
    refine at_heap e4 ?_
    refine ⟨_, rfl, c.p, c.pd, _, rfl, h4.own.get 0 rfl, rfl, c.p, c.pd, _, c.ix, rfl, h4.own.get 0 rfl, rfl, fun pi => ?_⟩
    refine ⟨_, rfl, c.p, _, c.pd, _, rfl, h4.own.get 0 rfl, T.c_Node, T.n_Node_patience, (by show 18 < 1000; decide), ?_⟩
    obtain ⟨H5, g5, q5, e5, h5, x5⟩ := h4.set' pi g4.gu
    refine at_heap e5 ?_
    refine ⟨_, rfl, c.p, _, c.pd, _, rfl, h5.own.get 0 rfl, T.c_Node, T.n_Node_guest, (by show 18 < 1000; decide), ?_⟩
    obtain ⟨H6, g6, q6, e6, h6, x6⟩ := h5.set' g5.pat false
    refine at_heap e6 ?_
    refine ⟨_, rfl, c.p, _, c.pd, _, rfl, h6.own.get 0 rfl, T.c_Node, T.n_Node_seen, (by show 18 < 1000; decide), ?_⟩
    obtain ⟨H7, g7, q7, e7, h7, x7⟩ := h6.set' g6.pat g6.gu
    refine at_heap e7 ?_
    refine ⟨Nat.zero_le _, fun l2 hl2 => ?_⟩
    obtain ⟨h7', x7'⟩ := h7.same (Same.nw (o := .lst []) hl2)
    refine ⟨_, rfl, c.p, _, c.pd, _, rfl, h7'.own.get 0 rfl, T.c_Node, T.n_Node_outbox, (by show 18 < 1000; decide), ?_⟩
    obtain ⟨H8, g8, q8, e8, h8, x8⟩ := h7.outb' (Same.nw (o := .lst []) hl2) hl2 upd_same (Nat.zero_le _)
    refine at_heap e8 ?_
    refine ⟨Nat.zero_le _, fun l3 hl3 => ?_⟩
    obtain ⟨h8', x8'⟩ := h8.same (Same.nw (o := .lst []) hl3)
    refine ⟨_, rfl, c.p, _, c.pd, _, rfl, h8'.own.get 0 rfl, T.c_Node, T.n_Node_spoken, (by show 18 < 1000; decide), ?_⟩
    obtain ⟨H9, g9, q9, e9, h9, x9⟩ := h8.spok' (Same.nw (o := .lst []) hl3) hl3 upd_same
    refine at_heap e9 ?_
    exact k _ _ ((((((((x1.trans x2).trans x3).trans x4).trans x5).trans x6).trans x7).trans x8).trans x9) h9 ⟨by rw [q9, q8, q7, q6, q5, q4], by rw [q9, q8, q7, q6], by rw [q9, q8, q7, q6, q5, q4, q3, q2], by rw [q9, q8], by rw [q9]⟩
theorem c_Node_sends (T : Txt K mg) : C8.Met P w K mg base 4 (CN K) "sends" (spSends K) [] := by
  refine met T.c_Node T.m_Node_sends T.f_Node_sends (N := (["self", "gone"] : List Str)) (ps := (["self"] : List Str)) (by decide +kernel) (fun _ _ _ _ _ _ us hl => match us, hl with | [_], _ => rfl) (fun vs H Q E h => ?_) (fun cdv A outer s H vs Q E hr h => ?_)
  · obtain ⟨_, _, _, _, _, _, rfl, _⟩ := h; rfl
  · obtain ⟨c, m, g, us, lr, n, rfl, h, hS, k⟩ := h
    have nd : ((["self", "gone"] : List Str)).Nodup := by decide +kernel
    refine ⟨_,
      (pss_cons (ps_if (pt_val (C8.pe_mt0 (c_Node_is_silent T) hr (by decide) (L2.pv 0))) (pss_one (ps_ret (pe_lst pa_nil))) pss_nil)
        (pss_cons (ps_set (i := 1) nd rfl (by first | exact Or.inl rfl | exact Or.inr rfl) (pe_fld (L2.pv 0) rfl))
        (pss_cons (ps_fld (L2.pv 0) (pe_lst pa_nil) rfl)
        (pss_one (ps_ret (L2.pv 1))))))
      , ?_⟩
    have h0 := h.own.get 0 rfl
    refine ⟨_, rfl, c.p, c.pd, _, rfl, h0, rfl, c, m, g, rfl, h.own, _, rfl, ?_⟩
    refine t_no (decide_eq_false (by rw [h.rows, hS]; omega)) ?_
    refine ⟨_, rfl, c.p, _, c.pd, _, _, rfl, h0, T.c_Node, T.n_Node_outbox, rfl, Nat.zero_le _, fun D hD => ?_⟩
    obtain ⟨h1', x1'⟩ := h.same (Same.nw (o := .lst []) hD)
    refine ⟨_, rfl, c.p, _, c.pd, _, rfl, h1'.own.get 0 rfl, T.c_Node, T.n_Node_outbox, (by show 18 < 1000; decide), ?_⟩
    obtain ⟨h1, x1⟩ := h.outb (Same.nw (o := .lst []) hD) hD upd_same (Nat.zero_le _)
    refine ⟨_, rfl, k D _ x1 h1 ?_⟩
    have ne : g.ob ≠ c.p := h.own.ne 9 0 rfl rfl (by decide)
    rw [upd_ne ne]
    exact h1'.own.get 9 rfl
theorem c_Node_letters (T : Txt K mg) : C8.Met P w K mg base 4 (CN K) "letters" (spLetters K) [] := by
  refine met T.c_Node T.m_Node_letters T.f_Node_letters (N := (["self", "gone"] : List Str)) (ps := (["self"] : List Str)) (by decide +kernel) (fun _ _ _ _ _ _ us hl => match us, hl with | [_], _ => rfl) (fun vs H Q E h => ?_) (fun cdv A outer s H vs Q E hr h => ?_)
  · obtain ⟨_, _, _, _, _, _, rfl, _⟩ := h; rfl
  · obtain ⟨c, m, g, us, lr, n, rfl, h, hS, k⟩ := h
    have nd : ((["self", "gone"] : List Str)).Nodup := by decide +kernel
    refine ⟨_,
      (pss_cons (ps_if (pt_val (C8.pe_mt0 (c_Node_is_silent T) hr (by decide) (L2.pv 0))) (pss_one (ps_ret (pe_lst pa_nil))) pss_nil)
        (pss_cons (ps_set (i := 1) nd rfl (by first | exact Or.inl rfl | exact Or.inr rfl) (pe_fld (L2.pv 0) rfl))
        (pss_cons (ps_fld (L2.pv 0) (pe_lst pa_nil) rfl)
        (pss_one (ps_ret (L2.pv 1))))))
      , ?_⟩
    have h0 := h.own.get 0 rfl
    refine ⟨_, rfl, c.p, c.pd, _, rfl, h0, rfl, c, m, g, rfl, h.own, _, rfl, ?_⟩
    refine t_no (decide_eq_false (by rw [h.rows, hS]; omega)) ?_
    refine ⟨_, rfl, c.p, _, c.pd, _, _, rfl, h0, T.c_Node, T.n_Node_spoken, rfl, Nat.zero_le _, fun D hD => ?_⟩
    obtain ⟨h1', x1'⟩ := h.same (Same.nw (o := .lst []) hD)
    refine ⟨_, rfl, c.p, _, c.pd, _, rfl, h1'.own.get 0 rfl, T.c_Node, T.n_Node_spoken, (by show 18 < 1000; decide), ?_⟩
    obtain ⟨h1, x1⟩ := h.spok (Same.nw (o := .lst []) hD) hD upd_same
    refine ⟨_, rfl, k D _ x1 h1 ?_⟩
    have ne : g.sp ≠ c.p := h.own.ne 10 0 rfl rfl (by decide)
    rw [upd_ne ne]
    exact h1'.own.get 10 rfl
end
end Ck
/-! W19 -/
set_option maxHeartbeats 400000
namespace Ck
open PySem PySem.Spec PyProof.Rows L2
theorem pair_cells {K : PySem.W.Frag} {H : Hp} {x : V} {v : Nat × Nat × Nat × Nat × Ent} (h : Im K H x (pairPy v)) : ∃ t w, x = .ref t ∧ SqT K H t [.int (v.1 : Nat), w] ∧ Im K H w (votePy v) := by
  obtain ⟨t, xs, e, hT, hU⟩ := h.tuple
  rcases hU with _ | ⟨i0, _ | ⟨i1, _ | _⟩⟩
  rw [i0.intE] at hT
  exact ⟨t, _, e, hT, i1⟩
theorem votesFrom_len (n : Nat) (us : List Upd) : (votesFrom n us).length ≤ us.length := by
  induction us generalizing n with
  | nil => simp [votesFrom]
  | cons u us ih => cases u <;> simp only [votesFrom, List.length_cons] <;> have := ih (n + 1) <;> omega
theorem castOf_len (cb : Nat) (us : List Upd) : (castOf cb us).length ≤ us.length := by
  have := votesFrom_len cb (us.drop cb)
  rw [List.length_drop] at this
  unfold castOf
  omega
theorem castOf_lt {cb : Nat} {us : List Upd} {v : Nat × Nat × Nat × Nat × Ent} (hc : cb ≤ us.length) (h : v ∈ castOf cb us) : cb ≤ v.1 ∧ v.1 < us.length := by
  have := votesFrom_ge h
  rw [List.length_drop] at this
  omega
theorem map_at {α β : Type} {f : α → β} {l : List α} {i : Nat} {y : β} (h : (l.map f)[i]? = some y) : ∃ x, l[i]? = some x ∧ y = f x := by
  rw [List.getElem?_map] at h
  obtain ⟨x, h1, rfl⟩ := Option.map_eq_some_iff.mp h
  exact ⟨x, h1, rfl⟩
theorem take_one {α : Type} {l : List α} {i : Nat} {x : α} (h : l[i]? = some x) : l.take (i + 1) = l.take i ++ [x] := by rw [List.take_succ, h]; rfl
section
variable {P : Program} {w : World} {K : PySem.W.Frag} {mg : Str → Option Value} {base : Heap}
theorem c_Node_new_votes (T : Txt K mg) : C8.Met P w K mg base 3 (CN K) "new_votes" (spVotes K) [] := by
  refine met T.c_Node T.m_Node_new_votes T.f_Node_new_votes (N := (["self", "count", "votes", "place", "vote", "pair"] : List Str)) (ps := (["self"] : List Str)) (by decide +kernel) (fun _ _ _ _ _ _ us hl => match us, hl with | [_], _ => rfl) (fun vs H Q E h => ?_) (fun cdv A outer s H vs Q E hr h => ?_)
  · obtain ⟨_, _, _, _, _, _, rfl, _⟩ := h; rfl
  · obtain ⟨c, m, g, us, lr, n, rfl, h, hS, hn, k⟩ := h
    have nd : ((["self", "count", "votes", "place", "vote", "pair"] : List Str)).Nodup := by decide +kernel
    refine ⟨_,
      (pss_cons (ps_set (i := 1) nd rfl (by first | exact Or.inl rfl | exact Or.inr rfl) (pe_pr (c_Journal_synced_frames T) hr (by decide) (pe_fld (L2.pv 0) rfl)))
        (pss_cons (ps_setLc (i := 2) rfl nd rfl rfl (sw_true rfl rfl rfl (by decide +kernel)) (pi_list (pe_fld (L2.pv 0) rfl)) (blkOk_by (own := [("place", 3), ("vote", 4)]) (N := ["self", "count", "votes", "place", "vote", "pair"]) (sc := defScope s_Node_new_votes) (by decide +kernel)) (fun _ _ _ _ _ => pg_tupK (K := K) (n := 2) rfl (by rfl) (pgs_cons (pg_name (i := 3) nd rfl (by first | exact Or.inl rfl | exact Or.inr rfl)) (pgs_cons (pg_name (i := 4) nd rfl (by first | exact Or.inl rfl | exact Or.inr rfl)) pgs_nil))) (fun _ _ _ _ _ => (pts_one (pt_cmpR op_lt (L2.pv 3) (L2.pv 1) (nomark _)))) (fun _ _ _ _ _ => (L2.pv 4)))
        (pss_cons (ps_fld (L2.pv 0) (pe_lc (by rfl) nd (pi_list (pe_fld (L2.pv 0) rfl)) (blkOk_by (own := [("pair", 5)]) (N := ["self", "count", "votes", "place", "vote", "pair"]) (sc := defScope s_Node_new_votes) (by decide +kernel)) (fun _ _ _ _ _ => pg_name (i := 5) nd rfl (by first | exact Or.inl rfl | exact Or.inr rfl)) (fun _ _ _ _ _ => (pts_one (pt_cmpR op_ge (pe_ix (ix_tupK (K := K) rfl) (L2.pv 5) pe_int (fun _ _ => rfl)) (L2.pv 1) (nomark _)))) (fun _ _ _ _ _ => (L2.pv 5))) rfl)
        (pss_one (ps_ret (L2.pv 2))))))
      , ?_⟩
    have h0 := h.own.get 0 rfl
    have h11 := h.own.get 11 rfl
    have hca := h.d.ca
    have hcl := hca.length
    rw [List.length_map] at hcl
    have hlen := castOf_len m.cb us
    have hul := h.d.ul
    refine ⟨_, rfl, c.p, _, c.pd, _, _, rfl, h0, T.c_Node, T.n_Node_journal, rfl, g.j, g.jd, _, rfl, h.own.get 1 rfl, g.j, g.jd, g.jr, g.rows, m.S, rfl, h.own.nj, ?_⟩
    refine ⟨_, rfl, c.p, _, c.pd, _, _, rfl, h0, T.c_Node, T.n_Node_cast, rfl, g.ca, rfl, ⟨_, SqL.of h11⟩, fun D hD => ?_⟩
    refine lc_it (walk_list (xs := g.cs)) (fun i H' => Same H H' ∧ ∃ ws, H' D = some (.lst ws) ∧ Ims K H' ws (((castOf m.cb us).take i).map votePy)) ⟨Same.nw hD, [], upd_same, .nil⟩ (fun i H' _ p => p.1.seq (SqL.of h11)) ?_ ?_
    · rintro i x H1 H1' hi ⟨s1, ws, e1, i1⟩ ⟨rfl, hx⟩
      obtain ⟨d, hd, hxi⟩ := hca.of hx
      obtain ⟨vt, hvt, rfl⟩ := map_at hd
      obtain ⟨t, w, rfl, hT, hw⟩ := pair_cells hxi
      have hlt := castOf_lt h.d.cl (List.mem_of_getElem? hvt)
      obtain ⟨h1, x1⟩ := h.same s1
      refine ⟨t, _, rfl, sqT_go x1 hT, rfl, _, _, rfl, _, _, rfl, rfl, rfl, _, rfl, _, rfl, _, _, rfl, rfl, ?_⟩
      refine ⟨_, rfl, t_yes (decide_eq_true (by omega)) ?_⟩
      refine ⟨_, rfl, ws, e1, small1000 ?_, s1.mt hD, ws ++ [w], upd_same, ?_⟩
      · have := i1.length
        rw [List.length_map, List.length_take] at this
        omega
      · rw [take_one hvt, List.map_append]
        have x2 : Go (fun a => a = D) H1' (fun a => a = D) (upd H1' D (.lst (ws ++ [w]))) := Go.put (u := .lst ws) rfl e1 trivial
        exact (i1.go x2).append (.cons ((hw.go x1).go x2) .nil)
    · rintro H1 ⟨s1, ws, e1, i1⟩
      rw [hcl, List.take_length] at i1
      obtain ⟨h1, x1⟩ := h.same s1
      have g0 := h1.own.get 0 rfl
      have g11 := h1.own.get 11 rfl
      refine ⟨_, rfl, c.p, _, c.pd, _, _, rfl, g0, T.c_Node, T.n_Node_cast, rfl, g.ca, rfl, ⟨_, SqL.of g11⟩, fun D2 hD2 => ?_⟩
      refine lc_it (walk_list (xs := g.cs)) (fun i H' => Same H1 H' ∧ H' D2 = some (.lst [])) ⟨Same.nw hD2, upd_same⟩ (fun i H' _ p => p.1.seq (SqL.of g11)) ?_ ?_
      · rintro i x H2 H2' hi ⟨s2, e2⟩ ⟨rfl, hx⟩
        obtain ⟨d, hd, hxi⟩ := hca.of hx
        obtain ⟨vt, hvt, rfl⟩ := map_at hd
        obtain ⟨t, w, rfl, hT, hw⟩ := pair_cells hxi
        have hlt := castOf_lt h.d.cl (List.mem_of_getElem? hvt)
        refine ⟨rfl, _, rfl, t, _, _, _, rfl, rfl, sqT_go (F := No) (Go.same (s1.trans s2)) hT, at_of (j := 0) rfl rfl, _, rfl, _, _, rfl, rfl, ?_⟩
        refine ⟨_, rfl, t_no (decide_eq_false (by omega)) ?_⟩
        exact ⟨s2, e2⟩
      · rintro H2 ⟨s2, e2⟩
        obtain ⟨h2, x2⟩ := h1.same s2
        refine ⟨_, rfl, c.p, _, c.pd, _, rfl, h2.own.get 0 rfl, T.c_Node, T.n_Node_cast, (by show 18 < 1000; decide), ?_⟩
        obtain ⟨h3, x3⟩ := h1.cast s2 hD2 e2 (cb := us.length) (by rw [castOf_done]; exact .nil) (Nat.le_refl _)
        refine ⟨_, rfl, k D ws D2 _ (x1.trans x3) h3 ?_ (i1.go x3)⟩
        have nDp : D ≠ c.p := (ne_of_none h0 hD).symm
        rw [upd_ne nDp]
        exact s2 _ _ e1
end
end Ck
/-! W20 -/
set_option maxHeartbeats 400000
namespace Ck
open PySem PySem.Spec PyProof.Rows L2
theorem kept_le (ps : List (List Int)) (c : Nat) : kept ps c ≤ ps.length := by
  induction ps generalizing c with
  | nil => simp [kept]
  | cons p r ih =>
    rw [kept]
    split
    · have := ih (c - (6 + p.length)); simp only [List.length_cons]; omega
    · exact Nat.zero_le _
theorem flat_le (ps : List (List Int)) (h : ∀ p ∈ ps, p.length ≤ 4000) : (ps.flatMap frm).length ≤ 4006 * ps.length := by
  induction ps with
  | nil => simp
  | cons p r ih =>
    rw [List.flatMap_cons, List.length_append, frm_length, List.length_cons]
    have := ih fun q hq => h q (List.mem_cons_of_mem _ hq)
    have := h p List.mem_cons_self
    omega
theorem votesFrom_take (n k : Nat) (us : List Upd) : (votesFrom n us).filter (fun v => decide (v.1 < n + k)) = votesFrom n (us.take k) := by
  induction us generalizing n k with
  | nil => simp [votesFrom]
  | cons u us ih =>
    cases k with
    | zero =>
      rw [List.take_zero, votesFrom, List.filter_eq_nil_iff]
      intro v hv
      have := votesFrom_ge hv
      simp only [decide_eq_true_eq]
      omega
    | succ k =>
      have e := ih (n + 1) k
      rw [show n + 1 + k = n + (k + 1) by omega] at e
      cases u with
      | acc s r i e' => rw [List.take_succ_cons, votesFrom, votesFrom, List.filter_cons, if_pos (by simp), e]
      | pro s r i => rw [List.take_succ_cons, votesFrom, votesFrom, e]
      | cho s e' => rw [List.take_succ_cons, votesFrom, votesFrom, e]
theorem castOf_take {cb k : Nat} {us : List Upd} (h : cb ≤ k) : (castOf cb us).filter (fun v => decide (v.1 < k)) = castOf cb (us.take k) := by
  unfold castOf
  have e := votesFrom_take cb (k - cb) (us.drop cb)
  rw [show cb + (k - cb) = k by omega] at e
  rw [e, List.drop_take]
def spCrash (K : PySem.W.Frag) : Sp := fun vs H Q _ => ∃ (c : Nc) (m : Nm) (g : Nx) (us : List Upd) (lr : List PyData) (n x k : Nat), vs = [.ref c.p, .int (x : Nat)] ∧ ND K H c m g us lr n ∧ n ≤ 900 ∧ m.cb ≤ m.S ∧ k = m.S + kept ((us.map Upd.pack).drop m.S) x ∧
  ∀ g' H', NG K c m g H ⟨k, m.cb, "down"⟩ g' H' → ND K H' c ⟨k, m.cb, "down"⟩ g' (us.take k) [] n → Q .non H'
section
variable {P : Program} {w : World} {K : PySem.W.Frag} {mg : Str → Option Value} {base : Heap}
theorem c_Node_restart (T : Txt K mg) : C8.Met P w K mg base 5 (CN K) "restart" (spRestart K) [] := by
  refine met T.c_Node T.m_Node_restart T.f_Node_restart (N := (["self", "entry", "command"] : List Str)) (ps := (["self"] : List Str)) (by decide +kernel) (fun _ _ _ _ _ _ us hl => match us, hl with | [_], _ => rfl) (fun vs H Q E h => ?_) (fun cdv A outer s H vs Q E hr h => ?_)
  · obtain ⟨_, _, _, _, _, _, rfl, _⟩ := h; rfl
  · obtain ⟨c, m, g, us, lr, n, rfl, h, hn, k⟩ := h
    have nd : ((["self", "entry", "command"] : List Str)).Nodup := by decide +kernel
    refine ⟨_,
      (pss_cons (ps_expr (C8.pe_mt0 (c_Node_forget T) hr (by decide) (L2.pv 0)))
        (pss_cons (ps_for PassesOwn.never rfl (pi_list (pe_fld (pe_fld (L2.pv 0) rfl) rfl)) (pg_name (i := 1) nd rfl (by first | exact Or.inl rfl | exact Or.inr rfl)) (pss_one (ps_for PassesOwn.never rfl (pi_list (C8.pe_c (c_commands_of T) hr (by decide) rfl (pa_cons (L2.pv 1) pa_nil))) (pg_name (i := 2) nd rfl (by first | exact Or.inl rfl | exact Or.inr rfl)) (pss_one (ps_expr (C8.pe_mt (c_Diary_apply T) hr (by decide) (pe_fld (L2.pv 0) rfl) (pa_cons (L2.pv 2) pa_nil)))))))
        (pss_one (ps_fld (L2.pv 0) (C8.pe_gc rfl (gs T.v_UP)) rfl))))
      , ?_⟩
    have h0 := h.own.get 0 rfl
    refine ⟨_, rfl, c.p, c.pd, _, rfl, h0, rfl, c, m, g, us, lr, n, rfl, h, fun g1 H1 x1 h1 b1 => ?_⟩
    have hR := recOf_ok h.d.ok
    have hrow := h1.d.rc.row
    have hrl := hrow.length
    rw [List.length_map] at hrl
    have hrle := h1.rl
    have hul := h1.d.ul
    refine ⟨_, rfl, c.p, _, c.pd, _, _, rfl, h1.own.get 0 rfl, T.c_Node, T.n_Node_record, rfl, g1.r, _, g1.rd, _, _, rfl, h1.own.get 3 rfl, T.c_Record, T.n_Record_row, rfl, g1.rr, rfl, ⟨_, SqL.of (h1.own.get 4 rfl)⟩, for_it (walk_list (xs := g1.row)) (fun i σ H' => ∃ g' v1 v2, σ = [some (.ref c.p), v1, v2] ∧ NG K c m g1 H1 m g' H' ∧ ND K H' c m g' us (linesOf ((recOf us).row.take i)) n ∧ Blank g' ∧ g'.rr = g1.rr ∧ g'.row = g1.row)
      ⟨g1, none, none, rfl, Go.refl H1, h1, b1, rfl, rfl⟩ (fun i σ H' _ z => ?_) ?_ ?_⟩
    · obtain ⟨g', _, _, _, _, h', _, e1, e2⟩ := z
      have := h'.own.get 4 rfl
      rw [e1, e2] at this
      exact SqL.of this
    · rintro i x σ H2 H2' hi ⟨g', v1, v2, rfl, x2, h2, b2, e1, e2⟩ ⟨rfl, hx⟩
      obtain ⟨d, hd, hxi⟩ := hrow.of hx
      obtain ⟨e, he, rfl⟩ := map_at hd
      have heo := hR e (List.mem_of_getElem? he)
      obtain ⟨hcl, hcok⟩ := Ent.cmds_ok heo
      refine ⟨_, rfl, x, e, rfl, hxi.go x2, fun D ws H3 nD s3 hD hW => ?_⟩
      obtain ⟨h3, x3⟩ := h2.same s3
      have hwl := hW.length
      refine ⟨D, rfl, ⟨_, SqL.of hD⟩, for_it (walk_list (xs := ws)) (fun j σ H' => ∃ g'' v1 v2, σ = [some (.ref c.p), v1, v2] ∧ NG K c m g' H3 m g'' H' ∧ ND K H' c m g'' us ((e.cmds.take j).foldl addLine (linesOf ((recOf us).row.take i))) n ∧ Blank g'' ∧ g''.rr = g1.rr ∧ g''.row = g1.row ∧ Fz (Ft (nob K c m g'')) H' D (.lst ws))
        ⟨g', _, _, rfl, Go.refl H3, h3, b2, e1, e2, hD, h2.own.no nD⟩ (fun j σ H' _ z => ?_) ?_ ?_⟩
      · obtain ⟨_, _, _, _, _, _, _, _, _, z⟩ := z
        exact SqL.of z.1
      · rintro j y σ H4 H4' hj ⟨g4, w1, w2, rfl, x4, h4, b4, f1, f2, z4⟩ ⟨rfl, hy⟩
        obtain ⟨cm, hcm, hyi⟩ := hW.of hy
        have hcmo := hcok cm (List.mem_of_getElem? hcm)
        have hlk := lines_ok (row := (recOf us).row.take i) fun e he => hR e (List.mem_of_mem_take he)
        refine ⟨_, rfl, c.p, _, c.pd, _, _, rfl, h4.own.get 0 rfl, T.c_Node, T.n_Node_machine, rfl, g4.m, g4.md, _, rfl, h4.own.get 6 rfl, rfl, _, rfl, g4.m, g4.md, g4.ml, g4.ls, _, y, cm, rfl, h4.own.nm, h4.d.ln, hyi.go x4, hcmo.good, ?_, ?_, fun p ls' H5 x5 o5 i5 => ?_⟩
        · exact fun d hd => (fold_all hlk.2 (fun c hc => hcok c (List.mem_of_mem_take hc)) d hd).good
        · have t1 := fold_len (e.cmds.take j) (linesOf ((recOf us).row.take i))
          rw [List.length_take] at t1
          have t2 := hlk.1
          rw [List.length_take] at t2
          omega
        · obtain ⟨h5, x5'⟩ := h4.lin x5 o5 i5
          refine ⟨_, _, _, rfl, x4.trans x5', ?_, b4, f1, f2, z4.go x5'⟩
          rw [take_one hcm, List.foldl_append]
          exact h5
      · rintro σ H4 ⟨g4, w1, w2, rfl, x4, h4, b4, f1, f2, z4⟩
        rw [hwl, List.take_length, ← linesOf_snoc, ← take_one he] at h4
        exact ⟨g4, _, _, rfl, (x2.trans x3).trans x4, h4, b4, f1, f2⟩
    · rintro σ H2 ⟨g', v1, v2, rfl, x2, h2, b2, _, _⟩
      rw [hrl, List.take_length] at h2
      refine ⟨_, rfl, c.p, _, c.pd, _, rfl, h2.own.get 0 rfl, T.c_Node, T.n_Node_state, (by show 18 < 1000; decide), ?_⟩
      obtain ⟨h3, x3⟩ := h2.state "up"
      exact k g' _ ((x1.trans x2).trans x3) h3 b2
end
end Ck
/-! W21 -/
set_option maxHeartbeats 400000
namespace Ck
open PySem PySem.Spec PyProof.Rows L2
section
variable {P : Program} {w : World} {K : PySem.W.Frag} {mg : Str → Option Value} {base : Heap}
theorem c_Node_crash (T : Txt K mg) : C8.Met P w K mg base 7 (CN K) "crash" (spCrash K) [] := by
  refine met T.c_Node T.m_Node_crash T.f_Node_crash (N := (["self", "count", "pair"] : List Str)) (ps := (["self", "count"] : List Str)) (by decide +kernel) (fun _ _ _ _ _ _ us hl => match us, hl with | [_, _], _ => rfl) (fun vs H Q E h => ?_) (fun cdv A outer s H vs Q E hr h => ?_)
  · obtain ⟨_, _, _, _, _, _, _, _, rfl, _⟩ := h; rfl
  · obtain ⟨c, m, g, us, lr, n, x, k, rfl, h, hn, hcS, hk, kk⟩ := h
    have nd : ((["self", "count", "pair"] : List Str)).Nodup := by decide +kernel
    refine ⟨_,
      (pss_cons (ps_expr (C8.pe_mt (c_Journal_crash T) hr (by decide) (pe_fld (L2.pv 0) rfl) (pa_cons (L2.pv 1) pa_nil)))
        (pss_cons (ps_fld (L2.pv 0) (pe_lc (by rfl) nd (pi_list (pe_fld (L2.pv 0) rfl)) (blkOk_by (own := [("pair", 2)]) (N := ["self", "count", "pair"]) (sc := defScope s_Node_crash) (by decide +kernel)) (fun _ _ _ _ _ => pg_name (i := 2) nd rfl (by first | exact Or.inl rfl | exact Or.inr rfl)) (fun _ _ _ _ _ => (pts_one (pt_cmpR op_lt (pe_ix (ix_tupK (K := K) rfl) (L2.pv 2) pe_int (fun _ _ => rfl)) (pe_pr (c_Journal_frame_count T) hr (by decide) (pe_fldK (K := K) rfl (L2.pv 0) rfl)) (nomark _)))) (fun _ _ _ _ _ => (L2.pv 2))) rfl)
        (pss_cons (ps_fld (L2.pv 0) (C8.pe_c (c_record_of T) hr (by decide) rfl (pa_cons (C8.pe_mt0 (c_Journal_payloads T) hr (by decide) (pe_fld (L2.pv 0) rfl)) pa_nil)) rfl)
        (pss_cons (ps_expr (C8.pe_mt0 (c_Node_forget T) hr (by decide) (L2.pv 0)))
        (pss_one (ps_fld (L2.pv 0) (C8.pe_gc rfl (gs T.v_DOWN)) rfl))))))
      , ?_⟩
    have h0 := h.own.get 0 rfl
    have hul := h.d.ul
    have hsl := h.d.sl
    have hlen : ∀ p ∈ us.map Upd.pack, p.length ≤ 4000 := fun p hp => by
      obtain ⟨u, hu, rfl⟩ := List.mem_map.mp hp
      exact (Upd.size (h.d.ok u hu)).1
    have hfl := flat_le _ hlen
    rw [List.length_map] at hfl
    have hkl := kept_le ((us.map Upd.pack).drop m.S) x
    rw [List.length_drop, List.length_map] at hkl
    have hku : k ≤ us.length := by omega
    have hul' : (us.take k).length = k := by rw [List.length_take]; omega
    -- self.journal.crash(count)
    refine ⟨_, rfl, c.p, _, c.pd, _, _, rfl, h0, T.c_Node, T.n_Node_journal, rfl, g.j, g.jd, _, rfl, h.own.get 1 rfl, rfl, _, rfl, g.j, g.jd, g.jr, g.rows, m.S, x, _, us.map Upd.pack, rfl, h.own.nj, h.d.pays, (fun p hp => by have := hlen p hp; omega), by rw [List.length_map]; omega, by omega, by rw [List.length_map]; exact hsl, fun jr' news H1 njr x1 o1 p1 => ?_⟩
    obtain ⟨o2, x2⟩ := Own.mid (a := [_]) (b := _ :: _ :: _ :: _ :: _ :: _ :: _ :: _ :: _ :: c.x) h.own x1 o1
    have hnl : news.length = kept ((us.map Upd.pack).drop m.S) x := by
      rw [p1.length, List.length_take, List.length_drop, List.length_map]; omega
    rw [show m.S + news.length = k by omega] at o2 x2
    have o2 : Own H1 (nob K c { m with S := k } { g with jr := jr', rows := g.rows.take m.S ++ news }) := o2
    have x2 : NG K c m g H { m with S := k } { g with jr := jr', rows := g.rows.take m.S ++ news } H1 := x2
    have d := h.d.go x2
    have pys : Pays (Ft (nob K c { m with S := k } { g with jr := jr', rows := g.rows.take m.S ++ news })) H1 (g.rows.take m.S ++ news) ((us.take k).map Upd.pack) := by
      have e : (us.take k).map Upd.pack = (us.map Upd.pack).take m.S ++ ((us.map Upd.pack).drop m.S).take (kept ((us.map Upd.pack).drop m.S) x) := by
        rw [← List.take_add, hk, List.map_take]
      rw [e]
      refine (d.pays.take m.S).append (p1.less fun a f => ?_)
      have f : a ∈ c.p :: g.j :: jr' :: g.r :: g.rr :: g.ac :: g.m :: g.ml :: g.wa :: g.ob :: g.sp :: g.ca :: c.x.map (·.1) := f
      simp only [List.mem_cons] at f
      rcases f with rfl | rfl | rfl | rfl | rfl | rfl | rfl | rfl | rfl | rfl | rfl | rfl | f
      · exact .inl ⟨_, h.own.get 0 rfl⟩
      · exact .inl ⟨_, h.own.get 1 rfl⟩
      · exact .inr rfl
      · exact .inl ⟨_, h.own.get 3 rfl⟩
      · exact .inl ⟨_, h.own.get 4 rfl⟩
      · exact .inl ⟨_, h.own.get 5 rfl⟩
      · exact .inl ⟨_, h.own.get 6 rfl⟩
      · exact .inl ⟨_, h.own.get 7 rfl⟩
      · exact .inl ⟨_, h.own.get 8 rfl⟩
      · exact .inl ⟨_, h.own.get 9 rfl⟩
      · exact .inl ⟨_, h.own.get 10 rfl⟩
      · exact .inl ⟨_, h.own.get 11 rfl⟩
      · refine .inl (h.own.ft ?_)
        show a ∈ c.p :: g.j :: g.jr :: g.r :: g.rr :: g.ac :: g.m :: g.ml :: g.wa :: g.ob :: g.sp :: g.ca :: c.x.map (·.1)
        simp only [List.mem_cons]
        exact .inr (.inr (.inr (.inr (.inr (.inr (.inr (.inr (.inr (.inr (.inr (.inr f)))))))))))
    generalize g.rows.take m.S ++ news = rows1 at o2 x2 d pys ⊢
    have hr1 : rows1.length = k := by have := pys.length; rw [List.length_map] at this; omega
    -- self.cast = [pair for pair in self.cast if pair[0] < self.journal.frame_count]
    have hca := d.ca
    have hcl := hca.length
    rw [List.length_map] at hcl
    have hclen := castOf_len m.cb us
    have g0 := o2.get 0 rfl
    have g11 := o2.get 11 rfl
    refine ⟨_, rfl, c.p, _, c.pd, _, _, rfl, g0, T.c_Node, T.n_Node_cast, rfl, g.ca, rfl, ⟨_, SqL.of g11⟩, fun D hD => ?_⟩
    refine lc_it (walk_list (xs := g.cs)) (fun i H' => Same H1 H' ∧ ∃ ws, H' D = some (.lst ws) ∧ ws.length ≤ i ∧ Ims K H' ws ((((castOf m.cb us).take i).filter fun v => decide (v.1 < k)).map pairPy)) ⟨Same.nw hD, [], upd_same, Nat.le_refl _, .nil⟩ (fun i H' _ p => p.1.seq (SqL.of g11)) ?_ ?_
    · rintro i y H2 H2' hi ⟨s2, ws, e2, l2, i2⟩ ⟨rfl, hy⟩
      obtain ⟨d', hd', hyi⟩ := hca.of hy
      obtain ⟨vt, hvt, rfl⟩ := map_at hd'
      obtain ⟨t, w', rfl, hT, hw⟩ := pair_cells hyi
      obtain ⟨o3, x3⟩ := o2.same s2
      refine ⟨rfl, _, rfl, t, _, _, _, rfl, rfl, sqT_go x3 hT, at_of (j := 0) rfl rfl, _, rfl, c.p, _, c.pd, _, _, rfl, o3.get 0 rfl, T.c_Node, T.n_Node_journal, rfl, g.j, g.jd, _, rfl, o3.get 1 rfl, g.j, g.jd, jr', rows1, k, rfl, o3.nj, _, _, rfl, rfl, ?_⟩
      by_cases hlt : vt.1 < k
      · refine ⟨_, rfl, t_yes (decide_eq_true (by omega)) ?_⟩
        refine ⟨_, rfl, ws, e2, small1000 (by omega), s2.mt hD, ws ++ [.ref t], upd_same, by rw [List.length_append]; simp only [List.length_cons, List.length_nil]; omega, ?_⟩
        rw [take_one hvt, List.filter_append, List.map_append]
        have x4 : Go (fun a => a = D) H2' (fun a => a = D) (upd H2' D (.lst (ws ++ [.ref t]))) := Go.put (u := .lst ws) rfl e2 trivial
        have e5 : [vt].filter (fun v => decide (v.1 < k)) = [vt] := by rw [List.filter_cons, if_pos (by simpa using hlt)]; rfl
        rw [e5]
        exact (i2.go x4).append (.cons ((hyi.go x3).go x4) .nil)
      · refine ⟨_, rfl, t_no (decide_eq_false (by omega)) ?_⟩
        refine ⟨s2, ws, e2, by omega, ?_⟩
        have e5 : [vt].filter (fun v => decide (v.1 < k)) = [] := by rw [List.filter_cons, if_neg (by simpa using hlt)]; rfl
        rw [take_one hvt, List.filter_append, e5, List.append_nil]
        exact i2
    · rintro H2 ⟨s2, ws, e2, l2, i2⟩
      rw [hcl, List.take_length, castOf_take (by omega)] at i2
      obtain ⟨o3, x3⟩ := o2.new 11 s2 hD e2
      refine ⟨_, rfl, c.p, _, c.pd, _, rfl, o3.get 0 rfl, T.c_Node, T.n_Node_cast, (by show 18 < 1000; decide), ?_⟩
      obtain ⟨o4, x4⟩ := o3.put 0 rfl trivial (.ins (CN K) c.pd (nfs K c { m with S := k } { g with jr := jr', rows := rows1, ca := D, cs := ws }))
      have o4 : Own (upd H2 c.p (.ins (CN K) c.pd (nfs K c { m with S := k } { g with jr := jr', rows := rows1, ca := D, cs := ws }))) (nob K c { m with S := k } { g with jr := jr', rows := rows1, ca := D, cs := ws }) := o4
      have x24 : NG K c m g H { m with S := k } { g with jr := jr', rows := rows1, ca := D, cs := ws } (upd H2 c.p (.ins (CN K) c.pd (nfs K c { m with S := k } { g with jr := jr', rows := rows1, ca := D, cs := ws }))) := (x2.trans x3).trans x4
      have pys4 : Pays (Ft (nob K c { m with S := k } { g with jr := jr', rows := rows1, ca := D, cs := ws })) (upd H2 c.p (.ins (CN K) c.pd (nfs K c { m with S := k } { g with jr := jr', rows := rows1, ca := D, cs := ws }))) rows1 ((us.take k).map Upd.pack) := pys.go (x3.trans x4)
      have i4 := i2.go x4
      have d4 := h.d.go x24
      refine at_heap (H' := upd H2 c.p (.ins (CN K) c.pd (nfs K c { m with S := k } { g with jr := jr', rows := rows1, ca := D, cs := ws }))) rfl ?_
      generalize upd H2 c.p (.ins (CN K) c.pd (nfs K c { m with S := k } { g with jr := jr', rows := rows1, ca := D, cs := ws })) = H4 at o4 x24 pys4 i4 d4 ⊢
      -- self.record = record_of(self.journal.payloads())
      refine ⟨_, rfl, c.p, _, c.pd, _, _, rfl, o4.get 0 rfl, T.c_Node, T.n_Node_journal, rfl, g.j, g.jd, _, rfl, o4.get 1 rfl, rfl, g.j, g.jd, jr', rows1, k, _, _, rfl, o4.nj, pys4, by rw [List.length_map]; omega, fun D2 us2 H5 nD2 s5 hD2 p5 => ?_⟩
      refine ⟨D2, us2, _, us.take k, rfl, SqL.of hD2, p5, (fun u hu => h.d.ok u (List.mem_of_mem_take hu)), by omega, fun b bd br row bc bcd pv av H6 fr s6 o6 d6 => ?_⟩
      obtain ⟨o5, x5⟩ := o4.same (s5.trans s6)
      refine ⟨_, rfl, c.p, _, c.pd, _, rfl, o5.get 0 rfl, T.c_Node, T.n_Node_record, (by show 18 < 1000; decide), ?_⟩
      obtain ⟨o7, x7⟩ := Own.mid (a := [_, _, _]) (b := _ :: _ :: _ :: _ :: _ :: _ :: c.x) o4 (Go.fresh (F := Ft (rl K g.r g.rd g.rr g.row g.ac g.ad g.pv g.av)) (s5.trans s6) (fun a f => s5.free (fr a f))) o6
      obtain ⟨o8, x8⟩ := o7.put 0 rfl trivial (.ins (CN K) c.pd (nfs K c { m with S := k } { g with jr := jr', rows := rows1, ca := D, cs := ws, r := b, rd := bd, rr := br, row := row, ac := bc, ad := bcd, pv := pv, av := av }))
      have x78 := x7.trans x8
      have x := x24.trans x78
      have dd := d4.go x78
      have h8 : ND K (upd H6 c.p (.ins (CN K) c.pd (nfs K c { m with S := k } { g with jr := jr', rows := rows1, ca := D, cs := ws, r := b, rd := bd, rr := br, row := row, ac := bc, ad := bcd, pv := pv, av := av }))) c { m with S := k } { g with jr := jr', rows := rows1, ca := D, cs := ws, r := b, rd := bd, rr := br, row := row, ac := bc, ad := bcd, pv := pv, av := av } (us.take k) lr n :=
        ⟨o8, ⟨pys4.go x78, d6.go x8, dd.ln, dd.wd, i4.go x78, dd.fm, dd.at_, fun u hu => h.d.ok u (List.mem_of_mem_take hu), dd.wl, by omega, fun j => by rw [List.take_take]; exact dd.pl _, dd.ol, by show k ≤ _; omega, by show m.cb ≤ _; omega⟩⟩
      have x9 : NG K c m g H { m with S := k } { g with jr := jr', rows := rows1, ca := D, cs := ws, r := b, rd := bd, rr := br, row := row, ac := bc, ad := bcd, pv := pv, av := av } (upd H6 c.p (.ins (CN K) c.pd (nfs K c { m with S := k } { g with jr := jr', rows := rows1, ca := D, cs := ws, r := b, rd := bd, rr := br, row := row, ac := bc, ad := bcd, pv := pv, av := av }))) := x
      refine ⟨_, rfl, c.p, c.pd, _, rfl, h8.own.get 0 rfl, rfl, c, _, _, us.take k, lr, n, rfl, h8, fun g' H9 x10 h9 b9 => ?_⟩
      refine ⟨_, rfl, c.p, _, c.pd, _, rfl, h9.own.get 0 rfl, T.c_Node, T.n_Node_state, (by show 18 < 1000; decide), ?_⟩
      obtain ⟨h10, x11⟩ := h9.state "down"
      exact kk g' _ ((x9.trans x10).trans x11) h10
end
end Ck
/-! W22 -/
set_option maxHeartbeats 400000
namespace Ck
open PySem PySem.Spec PyProof.Rows L2
theorem Own.add {H H' : Hp} {l k : Ob} (h : Own H l) (s : Same H H') (n : ∀ a, Ft k a → H a = none) (o : Own H' k) : Own H' (l ++ k) := by
  refine ⟨fun q hq => ?_, ?_⟩
  · rcases List.mem_append.mp hq with hq | hq
    · exact s _ _ (h.at_ q hq)
    · exact o.at_ q hq
  · rw [List.map_append, List.nodup_append]
    refine ⟨h.nd, o.nd, fun a ha b hb e => ?_⟩
    subst e
    obtain ⟨u, hu⟩ := h.ft ha
    rw [n _ hb] at hu
    cases hu
theorem Own.add_go {H H' : Hp} {l k : Ob} (s : Same H H') (n : ∀ a, Ft k a → H a = none) : Go (Ft l) H (Ft (l ++ k)) H' := ⟨fun a u e _ => s a u e, fun a f => by
    have f : a ∈ (l ++ k).map (·.1) := f
    rw [List.map_append] at f
    exact (List.mem_append.mp f).imp id (n a), fun a xs e => s a _ e, fun a o u e => s a _ e, fun a e => s.free e⟩
theorem Own.put' {H : Hp} {l : Ob} (h : Own H l) (i : Nat) {a : Addr} {u : HO} (e : l[i]? = some (a, u)) (m : Writ u) (o : HO) : ∃ H2, H2 = upd H a o ∧ Own H2 (l.set i (a, o)) ∧ Go (Ft l) H (Ft (l.set i (a, o))) H2 := ⟨_, rfl, h.put i e m o⟩
theorem Own.one {H : Hp} {p : Addr} {o : HO} (h : H p = some o) : Own H [(p, o)] := ⟨fun q hq => by
    obtain rfl : q = _ := by simpa using hq
    exact h, by simp⟩
def spNInit (K : PySem.W.Frag) : Sp := fun vs H Q _ => ∃ (p pd : Addr) (ix sz : Nat) (fm : V) (hs : sz ≤ 5) (hi : ix < sz), vs = [.ref p, .int (ix : Nat), .int (sz : Nat), fm, .ref (d_law_make.ad K), .bl true] ∧ H p = some (.ins (CN K) pd []) ∧ MemV K H fm ∧
  ∀ g H', Go (fun a => a = p) H (fun a => a = p) H' → (∀ a, Ft (nob K ⟨p, pd, ix, sz, fm, [], hs, hi⟩ ⟨0, 0, "up"⟩ g) a → a = p ∨ H a = none) → ND K H' ⟨p, pd, ix, sz, fm, [], hs, hi⟩ ⟨0, 0, "up"⟩ g [] [] 0 → Blank g → Q .non H'
section
variable {P : Program} {w : World} {K : PySem.W.Frag} {mg : Str → Option Value} {base : Heap}
theorem c_Node_init (T : Txt K mg) : C8.Mak P w K mg base 7 "Node" (CN K) (spNInit K) [] := by
  refine mak T.k_Node T.g_Node T.f_Node_init (N := (["self", "index", "size", "first_members", "make_machine", "lazy"] : List Str)) (ps := (["self", "index", "size", "first_members", "make_machine", "lazy"] : List Str)) (by decide +kernel) (fun _ _ _ _ _ _ us hl => match us, hl with | [_, _, _, _, _, _], _ => rfl) (fun vs H Q E h => ?_) (fun cdv A outer s H vs Q E hr h => ?_)
  · obtain ⟨_, _, _, _, _, _, _, rfl, _⟩ := h; rfl
  · obtain ⟨p, pd, ix, sz, fm, hs, hi, rfl, h0, hfm, k⟩ := h
    have nd : ((["self", "index", "size", "first_members", "make_machine", "lazy"] : List Str)).Nodup := by decide +kernel
    refine ⟨_,
      (pss_cons (ps_fld (L2.pv 0) (L2.pv 1) rfl)
        (pss_cons (ps_fld (L2.pv 0) (L2.pv 2) rfl)
        (pss_cons (ps_fld (L2.pv 0) (L2.pv 3) rfl)
        (pss_cons (ps_fld (L2.pv 0) (L2.pv 4) rfl)
        (pss_cons (ps_fld (L2.pv 0) (L2.pv 5) rfl)
        (pss_cons (ps_fld (L2.pv 0) (C8.pe_gc rfl (gs T.v_UP)) rfl)
        (pss_cons (ps_fld (L2.pv 0) (pe_mk0 (c_Journal_init T) hr (by decide) rfl) rfl)
        (pss_cons (ps_fld (L2.pv 0) (pe_mk0 (c_Record_init T) hr (by decide) rfl) rfl)
        (pss_cons (ps_fld (L2.pv 0) (pe_locCall (i := 4) (at_law_make T) hr (by decide) rfl (by first | exact Or.inl rfl | exact Or.inr rfl)) rfl)
        (pss_cons (ps_fld (L2.pv 0) (pe_lst pa_nil) rfl)
        (pss_cons (ps_fld (L2.pv 0) pe_non rfl)
        (pss_cons (ps_fld (L2.pv 0) pe_non rfl)
        (pss_cons (ps_fld (L2.pv 0) (C8.pe_mt0 (c_Node_long_patience T) hr (by decide) (L2.pv 0)) rfl)
        (pss_cons (ps_fld (L2.pv 0) pe_bl rfl)
        (pss_cons (ps_fld (L2.pv 0) pe_int rfl)
        (pss_cons (ps_fld (L2.pv 0) (pe_lst pa_nil) rfl)
        (pss_cons (ps_fld (L2.pv 0) (pe_lst pa_nil) rfl)
        (pss_one (ps_fld (L2.pv 0) (pe_lst pa_nil) rfl)))))))))))))))))))
      , ?_⟩
    have o0 : Own H [(p, .ins (CN K) pd [])] := Own.one h0
    have x0 : Go (Ft [(p, HO.ins (CN K) pd [])]) H (Ft [(p, HO.ins (CN K) pd [])]) H := Go.refl H
    refine ⟨_, rfl, _, rfl, p, _, pd, _, rfl, o0.get 0 rfl, T.c_Node, T.n_Node_index, (by show 0 < 1000; decide), ?_⟩
    obtain ⟨H1, e1, o1, x1⟩ := o0.put' 0 rfl trivial (.ins (CN K) pd [("index", .int (ix : Nat))])
    refine at_heap e1 ?_
    have b1 : Own H1 [(p, .ins (CN K) pd [("index", .int (ix : Nat))])] := o1
    have z1 : Go (Ft [(p, HO.ins (CN K) pd [])]) H (Ft ([(p, .ins (CN K) pd [("index", .int (ix : Nat))])] : Ob)) H1 := x0.trans x1
    refine ⟨_, rfl, _, rfl, p, _, pd, _, rfl, b1.get 0 rfl, T.c_Node, T.n_Node_size, (by show 1 < 1000; decide), ?_⟩
    obtain ⟨H2, e2, o2, x2⟩ := b1.put' 0 rfl trivial (.ins (CN K) pd [("index", .int (ix : Nat)), ("size", .int (sz : Nat))])
    refine at_heap e2 ?_
    have b2 : Own H2 [(p, .ins (CN K) pd [("index", .int (ix : Nat)), ("size", .int (sz : Nat))])] := o2
    have z2 : Go (Ft [(p, HO.ins (CN K) pd [])]) H (Ft ([(p, .ins (CN K) pd [("index", .int (ix : Nat)), ("size", .int (sz : Nat))])] : Ob)) H2 := z1.trans x2
    refine ⟨_, rfl, _, rfl, p, _, pd, _, rfl, b2.get 0 rfl, T.c_Node, T.n_Node_first_members, (by show 2 < 1000; decide), ?_⟩
    obtain ⟨H3, e3, o3, x3⟩ := b2.put' 0 rfl trivial (.ins (CN K) pd [("index", .int (ix : Nat)), ("size", .int (sz : Nat)), ("first_members", fm)])
    refine at_heap e3 ?_
    have b3 : Own H3 [(p, .ins (CN K) pd [("index", .int (ix : Nat)), ("size", .int (sz : Nat)), ("first_members", fm)])] := o3
    have z3 : Go (Ft [(p, HO.ins (CN K) pd [])]) H (Ft ([(p, .ins (CN K) pd [("index", .int (ix : Nat)), ("size", .int (sz : Nat)), ("first_members", fm)])] : Ob)) H3 := z2.trans x3
    refine ⟨_, rfl, _, rfl, p, _, pd, _, rfl, b3.get 0 rfl, T.c_Node, T.n_Node_make_machine, (by show 3 < 1000; decide), ?_⟩
    obtain ⟨H4, e4, o4, x4⟩ := b3.put' 0 rfl trivial (.ins (CN K) pd [("index", .int (ix : Nat)), ("size", .int (sz : Nat)), ("first_members", fm), ("make_machine", .ref (d_law_make.ad K))])
    refine at_heap e4 ?_
    have b4 : Own H4 [(p, .ins (CN K) pd [("index", .int (ix : Nat)), ("size", .int (sz : Nat)), ("first_members", fm), ("make_machine", .ref (d_law_make.ad K))])] := o4
    have z4 : Go (Ft [(p, HO.ins (CN K) pd [])]) H (Ft ([(p, .ins (CN K) pd [("index", .int (ix : Nat)), ("size", .int (sz : Nat)), ("first_members", fm), ("make_machine", .ref (d_law_make.ad K))])] : Ob)) H4 := z3.trans x4
    refine ⟨_, rfl, _, rfl, p, _, pd, _, rfl, b4.get 0 rfl, T.c_Node, T.n_Node_lazy, (by show 4 < 1000; decide), ?_⟩
    obtain ⟨H5, e5, o5, x5⟩ := b4.put' 0 rfl trivial (.ins (CN K) pd [("index", .int (ix : Nat)), ("size", .int (sz : Nat)), ("first_members", fm), ("make_machine", .ref (d_law_make.ad K)), ("lazy", .bl true)])
    refine at_heap e5 ?_
    have b5 : Own H5 [(p, .ins (CN K) pd [("index", .int (ix : Nat)), ("size", .int (sz : Nat)), ("first_members", fm), ("make_machine", .ref (d_law_make.ad K)), ("lazy", .bl true)])] := o5
    have z5 : Go (Ft [(p, HO.ins (CN K) pd [])]) H (Ft ([(p, .ins (CN K) pd [("index", .int (ix : Nat)), ("size", .int (sz : Nat)), ("first_members", fm), ("make_machine", .ref (d_law_make.ad K)), ("lazy", .bl true)])] : Ob)) H5 := z4.trans x5
    refine ⟨_, rfl, p, _, pd, _, rfl, b5.get 0 rfl, T.c_Node, T.n_Node_state, (by show 5 < 1000; decide), ?_⟩
    obtain ⟨H6, e6, o6, x6⟩ := b5.put' 0 rfl trivial (.ins (CN K) pd [("index", .int (ix : Nat)), ("size", .int (sz : Nat)), ("first_members", fm), ("make_machine", .ref (d_law_make.ad K)), ("lazy", .bl true), ("state", .str "up")])
    refine at_heap e6 ?_
    have b6 : Own H6 [(p, .ins (CN K) pd [("index", .int (ix : Nat)), ("size", .int (sz : Nat)), ("first_members", fm), ("make_machine", .ref (d_law_make.ad K)), ("lazy", .bl true), ("state", .str "up")])] := o6
    have z6 : Go (Ft [(p, HO.ins (CN K) pd [])]) H (Ft ([(p, .ins (CN K) pd [("index", .int (ix : Nat)), ("size", .int (sz : Nat)), ("first_members", fm), ("make_machine", .ref (d_law_make.ad K)), ("lazy", .bl true), ("state", .str "up")])] : Ob)) H6 := z5.trans x6
    refine fun j jd nj njd ne => ⟨j, jd, rfl, upd_same, fun jr Hj njr xj oj => ⟨rfl, ?_⟩⟩
    have sj := made_same nj njd xj
    have fj : ∀ a, Ft (jl K j jd jr [] 0) a → H6 a = none := fun a f => by
      have f : a ∈ [j, jr] := f
      simp only [List.mem_cons, List.not_mem_nil, or_false] at f
      rcases f with rfl | rfl
      · exact nj
      · exact fresh2 njr
    have a7 : Own Hj [(p, .ins (CN K) pd [("index", .int (ix : Nat)), ("size", .int (sz : Nat)), ("first_members", fm), ("make_machine", .ref (d_law_make.ad K)), ("lazy", .bl true), ("state", .str "up")]), (j, .ins (CJ K) jd [("rows", .ref jr), ("safe", .int (0 : Nat))]), (jr, .lst [])] := b6.add sj fj oj
    have w7 : Go No _ No _ := Go.same sj
    have y7 := z6.trans (Own.add_go sj fj)
    refine ⟨_, rfl, p, _, pd, _, rfl, a7.get 0 rfl, T.c_Node, T.n_Node_journal, (by show 6 < 1000; decide), ?_⟩
    obtain ⟨H8, e8, o8, x8⟩ := a7.put' 0 rfl trivial (.ins (CN K) pd [("index", .int (ix : Nat)), ("size", .int (sz : Nat)), ("first_members", fm), ("make_machine", .ref (d_law_make.ad K)), ("lazy", .bl true), ("state", .str "up"), ("journal", .ref j)])
    refine at_heap e8 ?_
    have b8 : Own H8 [(p, .ins (CN K) pd [("index", .int (ix : Nat)), ("size", .int (sz : Nat)), ("first_members", fm), ("make_machine", .ref (d_law_make.ad K)), ("lazy", .bl true), ("state", .str "up"), ("journal", .ref j)]), (j, .ins (CJ K) jd [("rows", .ref jr), ("safe", .int (0 : Nat))]), (jr, .lst [])] := o8
    have z8 : Go (Ft [(p, HO.ins (CN K) pd [])]) H (Ft ([(p, .ins (CN K) pd [("index", .int (ix : Nat)), ("size", .int (sz : Nat)), ("first_members", fm), ("make_machine", .ref (d_law_make.ad K)), ("lazy", .bl true), ("state", .str "up"), ("journal", .ref j)]), (j, .ins (CJ K) jd [("rows", .ref jr), ("safe", .int (0 : Nat))]), (jr, .lst [])] : Ob)) H8 := y7.trans x8
    refine fun r rd nr nrd ne => ⟨r, rd, rfl, upd_same, fun rr ac ad pv av Hr nrr nac xr orr dr => ⟨rfl, ?_⟩⟩
    have sr := made_same nr nrd xr
    have fr : ∀ a, Ft (rl K r rd rr [] ac ad pv av) a → H8 a = none := fun a f => by
      have f : a ∈ [r, rr, ac] := f
      simp only [List.mem_cons, List.not_mem_nil, or_false] at f
      rcases f with rfl | rfl | rfl
      · exact nr
      · exact fresh2 nrr
      · exact fresh2 nac
    have a9 : Own Hr [(p, .ins (CN K) pd [("index", .int (ix : Nat)), ("size", .int (sz : Nat)), ("first_members", fm), ("make_machine", .ref (d_law_make.ad K)), ("lazy", .bl true), ("state", .str "up"), ("journal", .ref j)]), (j, .ins (CJ K) jd [("rows", .ref jr), ("safe", .int (0 : Nat))]), (jr, .lst []), (r, .ins (CRc K) rd [("row", .ref rr), ("acceptor", .ref ac)]), (rr, .lst []), (ac, .ins (CA K) ad [("promised", pv), ("accepted", av)])] := b8.add sr fr orr
    have w9 : Go No _ No _ := Go.same sr
    have y9 := z8.trans (Own.add_go sr fr)
    refine ⟨_, rfl, p, _, pd, _, rfl, a9.get 0 rfl, T.c_Node, T.n_Node_record, (by show 7 < 1000; decide), ?_⟩
    obtain ⟨H10, e10, o10, x10⟩ := a9.put' 0 rfl trivial (.ins (CN K) pd [("index", .int (ix : Nat)), ("size", .int (sz : Nat)), ("first_members", fm), ("make_machine", .ref (d_law_make.ad K)), ("lazy", .bl true), ("state", .str "up"), ("journal", .ref j), ("record", .ref r)])
    refine at_heap e10 ?_
    have b10 : Own H10 [(p, .ins (CN K) pd [("index", .int (ix : Nat)), ("size", .int (sz : Nat)), ("first_members", fm), ("make_machine", .ref (d_law_make.ad K)), ("lazy", .bl true), ("state", .str "up"), ("journal", .ref j), ("record", .ref r)]), (j, .ins (CJ K) jd [("rows", .ref jr), ("safe", .int (0 : Nat))]), (jr, .lst []), (r, .ins (CRc K) rd [("row", .ref rr), ("acceptor", .ref ac)]), (rr, .lst []), (ac, .ins (CA K) ad [("promised", pv), ("accepted", av)])] := o10
    have z10 : Go (Ft [(p, HO.ins (CN K) pd [])]) H (Ft ([(p, .ins (CN K) pd [("index", .int (ix : Nat)), ("size", .int (sz : Nat)), ("first_members", fm), ("make_machine", .ref (d_law_make.ad K)), ("lazy", .bl true), ("state", .str "up"), ("journal", .ref j), ("record", .ref r)]), (j, .ins (CJ K) jd [("rows", .ref jr), ("safe", .int (0 : Nat))]), (jr, .lst []), (r, .ins (CRc K) rd [("row", .ref rr), ("acceptor", .ref ac)]), (rr, .lst []), (ac, .ins (CA K) ad [("promised", pv), ("accepted", av)])] : Ob)) H10 := y9.trans x10
    have d10 := dr.go x10
    refine ⟨rfl, rfl, fun m md ml Hm fm' sm om => ?_⟩
    have a11 : Own Hm [(p, .ins (CN K) pd [("index", .int (ix : Nat)), ("size", .int (sz : Nat)), ("first_members", fm), ("make_machine", .ref (d_law_make.ad K)), ("lazy", .bl true), ("state", .str "up"), ("journal", .ref j), ("record", .ref r)]), (j, .ins (CJ K) jd [("rows", .ref jr), ("safe", .int (0 : Nat))]), (jr, .lst []), (r, .ins (CRc K) rd [("row", .ref rr), ("acceptor", .ref ac)]), (rr, .lst []), (ac, .ins (CA K) ad [("promised", pv), ("accepted", av)]), (m, .ins (CD K) md [("lines", .ref ml)]), (ml, .lst [])] := b10.add sm fm' om
    have w11 : Go No _ No _ := Go.same sm
    have y11 := z10.trans (Own.add_go sm fm')
    refine ⟨_, rfl, p, _, pd, _, rfl, a11.get 0 rfl, T.c_Node, T.n_Node_machine, (by show 8 < 1000; decide), ?_⟩
    obtain ⟨H12, e12, o12, x12⟩ := a11.put' 0 rfl trivial (.ins (CN K) pd [("index", .int (ix : Nat)), ("size", .int (sz : Nat)), ("first_members", fm), ("make_machine", .ref (d_law_make.ad K)), ("lazy", .bl true), ("state", .str "up"), ("journal", .ref j), ("record", .ref r), ("machine", .ref m)])
    refine at_heap e12 ?_
    have b12 : Own H12 [(p, .ins (CN K) pd [("index", .int (ix : Nat)), ("size", .int (sz : Nat)), ("first_members", fm), ("make_machine", .ref (d_law_make.ad K)), ("lazy", .bl true), ("state", .str "up"), ("journal", .ref j), ("record", .ref r), ("machine", .ref m)]), (j, .ins (CJ K) jd [("rows", .ref jr), ("safe", .int (0 : Nat))]), (jr, .lst []), (r, .ins (CRc K) rd [("row", .ref rr), ("acceptor", .ref ac)]), (rr, .lst []), (ac, .ins (CA K) ad [("promised", pv), ("accepted", av)]), (m, .ins (CD K) md [("lines", .ref ml)]), (ml, .lst [])] := o12
    have z12 : Go (Ft [(p, HO.ins (CN K) pd [])]) H (Ft ([(p, .ins (CN K) pd [("index", .int (ix : Nat)), ("size", .int (sz : Nat)), ("first_members", fm), ("make_machine", .ref (d_law_make.ad K)), ("lazy", .bl true), ("state", .str "up"), ("journal", .ref j), ("record", .ref r), ("machine", .ref m)]), (j, .ins (CJ K) jd [("rows", .ref jr), ("safe", .int (0 : Nat))]), (jr, .lst []), (r, .ins (CRc K) rd [("row", .ref rr), ("acceptor", .ref ac)]), (rr, .lst []), (ac, .ins (CA K) ad [("promised", pv), ("accepted", av)]), (m, .ins (CD K) md [("lines", .ref ml)]), (ml, .lst [])] : Ob)) H12 := y11.trans x12
    refine ⟨Nat.zero_le _, fun wa nwa => ?_⟩
    have swa : Same H12 (upd H12 wa (.lst [])) := Same.nw nwa
    have owa : Own (upd H12 wa (.lst [])) [(wa, .lst [])] := Own.one upd_same
    have fwa : ∀ a, Ft [(wa, .lst [])] a → H12 a = none := fun a f => by
      obtain rfl : a = wa := by simpa [Ft] using f
      exact nwa
    have a13 : Own (upd H12 wa (.lst [])) [(p, .ins (CN K) pd [("index", .int (ix : Nat)), ("size", .int (sz : Nat)), ("first_members", fm), ("make_machine", .ref (d_law_make.ad K)), ("lazy", .bl true), ("state", .str "up"), ("journal", .ref j), ("record", .ref r), ("machine", .ref m)]), (j, .ins (CJ K) jd [("rows", .ref jr), ("safe", .int (0 : Nat))]), (jr, .lst []), (r, .ins (CRc K) rd [("row", .ref rr), ("acceptor", .ref ac)]), (rr, .lst []), (ac, .ins (CA K) ad [("promised", pv), ("accepted", av)]), (m, .ins (CD K) md [("lines", .ref ml)]), (ml, .lst []), (wa, .lst [])] := b12.add swa fwa owa
    have w13 : Go No _ No _ := Go.same swa
    have y13 := z12.trans (Own.add_go swa fwa)
    refine ⟨_, rfl, p, _, pd, _, rfl, a13.get 0 rfl, T.c_Node, T.n_Node_waiting, (by show 9 < 1000; decide), ?_⟩
    obtain ⟨H14, e14, o14, x14⟩ := a13.put' 0 rfl trivial (.ins (CN K) pd [("index", .int (ix : Nat)), ("size", .int (sz : Nat)), ("first_members", fm), ("make_machine", .ref (d_law_make.ad K)), ("lazy", .bl true), ("state", .str "up"), ("journal", .ref j), ("record", .ref r), ("machine", .ref m), ("waiting", .ref wa)])
    refine at_heap e14 ?_
    have b14 : Own H14 [(p, .ins (CN K) pd [("index", .int (ix : Nat)), ("size", .int (sz : Nat)), ("first_members", fm), ("make_machine", .ref (d_law_make.ad K)), ("lazy", .bl true), ("state", .str "up"), ("journal", .ref j), ("record", .ref r), ("machine", .ref m), ("waiting", .ref wa)]), (j, .ins (CJ K) jd [("rows", .ref jr), ("safe", .int (0 : Nat))]), (jr, .lst []), (r, .ins (CRc K) rd [("row", .ref rr), ("acceptor", .ref ac)]), (rr, .lst []), (ac, .ins (CA K) ad [("promised", pv), ("accepted", av)]), (m, .ins (CD K) md [("lines", .ref ml)]), (ml, .lst []), (wa, .lst [])] := o14
    have z14 : Go (Ft [(p, HO.ins (CN K) pd [])]) H (Ft ([(p, .ins (CN K) pd [("index", .int (ix : Nat)), ("size", .int (sz : Nat)), ("first_members", fm), ("make_machine", .ref (d_law_make.ad K)), ("lazy", .bl true), ("state", .str "up"), ("journal", .ref j), ("record", .ref r), ("machine", .ref m), ("waiting", .ref wa)]), (j, .ins (CJ K) jd [("rows", .ref jr), ("safe", .int (0 : Nat))]), (jr, .lst []), (r, .ins (CRc K) rd [("row", .ref rr), ("acceptor", .ref ac)]), (rr, .lst []), (ac, .ins (CA K) ad [("promised", pv), ("accepted", av)]), (m, .ins (CD K) md [("lines", .ref ml)]), (ml, .lst []), (wa, .lst [])] : Ob)) H14 := y13.trans x14
    refine ⟨_, rfl, p, _, pd, _, rfl, b14.get 0 rfl, T.c_Node, T.n_Node_wanted, (by show 10 < 1000; decide), ?_⟩
    obtain ⟨H15, e15, o15, x15⟩ := b14.put' 0 rfl trivial (.ins (CN K) pd [("index", .int (ix : Nat)), ("size", .int (sz : Nat)), ("first_members", fm), ("make_machine", .ref (d_law_make.ad K)), ("lazy", .bl true), ("state", .str "up"), ("journal", .ref j), ("record", .ref r), ("machine", .ref m), ("waiting", .ref wa), ("wanted", .non)])
    refine at_heap e15 ?_
    have b15 : Own H15 [(p, .ins (CN K) pd [("index", .int (ix : Nat)), ("size", .int (sz : Nat)), ("first_members", fm), ("make_machine", .ref (d_law_make.ad K)), ("lazy", .bl true), ("state", .str "up"), ("journal", .ref j), ("record", .ref r), ("machine", .ref m), ("waiting", .ref wa), ("wanted", .non)]), (j, .ins (CJ K) jd [("rows", .ref jr), ("safe", .int (0 : Nat))]), (jr, .lst []), (r, .ins (CRc K) rd [("row", .ref rr), ("acceptor", .ref ac)]), (rr, .lst []), (ac, .ins (CA K) ad [("promised", pv), ("accepted", av)]), (m, .ins (CD K) md [("lines", .ref ml)]), (ml, .lst []), (wa, .lst [])] := o15
    have z15 : Go (Ft [(p, HO.ins (CN K) pd [])]) H (Ft ([(p, .ins (CN K) pd [("index", .int (ix : Nat)), ("size", .int (sz : Nat)), ("first_members", fm), ("make_machine", .ref (d_law_make.ad K)), ("lazy", .bl true), ("state", .str "up"), ("journal", .ref j), ("record", .ref r), ("machine", .ref m), ("waiting", .ref wa), ("wanted", .non)]), (j, .ins (CJ K) jd [("rows", .ref jr), ("safe", .int (0 : Nat))]), (jr, .lst []), (r, .ins (CRc K) rd [("row", .ref rr), ("acceptor", .ref ac)]), (rr, .lst []), (ac, .ins (CA K) ad [("promised", pv), ("accepted", av)]), (m, .ins (CD K) md [("lines", .ref ml)]), (ml, .lst []), (wa, .lst [])] : Ob)) H15 := z14.trans x15
    refine ⟨_, rfl, p, _, pd, _, rfl, b15.get 0 rfl, T.c_Node, T.n_Node_attempt, (by show 11 < 1000; decide), ?_⟩
    obtain ⟨H16, e16, o16, x16⟩ := b15.put' 0 rfl trivial (.ins (CN K) pd [("index", .int (ix : Nat)), ("size", .int (sz : Nat)), ("first_members", fm), ("make_machine", .ref (d_law_make.ad K)), ("lazy", .bl true), ("state", .str "up"), ("journal", .ref j), ("record", .ref r), ("machine", .ref m), ("waiting", .ref wa), ("wanted", .non), ("attempt", .non)])
    refine at_heap e16 ?_
    have b16 : Own H16 [(p, .ins (CN K) pd [("index", .int (ix : Nat)), ("size", .int (sz : Nat)), ("first_members", fm), ("make_machine", .ref (d_law_make.ad K)), ("lazy", .bl true), ("state", .str "up"), ("journal", .ref j), ("record", .ref r), ("machine", .ref m), ("waiting", .ref wa), ("wanted", .non), ("attempt", .non)]), (j, .ins (CJ K) jd [("rows", .ref jr), ("safe", .int (0 : Nat))]), (jr, .lst []), (r, .ins (CRc K) rd [("row", .ref rr), ("acceptor", .ref ac)]), (rr, .lst []), (ac, .ins (CA K) ad [("promised", pv), ("accepted", av)]), (m, .ins (CD K) md [("lines", .ref ml)]), (ml, .lst []), (wa, .lst [])] := o16
    have z16 : Go (Ft [(p, HO.ins (CN K) pd [])]) H (Ft ([(p, .ins (CN K) pd [("index", .int (ix : Nat)), ("size", .int (sz : Nat)), ("first_members", fm), ("make_machine", .ref (d_law_make.ad K)), ("lazy", .bl true), ("state", .str "up"), ("journal", .ref j), ("record", .ref r), ("machine", .ref m), ("waiting", .ref wa), ("wanted", .non), ("attempt", .non)]), (j, .ins (CJ K) jd [("rows", .ref jr), ("safe", .int (0 : Nat))]), (jr, .lst []), (r, .ins (CRc K) rd [("row", .ref rr), ("acceptor", .ref ac)]), (rr, .lst []), (ac, .ins (CA K) ad [("promised", pv), ("accepted", av)]), (m, .ins (CD K) md [("lines", .ref ml)]), (ml, .lst []), (wa, .lst [])] : Ob)) H16 := z15.trans x16
    refine ⟨_, rfl, p, pd, _, rfl, b16.get 0 rfl, rfl, p, pd, _, ix, rfl, b16.get 0 rfl, rfl, fun pi => ?_⟩
    refine ⟨_, rfl, p, _, pd, _, rfl, b16.get 0 rfl, T.c_Node, T.n_Node_patience, (by show 12 < 1000; decide), ?_⟩
    obtain ⟨H17, e17, o17, x17⟩ := b16.put' 0 rfl trivial (.ins (CN K) pd [("index", .int (ix : Nat)), ("size", .int (sz : Nat)), ("first_members", fm), ("make_machine", .ref (d_law_make.ad K)), ("lazy", .bl true), ("state", .str "up"), ("journal", .ref j), ("record", .ref r), ("machine", .ref m), ("waiting", .ref wa), ("wanted", .non), ("attempt", .non), ("patience", .int pi)])
    refine at_heap e17 ?_
    have b17 : Own H17 [(p, .ins (CN K) pd [("index", .int (ix : Nat)), ("size", .int (sz : Nat)), ("first_members", fm), ("make_machine", .ref (d_law_make.ad K)), ("lazy", .bl true), ("state", .str "up"), ("journal", .ref j), ("record", .ref r), ("machine", .ref m), ("waiting", .ref wa), ("wanted", .non), ("attempt", .non), ("patience", .int pi)]), (j, .ins (CJ K) jd [("rows", .ref jr), ("safe", .int (0 : Nat))]), (jr, .lst []), (r, .ins (CRc K) rd [("row", .ref rr), ("acceptor", .ref ac)]), (rr, .lst []), (ac, .ins (CA K) ad [("promised", pv), ("accepted", av)]), (m, .ins (CD K) md [("lines", .ref ml)]), (ml, .lst []), (wa, .lst [])] := o17
    have z17 : Go (Ft [(p, HO.ins (CN K) pd [])]) H (Ft ([(p, .ins (CN K) pd [("index", .int (ix : Nat)), ("size", .int (sz : Nat)), ("first_members", fm), ("make_machine", .ref (d_law_make.ad K)), ("lazy", .bl true), ("state", .str "up"), ("journal", .ref j), ("record", .ref r), ("machine", .ref m), ("waiting", .ref wa), ("wanted", .non), ("attempt", .non), ("patience", .int pi)]), (j, .ins (CJ K) jd [("rows", .ref jr), ("safe", .int (0 : Nat))]), (jr, .lst []), (r, .ins (CRc K) rd [("row", .ref rr), ("acceptor", .ref ac)]), (rr, .lst []), (ac, .ins (CA K) ad [("promised", pv), ("accepted", av)]), (m, .ins (CD K) md [("lines", .ref ml)]), (ml, .lst []), (wa, .lst [])] : Ob)) H17 := z16.trans x17
    refine ⟨_, rfl, p, _, pd, _, rfl, b17.get 0 rfl, T.c_Node, T.n_Node_guest, (by show 13 < 1000; decide), ?_⟩
    obtain ⟨H18, e18, o18, x18⟩ := b17.put' 0 rfl trivial (.ins (CN K) pd [("index", .int (ix : Nat)), ("size", .int (sz : Nat)), ("first_members", fm), ("make_machine", .ref (d_law_make.ad K)), ("lazy", .bl true), ("state", .str "up"), ("journal", .ref j), ("record", .ref r), ("machine", .ref m), ("waiting", .ref wa), ("wanted", .non), ("attempt", .non), ("patience", .int pi), ("guest", .bl false)])
    refine at_heap e18 ?_
    have b18 : Own H18 [(p, .ins (CN K) pd [("index", .int (ix : Nat)), ("size", .int (sz : Nat)), ("first_members", fm), ("make_machine", .ref (d_law_make.ad K)), ("lazy", .bl true), ("state", .str "up"), ("journal", .ref j), ("record", .ref r), ("machine", .ref m), ("waiting", .ref wa), ("wanted", .non), ("attempt", .non), ("patience", .int pi), ("guest", .bl false)]), (j, .ins (CJ K) jd [("rows", .ref jr), ("safe", .int (0 : Nat))]), (jr, .lst []), (r, .ins (CRc K) rd [("row", .ref rr), ("acceptor", .ref ac)]), (rr, .lst []), (ac, .ins (CA K) ad [("promised", pv), ("accepted", av)]), (m, .ins (CD K) md [("lines", .ref ml)]), (ml, .lst []), (wa, .lst [])] := o18
    have z18 : Go (Ft [(p, HO.ins (CN K) pd [])]) H (Ft ([(p, .ins (CN K) pd [("index", .int (ix : Nat)), ("size", .int (sz : Nat)), ("first_members", fm), ("make_machine", .ref (d_law_make.ad K)), ("lazy", .bl true), ("state", .str "up"), ("journal", .ref j), ("record", .ref r), ("machine", .ref m), ("waiting", .ref wa), ("wanted", .non), ("attempt", .non), ("patience", .int pi), ("guest", .bl false)]), (j, .ins (CJ K) jd [("rows", .ref jr), ("safe", .int (0 : Nat))]), (jr, .lst []), (r, .ins (CRc K) rd [("row", .ref rr), ("acceptor", .ref ac)]), (rr, .lst []), (ac, .ins (CA K) ad [("promised", pv), ("accepted", av)]), (m, .ins (CD K) md [("lines", .ref ml)]), (ml, .lst []), (wa, .lst [])] : Ob)) H18 := z17.trans x18
    refine ⟨_, rfl, p, _, pd, _, rfl, b18.get 0 rfl, T.c_Node, T.n_Node_seen, (by show 14 < 1000; decide), ?_⟩
    obtain ⟨H19, e19, o19, x19⟩ := b18.put' 0 rfl trivial (.ins (CN K) pd [("index", .int (ix : Nat)), ("size", .int (sz : Nat)), ("first_members", fm), ("make_machine", .ref (d_law_make.ad K)), ("lazy", .bl true), ("state", .str "up"), ("journal", .ref j), ("record", .ref r), ("machine", .ref m), ("waiting", .ref wa), ("wanted", .non), ("attempt", .non), ("patience", .int pi), ("guest", .bl false), ("seen", .int 0)])
    refine at_heap e19 ?_
    have b19 : Own H19 [(p, .ins (CN K) pd [("index", .int (ix : Nat)), ("size", .int (sz : Nat)), ("first_members", fm), ("make_machine", .ref (d_law_make.ad K)), ("lazy", .bl true), ("state", .str "up"), ("journal", .ref j), ("record", .ref r), ("machine", .ref m), ("waiting", .ref wa), ("wanted", .non), ("attempt", .non), ("patience", .int pi), ("guest", .bl false), ("seen", .int 0)]), (j, .ins (CJ K) jd [("rows", .ref jr), ("safe", .int (0 : Nat))]), (jr, .lst []), (r, .ins (CRc K) rd [("row", .ref rr), ("acceptor", .ref ac)]), (rr, .lst []), (ac, .ins (CA K) ad [("promised", pv), ("accepted", av)]), (m, .ins (CD K) md [("lines", .ref ml)]), (ml, .lst []), (wa, .lst [])] := o19
    have z19 : Go (Ft [(p, HO.ins (CN K) pd [])]) H (Ft ([(p, .ins (CN K) pd [("index", .int (ix : Nat)), ("size", .int (sz : Nat)), ("first_members", fm), ("make_machine", .ref (d_law_make.ad K)), ("lazy", .bl true), ("state", .str "up"), ("journal", .ref j), ("record", .ref r), ("machine", .ref m), ("waiting", .ref wa), ("wanted", .non), ("attempt", .non), ("patience", .int pi), ("guest", .bl false), ("seen", .int 0)]), (j, .ins (CJ K) jd [("rows", .ref jr), ("safe", .int (0 : Nat))]), (jr, .lst []), (r, .ins (CRc K) rd [("row", .ref rr), ("acceptor", .ref ac)]), (rr, .lst []), (ac, .ins (CA K) ad [("promised", pv), ("accepted", av)]), (m, .ins (CD K) md [("lines", .ref ml)]), (ml, .lst []), (wa, .lst [])] : Ob)) H19 := z18.trans x19
    refine ⟨Nat.zero_le _, fun ob nob => ?_⟩
    have sob : Same H19 (upd H19 ob (.lst [])) := Same.nw nob
    have oob : Own (upd H19 ob (.lst [])) [(ob, .lst [])] := Own.one upd_same
    have fob : ∀ a, Ft [(ob, .lst [])] a → H19 a = none := fun a f => by
      obtain rfl : a = ob := by simpa [Ft] using f
      exact nob
    have a20 : Own (upd H19 ob (.lst [])) [(p, .ins (CN K) pd [("index", .int (ix : Nat)), ("size", .int (sz : Nat)), ("first_members", fm), ("make_machine", .ref (d_law_make.ad K)), ("lazy", .bl true), ("state", .str "up"), ("journal", .ref j), ("record", .ref r), ("machine", .ref m), ("waiting", .ref wa), ("wanted", .non), ("attempt", .non), ("patience", .int pi), ("guest", .bl false), ("seen", .int 0)]), (j, .ins (CJ K) jd [("rows", .ref jr), ("safe", .int (0 : Nat))]), (jr, .lst []), (r, .ins (CRc K) rd [("row", .ref rr), ("acceptor", .ref ac)]), (rr, .lst []), (ac, .ins (CA K) ad [("promised", pv), ("accepted", av)]), (m, .ins (CD K) md [("lines", .ref ml)]), (ml, .lst []), (wa, .lst []), (ob, .lst [])] := b19.add sob fob oob
    have w20 : Go No _ No _ := Go.same sob
    have y20 := z19.trans (Own.add_go sob fob)
    refine ⟨_, rfl, p, _, pd, _, rfl, a20.get 0 rfl, T.c_Node, T.n_Node_outbox, (by show 15 < 1000; decide), ?_⟩
    obtain ⟨H21, e21, o21, x21⟩ := a20.put' 0 rfl trivial (.ins (CN K) pd [("index", .int (ix : Nat)), ("size", .int (sz : Nat)), ("first_members", fm), ("make_machine", .ref (d_law_make.ad K)), ("lazy", .bl true), ("state", .str "up"), ("journal", .ref j), ("record", .ref r), ("machine", .ref m), ("waiting", .ref wa), ("wanted", .non), ("attempt", .non), ("patience", .int pi), ("guest", .bl false), ("seen", .int 0), ("outbox", .ref ob)])
    refine at_heap e21 ?_
    have b21 : Own H21 [(p, .ins (CN K) pd [("index", .int (ix : Nat)), ("size", .int (sz : Nat)), ("first_members", fm), ("make_machine", .ref (d_law_make.ad K)), ("lazy", .bl true), ("state", .str "up"), ("journal", .ref j), ("record", .ref r), ("machine", .ref m), ("waiting", .ref wa), ("wanted", .non), ("attempt", .non), ("patience", .int pi), ("guest", .bl false), ("seen", .int 0), ("outbox", .ref ob)]), (j, .ins (CJ K) jd [("rows", .ref jr), ("safe", .int (0 : Nat))]), (jr, .lst []), (r, .ins (CRc K) rd [("row", .ref rr), ("acceptor", .ref ac)]), (rr, .lst []), (ac, .ins (CA K) ad [("promised", pv), ("accepted", av)]), (m, .ins (CD K) md [("lines", .ref ml)]), (ml, .lst []), (wa, .lst []), (ob, .lst [])] := o21
    have z21 : Go (Ft [(p, HO.ins (CN K) pd [])]) H (Ft ([(p, .ins (CN K) pd [("index", .int (ix : Nat)), ("size", .int (sz : Nat)), ("first_members", fm), ("make_machine", .ref (d_law_make.ad K)), ("lazy", .bl true), ("state", .str "up"), ("journal", .ref j), ("record", .ref r), ("machine", .ref m), ("waiting", .ref wa), ("wanted", .non), ("attempt", .non), ("patience", .int pi), ("guest", .bl false), ("seen", .int 0), ("outbox", .ref ob)]), (j, .ins (CJ K) jd [("rows", .ref jr), ("safe", .int (0 : Nat))]), (jr, .lst []), (r, .ins (CRc K) rd [("row", .ref rr), ("acceptor", .ref ac)]), (rr, .lst []), (ac, .ins (CA K) ad [("promised", pv), ("accepted", av)]), (m, .ins (CD K) md [("lines", .ref ml)]), (ml, .lst []), (wa, .lst []), (ob, .lst [])] : Ob)) H21 := y20.trans x21
    refine ⟨Nat.zero_le _, fun sp nsp => ?_⟩
    have ssp : Same H21 (upd H21 sp (.lst [])) := Same.nw nsp
    have osp : Own (upd H21 sp (.lst [])) [(sp, .lst [])] := Own.one upd_same
    have fsp : ∀ a, Ft [(sp, .lst [])] a → H21 a = none := fun a f => by
      obtain rfl : a = sp := by simpa [Ft] using f
      exact nsp
    have a22 : Own (upd H21 sp (.lst [])) [(p, .ins (CN K) pd [("index", .int (ix : Nat)), ("size", .int (sz : Nat)), ("first_members", fm), ("make_machine", .ref (d_law_make.ad K)), ("lazy", .bl true), ("state", .str "up"), ("journal", .ref j), ("record", .ref r), ("machine", .ref m), ("waiting", .ref wa), ("wanted", .non), ("attempt", .non), ("patience", .int pi), ("guest", .bl false), ("seen", .int 0), ("outbox", .ref ob)]), (j, .ins (CJ K) jd [("rows", .ref jr), ("safe", .int (0 : Nat))]), (jr, .lst []), (r, .ins (CRc K) rd [("row", .ref rr), ("acceptor", .ref ac)]), (rr, .lst []), (ac, .ins (CA K) ad [("promised", pv), ("accepted", av)]), (m, .ins (CD K) md [("lines", .ref ml)]), (ml, .lst []), (wa, .lst []), (ob, .lst []), (sp, .lst [])] := b21.add ssp fsp osp
    have w22 : Go No _ No _ := Go.same ssp
    have y22 := z21.trans (Own.add_go ssp fsp)
    refine ⟨_, rfl, p, _, pd, _, rfl, a22.get 0 rfl, T.c_Node, T.n_Node_spoken, (by show 16 < 1000; decide), ?_⟩
    obtain ⟨H23, e23, o23, x23⟩ := a22.put' 0 rfl trivial (.ins (CN K) pd [("index", .int (ix : Nat)), ("size", .int (sz : Nat)), ("first_members", fm), ("make_machine", .ref (d_law_make.ad K)), ("lazy", .bl true), ("state", .str "up"), ("journal", .ref j), ("record", .ref r), ("machine", .ref m), ("waiting", .ref wa), ("wanted", .non), ("attempt", .non), ("patience", .int pi), ("guest", .bl false), ("seen", .int 0), ("outbox", .ref ob), ("spoken", .ref sp)])
    refine at_heap e23 ?_
    have b23 : Own H23 [(p, .ins (CN K) pd [("index", .int (ix : Nat)), ("size", .int (sz : Nat)), ("first_members", fm), ("make_machine", .ref (d_law_make.ad K)), ("lazy", .bl true), ("state", .str "up"), ("journal", .ref j), ("record", .ref r), ("machine", .ref m), ("waiting", .ref wa), ("wanted", .non), ("attempt", .non), ("patience", .int pi), ("guest", .bl false), ("seen", .int 0), ("outbox", .ref ob), ("spoken", .ref sp)]), (j, .ins (CJ K) jd [("rows", .ref jr), ("safe", .int (0 : Nat))]), (jr, .lst []), (r, .ins (CRc K) rd [("row", .ref rr), ("acceptor", .ref ac)]), (rr, .lst []), (ac, .ins (CA K) ad [("promised", pv), ("accepted", av)]), (m, .ins (CD K) md [("lines", .ref ml)]), (ml, .lst []), (wa, .lst []), (ob, .lst []), (sp, .lst [])] := o23
    have z23 : Go (Ft [(p, HO.ins (CN K) pd [])]) H (Ft ([(p, .ins (CN K) pd [("index", .int (ix : Nat)), ("size", .int (sz : Nat)), ("first_members", fm), ("make_machine", .ref (d_law_make.ad K)), ("lazy", .bl true), ("state", .str "up"), ("journal", .ref j), ("record", .ref r), ("machine", .ref m), ("waiting", .ref wa), ("wanted", .non), ("attempt", .non), ("patience", .int pi), ("guest", .bl false), ("seen", .int 0), ("outbox", .ref ob), ("spoken", .ref sp)]), (j, .ins (CJ K) jd [("rows", .ref jr), ("safe", .int (0 : Nat))]), (jr, .lst []), (r, .ins (CRc K) rd [("row", .ref rr), ("acceptor", .ref ac)]), (rr, .lst []), (ac, .ins (CA K) ad [("promised", pv), ("accepted", av)]), (m, .ins (CD K) md [("lines", .ref ml)]), (ml, .lst []), (wa, .lst []), (ob, .lst []), (sp, .lst [])] : Ob)) H23 := y22.trans x23
    refine ⟨Nat.zero_le _, fun ca nca => ?_⟩
    have sca : Same H23 (upd H23 ca (.lst [])) := Same.nw nca
    have oca : Own (upd H23 ca (.lst [])) [(ca, .lst [])] := Own.one upd_same
    have fca : ∀ a, Ft [(ca, .lst [])] a → H23 a = none := fun a f => by
      obtain rfl : a = ca := by simpa [Ft] using f
      exact nca
    have a24 : Own (upd H23 ca (.lst [])) [(p, .ins (CN K) pd [("index", .int (ix : Nat)), ("size", .int (sz : Nat)), ("first_members", fm), ("make_machine", .ref (d_law_make.ad K)), ("lazy", .bl true), ("state", .str "up"), ("journal", .ref j), ("record", .ref r), ("machine", .ref m), ("waiting", .ref wa), ("wanted", .non), ("attempt", .non), ("patience", .int pi), ("guest", .bl false), ("seen", .int 0), ("outbox", .ref ob), ("spoken", .ref sp)]), (j, .ins (CJ K) jd [("rows", .ref jr), ("safe", .int (0 : Nat))]), (jr, .lst []), (r, .ins (CRc K) rd [("row", .ref rr), ("acceptor", .ref ac)]), (rr, .lst []), (ac, .ins (CA K) ad [("promised", pv), ("accepted", av)]), (m, .ins (CD K) md [("lines", .ref ml)]), (ml, .lst []), (wa, .lst []), (ob, .lst []), (sp, .lst []), (ca, .lst [])] := b23.add sca fca oca
    have w24 : Go No _ No _ := Go.same sca
    have y24 := z23.trans (Own.add_go sca fca)
    refine ⟨_, rfl, p, _, pd, _, rfl, a24.get 0 rfl, T.c_Node, T.n_Node_cast, (by show 17 < 1000; decide), ?_⟩
    obtain ⟨H25, e25, o25, x25⟩ := a24.put' 0 rfl trivial (.ins (CN K) pd [("index", .int (ix : Nat)), ("size", .int (sz : Nat)), ("first_members", fm), ("make_machine", .ref (d_law_make.ad K)), ("lazy", .bl true), ("state", .str "up"), ("journal", .ref j), ("record", .ref r), ("machine", .ref m), ("waiting", .ref wa), ("wanted", .non), ("attempt", .non), ("patience", .int pi), ("guest", .bl false), ("seen", .int 0), ("outbox", .ref ob), ("spoken", .ref sp), ("cast", .ref ca)])
    refine at_heap e25 ?_
    have b25 : Own H25 [(p, .ins (CN K) pd [("index", .int (ix : Nat)), ("size", .int (sz : Nat)), ("first_members", fm), ("make_machine", .ref (d_law_make.ad K)), ("lazy", .bl true), ("state", .str "up"), ("journal", .ref j), ("record", .ref r), ("machine", .ref m), ("waiting", .ref wa), ("wanted", .non), ("attempt", .non), ("patience", .int pi), ("guest", .bl false), ("seen", .int 0), ("outbox", .ref ob), ("spoken", .ref sp), ("cast", .ref ca)]), (j, .ins (CJ K) jd [("rows", .ref jr), ("safe", .int (0 : Nat))]), (jr, .lst []), (r, .ins (CRc K) rd [("row", .ref rr), ("acceptor", .ref ac)]), (rr, .lst []), (ac, .ins (CA K) ad [("promised", pv), ("accepted", av)]), (m, .ins (CD K) md [("lines", .ref ml)]), (ml, .lst []), (wa, .lst []), (ob, .lst []), (sp, .lst []), (ca, .lst [])] := o25
    have z25 : Go (Ft [(p, HO.ins (CN K) pd [])]) H (Ft ([(p, .ins (CN K) pd [("index", .int (ix : Nat)), ("size", .int (sz : Nat)), ("first_members", fm), ("make_machine", .ref (d_law_make.ad K)), ("lazy", .bl true), ("state", .str "up"), ("journal", .ref j), ("record", .ref r), ("machine", .ref m), ("waiting", .ref wa), ("wanted", .non), ("attempt", .non), ("patience", .int pi), ("guest", .bl false), ("seen", .int 0), ("outbox", .ref ob), ("spoken", .ref sp), ("cast", .ref ca)]), (j, .ins (CJ K) jd [("rows", .ref jr), ("safe", .int (0 : Nat))]), (jr, .lst []), (r, .ins (CRc K) rd [("row", .ref rr), ("acceptor", .ref ac)]), (rr, .lst []), (ac, .ins (CA K) ad [("promised", pv), ("accepted", av)]), (m, .ins (CD K) md [("lines", .ref ml)]), (ml, .lst []), (wa, .lst []), (ob, .lst []), (sp, .lst []), (ca, .lst [])] : Ob)) H25 := y24.trans x25
    have x : Go (fun a => a = p) H (fun a => a = p) H25 := (z25.more fun a f => by simpa [Ft] using f).less fun a f => .inl (by subst f; exact List.mem_cons_self)
    refine k ⟨j, jd, jr, [], r, rd, rr, [], ac, ad, pv, av, m, md, ml, [], wa, [], ob, [], sp, [], ca, [], .non, pi, false⟩ H25 x (fun a f => ?_) ⟨b25, ?_⟩ ⟨rfl, rfl, rfl, rfl, rfl⟩
    · refine (z25.foot a f).imp (fun f => by simpa [Ft] using f) id
    · refine ⟨.nil, (((((((((((((((d10.go w11).go x12).go w13).go x14).go x15).go x16).go x17).go x18).go x19).go w20).go x21).go w22).go x23).go w24).go x25), .nil, ⟨[], .nil, fun _ z => nomatch z⟩, .nil, hfm.go x, .inl rfl, (fun _ z => nomatch z), Nat.zero_le _, Nat.zero_le _, (fun k => by rw [List.take_nil]; exact Nat.zero_le _), Nat.zero_le _, Nat.le_refl _, Nat.le_refl _⟩
end
end Ck
/-! W23 -/
set_option maxHeartbeats 400000
namespace Ck
open PySem PySem.Spec PyProof.Rows L2
theorem tw_step {H H1 H2 : Hp} {l l' : Ob} (s : Same H H1) (f : ∀ a, Ft l a → H a = none) (x : Go (Ft l) H1 (Ft l') H2) : Same H H2 ∧ ∀ a, Ft l' a → H a = none :=
  ⟨fun b o e => x.keep b o (s b o e) fun z => (by rw [f b z] at e; cases e), fun a z => (x.foot a z).elim (f a) s.free⟩
theorem Pays.to {F G : Addr → Prop} {H : Hp} (n : ∀ a, G a → H a = none) : ∀ {vs : List V} {ps : List (List Int)}, Pays F H vs ps → Pays G H vs ps
  | _, _, .nil => .nil
  | _, _, .cons ⟨q, e, h1, _⟩ r => .cons ⟨q, e, h1, fun z => by rw [n q z] at h1; cases h1⟩ (Pays.to n r)
def spNFork (K : PySem.W.Frag) : Sp := fun vs H Q _ => ∃ (c : Nc) (S cb : Nat) (g : Nx) (us : List Upd) (n : Nat), vs = [.ref c.p, .ref (d_law_make.ad K)] ∧ NDs K H c ⟨S, cb, "up"⟩ g us n ∧ n ≤ 900 ∧
  ∀ p pd g' H', Same H H' → (∀ a, Ft (nob K { c with p := p, pd := pd, x := [] } ⟨S, cb, "up"⟩ g') a → H a = none) → NDs K H' { c with p := p, pd := pd, x := [] } ⟨S, cb, "up"⟩ g' us n → Q (.ref p) H'
theorem ND.cast' {K : PySem.W.Frag} {H H' : Hp} {c : Nc} {m : Nm} {g : Nx} {us : List Upd} {lr : List PyData} {n : Nat} (h : ND K H c m g us lr n) (s : Same H H') {D : Addr} {xs : List V} {cb : Nat} (nD : H D = none) (eD : H' D = some (.lst xs)) (w : Ims K H' xs ((castOf cb us).map pairPy)) (w2 : cb ≤ us.length) :
    ∃ H2 g2, H2 = upd H' c.p (.ins (CN K) c.pd (nfs K c m { g with ca := D, cs := xs })) ∧ ND K H2 c { m with cb := cb } g2 us lr n ∧ NG K c m g H { m with cb := cb } g2 H2 := ⟨_, _, rfl, h.cast s nD eD w w2⟩
section
variable {P : Program} {w : World} {K : PySem.W.Frag} {mg : Str → Option Value} {base : Heap}
theorem c_Node_fork (T : Txt K mg) : C8.Met P w K mg base 9 (CN K) "fork" (spNFork K) [] := by
  refine met T.c_Node T.m_Node_fork T.f_Node_fork (N := (["self", "make_machine", "twin"] : List Str)) (ps := (["self", "make_machine"] : List Str)) (by decide +kernel) (fun _ _ _ _ _ _ us hl => match us, hl with | [_, _], _ => rfl) (fun vs H Q E h => ?_) (fun cdv A outer s H vs Q E hr h => ?_)
  · obtain ⟨_, _, _, _, _, _, rfl, _⟩ := h; rfl
  · obtain ⟨c, S, cb, g, us, n, rfl, h, hn, k⟩ := h
    have nd : ((["self", "make_machine", "twin"] : List Str)).Nodup := by decide +kernel
    refine ⟨_,
      (pss_cons (ps_set (i := 2) nd rfl (by first | exact Or.inl rfl | exact Or.inr rfl) (C8.pe_mk (c_Node_init T) hr (by decide) rfl (pa_cons (pe_fld (L2.pv 0) rfl) (pa_cons (pe_fld (L2.pv 0) rfl) (pa_cons (pe_fld (L2.pv 0) rfl) (pa_cons (L2.pv 1) (pa_cons (pe_fld (L2.pv 0) rfl) pa_nil)))))))
        (pss_cons (ps_fld (L2.pv 2) (C8.pe_mt0 (c_Journal_fork T) hr (by decide) (pe_fld (L2.pv 0) rfl)) rfl)
        (pss_cons (ps_fld (L2.pv 2) (C8.pe_mt0 (c_Record_fork T) hr (by decide) (pe_fld (L2.pv 0) rfl)) rfl)
        (pss_cons (ps_if (pt_cmpR op_eq (pe_fld (L2.pv 0) rfl) (C8.pe_gc rfl (gs T.v_UP)) (nomark _)) (pss_one (ps_expr (C8.pe_mt0 (c_Node_restart T) hr (by decide) (L2.pv 2)))) pss_nil)
        (pss_cons (ps_fld (L2.pv 2) (pe_fld (L2.pv 0) rfl) rfl)
        (pss_cons (ps_fld (L2.pv 2) (pe_callTy call_list_of (by rfl) T.b_list bt_list (pa_cons (pe_fld (L2.pv 0) rfl) pa_nil)) rfl)
        (pss_cons (ps_fld (L2.pv 2) (pe_fld (L2.pv 0) rfl) rfl)
        (C8.pss_cut (ps_if (pt_cmpR op_notN (pe_fld (L2.pv 0) rfl) pe_non (nomark _)) (pss_one (ps_fld (L2.pv 2) (C8.pe_mt0 (c_Attempt_fork T) hr (by decide) (pe_fld (L2.pv 0) rfl)) rfl)) pss_nil)
        (pss_cons (ps_fld (L2.pv 2) (pe_fld (L2.pv 0) rfl) rfl)
        (pss_cons (ps_fld (L2.pv 2) (pe_fld (L2.pv 0) rfl) rfl)
        (pss_cons (ps_fld (L2.pv 2) (pe_fld (L2.pv 0) rfl) rfl)
        (pss_cons (ps_fld (L2.pv 2) (pe_callTy call_list_of (by rfl) T.b_list bt_list (pa_cons (pe_fld (L2.pv 0) rfl) pa_nil)) rfl)
        (pss_cons (ps_fld (L2.pv 2) (pe_callTy call_list_of (by rfl) T.b_list bt_list (pa_cons (pe_fld (L2.pv 0) rfl) pa_nil)) rfl)
        (pss_cons (ps_fld (L2.pv 2) (pe_callTy call_list_of (by rfl) T.b_list bt_list (pa_cons (pe_fld (L2.pv 0) rfl) pa_nil)) rfl)
        (pss_one (ps_ret (L2.pv 2)))))))))))))))))
      , ?_⟩
    have s0 : Same H H := Same.refl H
    have hul := h.d.ul
    refine ⟨_, rfl, c.p, _, c.pd, _, _, rfl, (h.own.same s0).1.get 0 rfl, T.c_Node, T.n_Node_index, rfl, _, rfl, c.p, _, c.pd, _, _, rfl, (h.own.same s0).1.get 0 rfl, T.c_Node, T.n_Node_size, rfl, _, rfl, c.p, _, c.pd, _, _, rfl, (h.own.same s0).1.get 0 rfl, T.c_Node, T.n_Node_first_members, rfl, _, rfl, _, rfl, c.p, _, c.pd, _, _, rfl, (h.own.same s0).1.get 0 rfl, T.c_Node, T.n_Node_lazy, rfl, ?_⟩
    refine fun p pd np npd ne => ⟨p, pd, c.ix, c.sz, c.fm, c.hs, c.hi, rfl, upd_same, h.d.fm.go (F := No) (F' := No) (Go.same ((Same.nw npd).mt np)), fun g1 H1 x1 f1 h1 b1 => ⟨rfl, ?_⟩⟩
    have s1 : Same H H1 := made_same np npd x1
    have f1 : ∀ a, Ft (nob K { c with p := p, pd := pd, x := [] } ⟨0, 0, "up"⟩ g1) a → H a = none := fun a f => (f1 a f).elim (fun z => by rw [z]; exact np) fresh2
    obtain ⟨bn1, bn2, bn3, bn4, bn5⟩ := b1
    have h1 : ND K H1 { c with p := p, pd := pd, x := [] } ⟨0, 0, "up"⟩ g1 [] [] 0 := h1
    -- twin.journal = self.journal.fork()
    refine ⟨_, rfl, c.p, _, c.pd, _, _, rfl, (h.own.same s1).1.get 0 rfl, T.c_Node, T.n_Node_journal, rfl, g.j, g.jd, _, rfl, (h.own.same s1).1.get 1 rfl, rfl, g.j, g.jd, g.jr, g.rows, S, rfl, (h.own.same s1).1.nj, fun b bd br H2 f2 s2 o2 => ?_⟩
    obtain ⟨o3, x3⟩ := Own.mid (a := [_]) (b := [_, _, _, _, _, _, _, _, _]) h1.own (Go.fresh (F := Ft (jl K g1.j g1.jd g1.jr g1.rows 0)) s2 f2) o2
    refine ⟨_, rfl, p, _, pd, _, rfl, o3.get 0 rfl, T.c_Node, T.n_Node_journal, (by show 18 < 1000; decide), ?_⟩
    obtain ⟨H4, e4, o4, x4⟩ := o3.put' 0 rfl trivial (.ins (CN K) pd (nfs K { c with p := p, pd := pd, x := [] } ⟨S, us.length, "up"⟩ { g1 with j := b, jd := bd, jr := br, rows := g.rows }))
    refine at_heap e4 ?_
    have o4 : Own H4 (nob K { c with p := p, pd := pd, x := [] } ⟨S, us.length, "up"⟩ { g1 with j := b, jd := bd, jr := br, rows := g.rows }) := o4
    have x4 : Go (Ft (nob K { c with p := p, pd := pd, x := [] } ⟨0, 0, "up"⟩ g1)) H1 (Ft (nob K { c with p := p, pd := pd, x := [] } ⟨S, us.length, "up"⟩ { g1 with j := b, jd := bd, jr := br, rows := g.rows })) H4 := x3.trans x4
    obtain ⟨s4, f4⟩ := tw_step s1 f1 x4
    -- twin.record = self.record.fork()
    refine ⟨_, rfl, c.p, _, c.pd, _, _, rfl, (h.own.same s4).1.get 0 rfl, T.c_Node, T.n_Node_record, rfl, g.r, g.rd, _, rfl, (h.own.same s4).1.get 3 rfl, rfl, g.r, g.rd, g.rr, g.row, g.ac, g.ad, g.pv, g.av, rfl, (h.own.same s4).1.nr, fun r rd rr ac ad H5 f5 s5 o5 => ?_⟩
    obtain ⟨o6, x6⟩ := Own.mid (a := [_, _, _]) (b := [_, _, _, _, _, _]) o4 (Go.fresh (F := Ft (rl K g1.r g1.rd g1.rr g1.row g1.ac g1.ad g1.pv g1.av)) s5 f5) o5
    refine ⟨_, rfl, p, _, pd, _, rfl, o6.get 0 rfl, T.c_Node, T.n_Node_record, (by show 18 < 1000; decide), ?_⟩
    obtain ⟨g7, q7⟩ : ∃ g7 : Nx, g7 = { g1 with j := b, jd := bd, jr := br, rows := g.rows, r := r, rd := rd, rr := rr, row := g.row, ac := ac, ad := ad, pv := g.pv, av := g.av } := ⟨_, rfl⟩
    obtain ⟨H7, e7, o7, x7⟩ := o6.put' 0 rfl trivial (.ins (CN K) pd (nfs K { c with p := p, pd := pd, x := [] } ⟨S, us.length, "up"⟩ { g1 with j := b, jd := bd, jr := br, rows := g.rows, r := r, rd := rd, rr := rr, row := g.row, ac := ac, ad := ad, pv := g.pv, av := g.av }))
    refine at_heap e7 ?_
    have o7 : Own H7 (nob K { c with p := p, pd := pd, x := [] } ⟨S, us.length, "up"⟩ { g1 with j := b, jd := bd, jr := br, rows := g.rows, r := r, rd := rd, rr := rr, row := g.row, ac := ac, ad := ad, pv := g.pv, av := g.av }) := o7
    have x7 : Go (Ft (nob K { c with p := p, pd := pd, x := [] } ⟨S, us.length, "up"⟩ { g1 with j := b, jd := bd, jr := br, rows := g.rows })) H4 (Ft (nob K { c with p := p, pd := pd, x := [] } ⟨S, us.length, "up"⟩ { g1 with j := b, jd := bd, jr := br, rows := g.rows, r := r, rd := rd, rr := rr, row := g.row, ac := ac, ad := ad, pv := g.pv, av := g.av })) H7 := x6.trans x7
    obtain ⟨s7, f7⟩ := tw_step s4 f4 x7
    have sg : Go No H No H7 := Go.same s7
    have d1 := (h1.d.go x4).go x7
    have h7 : ND K H7 { c with p := p, pd := pd, x := [] } ⟨S, us.length, "up"⟩ { g1 with j := b, jd := bd, jr := br, rows := g.rows, r := r, rd := rd, rr := rr, row := g.row, ac := ac, ad := ad, pv := g.pv, av := g.av } us [] n :=
      ⟨o7, ⟨(h.d.pays.to f7).go (Go.same s7), h.d.rc.go sg, d1.ln, d1.wd, (by show Ims K H7 g1.cs ((castOf us.length us).map pairPy); rw [castOf_done]; exact d1.ca), h.d.fm.go sg, d1.at_, h.d.ok, d1.wl, h.d.ul, h.d.pl, Nat.le_trans d1.ol (Nat.zero_le _), h.d.sl, Nat.le_refl _⟩⟩
    rw [← q7] at h7 f7
    -- if self.state == UP: twin.restart()
    refine ⟨_, rfl, c.p, _, c.pd, _, _, rfl, (h.own.same s7).1.get 0 rfl, T.c_Node, T.n_Node_state, rfl, rfl, _, rfl, ?_⟩
    refine t_yes (decide_eq_true rfl) ?_
    refine ⟨_, rfl, p, pd, _, rfl, o7.get 0 rfl, rfl, _, _, g7, us, _, n, rfl, h7, hn, fun g8 H8 x8 h8 _ => ?_⟩
    obtain ⟨s8, f8⟩ := tw_step s7 f7 x8
    -- twin.state = self.state
    refine ⟨_, rfl, c.p, _, c.pd, _, _, rfl, (h.own.same s8).1.get 0 rfl, T.c_Node, T.n_Node_state, rfl, _, rfl, p, _, pd, _, rfl, h8.own.get 0 rfl, T.c_Node, T.n_Node_state, (by show 18 < 1000; decide), ?_⟩
    obtain ⟨h9, x9⟩ := h8.state "up"
    obtain ⟨s9, f9⟩ := tw_step s8 f8 x9
    -- twin.waiting = list(self.waiting)
    refine ⟨_, rfl, c.p, _, c.pd, _, _, rfl, (h.own.same s9).1.get 0 rfl, T.c_Node, T.n_Node_waiting, rfl, g.wa, _, rfl, .inl (SqL.of ((h.own.same s9).1.get 8 rfl)), fun Dw nDw => ?_⟩
    obtain ⟨hw, xw⟩ := h9.same (Same.nw (o := .lst g.wr) nDw)
    refine ⟨_, rfl, p, _, pd, _, rfl, hw.own.get 0 rfl, T.c_Node, T.n_Node_waiting, (by show 18 < 1000; decide), ?_⟩
    obtain ⟨wd, wd1, wd2⟩ := h.d.wd
    obtain ⟨H10, g10, q10, e10, h10, x10⟩ := h9.wait' (Same.nw (o := .lst g.wr) nDw) nDw upd_same ⟨wd, wd1.go (F := No) (F' := No) (Go.same (s9.trans (Same.nw nDw))), wd2⟩ h.d.wl
    refine at_heap e10 ?_
    obtain ⟨s10, f10⟩ := tw_step s9 f9 x10
    -- twin.wanted = self.wanted
    refine ⟨_, rfl, c.p, _, c.pd, _, _, rfl, (h.own.same s10).1.get 0 rfl, T.c_Node, T.n_Node_wanted, rfl, _, rfl, p, _, pd, _, rfl, h10.own.get 0 rfl, T.c_Node, T.n_Node_wanted, (by show 18 < 1000; decide), ?_⟩
    obtain ⟨H11, g11, q11, e11, h11, x11⟩ := h10.set' g10.pat g10.gu
    refine at_heap e11 ?_
    obtain ⟨s11, f11⟩ := tw_step s10 f10 x11
    refine ⟨fun σ H' => σ = [some (.ref c.p), some (.ref (d_law_make.ad K)), some (.ref p)] ∧ ∃ g', Same H H' ∧ (∀ a, Ft (nob K { c with p := p, pd := pd, x := [] } ⟨S, us.length, "up"⟩ g') a → H a = none) ∧ NDs K H' { c with p := p, pd := pd, x := [] } ⟨S, us.length, "up"⟩ g' us n, ?_, ?_⟩
    · refine ⟨_, rfl, c.p, _, c.pd, _, _, rfl, (h.own.same s11).1.get 0 rfl, T.c_Node, T.n_Node_attempt, rfl, rfl, _, rfl, ?_⟩
      rcases h.d.at_ with ea | ⟨t, td, b, e, mm, l1, l2, ea, z0, z1, z2⟩
      · refine t_no (by rw [ea]; rfl) ?_
        exact ⟨rfl, g11, s11, f11, h11⟩
      · refine t_yes (by rw [ea]; rfl) ?_
        refine ⟨_, rfl, c.p, _, c.pd, _, _, rfl, (h.own.same s11).1.get 0 rfl, T.c_Node, T.n_Node_attempt, rfl, t, td, _, ea, s11 _ _ z0.1, rfl, t, td, b, e, mm, l1, l2, by rw [ea]; rfl, s11 _ _ z0.1, s11 _ _ z1.1, s11 _ _ z2.1, fun u ud k1 k2 H12 nu n1 n2 s12 hu hk1 hk2 => ?_⟩
        obtain ⟨h12, x12⟩ := h11.same s12
        refine ⟨_, rfl, p, _, pd, _, rfl, h12.own.get 0 rfl, T.c_Node, T.n_Node_attempt, (by show 18 < 1000; decide), ?_⟩
        obtain ⟨H13, g13, q13, e13, h13, x13⟩ := h12.att' (v := .ref u) (.inr ⟨u, ud, _, _, _, k1, k2, rfl, ⟨hu, h11.own.no nu⟩, ⟨hk1, h11.own.no n1⟩, ⟨hk2, h11.own.no n2⟩⟩)
        refine at_heap e13 ?_
        obtain ⟨s13, f13⟩ := tw_step s11 f11 (x12.trans x13)
        exact ⟨rfl, g13, s13, f13, h13⟩
    · rintro σ H13 ⟨rfl, g13, s13, f13, h13⟩
      refine ⟨_, rfl, c.p, _, c.pd, _, _, rfl, (h.own.same s13).1.get 0 rfl, T.c_Node, T.n_Node_patience, rfl, _, rfl, p, _, pd, _, rfl, h13.own.get 0 rfl, T.c_Node, T.n_Node_patience, (by show 18 < 1000; decide), ?_⟩
      obtain ⟨H14, g14, q14, e14, h14, x14⟩ := h13.set' g.pat g13.gu
      refine at_heap e14 ?_
      obtain ⟨s14, f14⟩ := tw_step s13 f13 x14
      refine ⟨_, rfl, c.p, _, c.pd, _, _, rfl, (h.own.same s14).1.get 0 rfl, T.c_Node, T.n_Node_guest, rfl, _, rfl, p, _, pd, _, rfl, h14.own.get 0 rfl, T.c_Node, T.n_Node_guest, (by show 18 < 1000; decide), ?_⟩
      obtain ⟨H15, g15, q15, e15, h15, x15⟩ := h14.set' g14.pat g.gu
      refine at_heap e15 ?_
      obtain ⟨s15, f15⟩ := tw_step s14 f14 x15
      refine ⟨_, rfl, c.p, _, c.pd, _, _, rfl, (h.own.same s15).1.get 0 rfl, T.c_Node, T.n_Node_seen, rfl, _, rfl, p, _, pd, _, rfl, h15.own.get 0 rfl, T.c_Node, T.n_Node_seen, (by show 18 < 1000; decide), ?_⟩
      obtain ⟨H16, g16, q16, e16, h16, x16⟩ := h15.set' g15.pat g15.gu
      refine at_heap e16 ?_
      obtain ⟨s16, f16⟩ := tw_step s15 f15 x16
      refine ⟨_, rfl, c.p, _, c.pd, _, _, rfl, (h.own.same s16).1.get 0 rfl, T.c_Node, T.n_Node_outbox, rfl, g.ob, _, rfl, .inl (SqL.of ((h.own.same s16).1.get 9 rfl)), fun Do nDo => ?_⟩
      obtain ⟨ho, xo⟩ := h16.same (Same.nw (o := .lst g.os) nDo)
      refine ⟨_, rfl, p, _, pd, _, rfl, ho.own.get 0 rfl, T.c_Node, T.n_Node_outbox, (by show 18 < 1000; decide), ?_⟩
      obtain ⟨H17, g17, q17, e17, h17, x17⟩ := h16.outb' (Same.nw (o := .lst g.os) nDo) nDo upd_same h.d.ol
      refine at_heap e17 ?_
      obtain ⟨s17, f17⟩ := tw_step s16 f16 x17
      refine ⟨_, rfl, c.p, _, c.pd, _, _, rfl, (h.own.same s17).1.get 0 rfl, T.c_Node, T.n_Node_spoken, rfl, g.sp, _, rfl, .inl (SqL.of ((h.own.same s17).1.get 10 rfl)), fun Ds nDs => ?_⟩
      obtain ⟨hsp, xsp⟩ := h17.same (Same.nw (o := .lst g.ss) nDs)
      refine ⟨_, rfl, p, _, pd, _, rfl, hsp.own.get 0 rfl, T.c_Node, T.n_Node_spoken, (by show 18 < 1000; decide), ?_⟩
      obtain ⟨H18, g18, q18, e18, h18, x18⟩ := h17.spok' (Same.nw (o := .lst g.ss) nDs) nDs upd_same
      refine at_heap e18 ?_
      obtain ⟨s18, f18⟩ := tw_step s17 f17 x18
      refine ⟨_, rfl, c.p, _, c.pd, _, _, rfl, (h.own.same s18).1.get 0 rfl, T.c_Node, T.n_Node_cast, rfl, g.ca, _, rfl, .inl (SqL.of ((h.own.same s18).1.get 11 rfl)), fun Dc nDc => ?_⟩
      obtain ⟨hc, xc⟩ := h18.same (Same.nw (o := .lst g.cs) nDc)
      refine ⟨_, rfl, p, _, pd, _, rfl, hc.own.get 0 rfl, T.c_Node, T.n_Node_cast, (by show 18 < 1000; decide), ?_⟩
      obtain ⟨H19, g19, e19, h19, x19⟩ := h18.cast' (Same.nw (o := .lst g.cs) nDc) nDc upd_same (cb := cb) (h.d.ca.go (F := No) (F' := No) (Go.same (s18.trans (Same.nw nDc)))) h.d.cl
      refine at_heap e19 ?_
      obtain ⟨s19, f19⟩ := tw_step s18 f18 x19
      exact ⟨_, rfl, k p pd g19 H19 s19 f19 h19⟩
end
end Ck
/-! W24 -/
set_option maxHeartbeats 400000
namespace Ck
open PySem PySem.Spec PyProof.Rows L2
/-! ### what a node hears -/
theorem bal_good (r i : Nat) : good 3 (bal r i) = true := rfl
def spRefuse (K : PySem.W.Frag) : Sp := fun vs H Q _ => ∃ (c : Nc) (m : Nm) (g : Nx) (us : List Upd) (n : Nat) (x y z : V), vs = [.ref c.p, x, y, z] ∧ NDs K H c m g us n ∧ n ≤ 930 ∧
  ∀ g' H', NG K c m g H m g' H' → NDs K H' c m g' us (n + 1) → Q .non H'
def spStand (K : PySem.W.Frag) : Sp := fun vs H Q _ => ∃ (c : Nc) (m : Nm) (g : Nx) (us : List Upd) (n : Nat) (s : Int), vs = [.ref c.p, .int s] ∧ NDs K H c m g us n ∧
  ∀ pat gu H', NG K c m g H m { g with pat := pat, gu := gu } H' → NDs K H' c m { g with pat := pat, gu := gu } us n → Q .non H'
def spAsk (K : PySem.W.Frag) : Sp := fun vs H Q _ => ∃ (c : Nc) (m : Nm) (g : Nx) (us : List Upd) (n : Nat) (s : Int) (b : V) (r i : Nat), vs = [.ref c.p, .int s, .int (g.row.length + 1 : Nat), b] ∧ NDs K H c m g us n ∧ n ≤ 900 ∧ Im K H b (bal r i) ∧ r ≤ n + 3 ∧ i ≤ 10 ∧
  ∀ g' us' H', NG K c m g H m g' H' → NDs K H' c m g' us' (n + 10) → Q .non H'
def spTell (K : PySem.W.Frag) : Sp := fun vs H Q _ => ∃ (c : Nc) (m : Nm) (g : Nx) (us : List Upd) (n : Nat) (s : Int) (b ev : V) (r i : Nat) (e : Ent), vs = [.ref c.p, .int s, .int (g.row.length + 1 : Nat), b, ev] ∧ NDs K H c m g us n ∧ n ≤ 900 ∧ Im K H b (bal r i) ∧ r ≤ n + 3 ∧ i ≤ 10 ∧ Im K H ev e.py ∧ e.Ok ∧
  ∀ g' us' H', NG K c m g H m g' H' → NDs K H' c m g' us' (n + 10) → Q .non H'
theorem bal_cells {K : PySem.W.Frag} {H : Hp} {b : V} {r i : Nat} (h : Im K H b (bal r i)) : ∃ a, b = .ref a ∧ SqT K H a [.int (r : Nat), .int (i : Nat)] := by
  obtain ⟨a, xs, e, hT, hU⟩ := h.tuple
  rcases hU with _ | ⟨i0, _ | ⟨i1, _ | _⟩⟩
  rw [i0.intE, i1.intE] at hT
  exact ⟨a, e, hT⟩
theorem flat_ints (ns : List Int) : (ns.map V.int).all flatV = true := List.all_eq_true.mpr fun x hx => by
  obtain ⟨i, _, rfl⟩ := List.mem_map.mp hx
  rfl
section
variable {P : Program} {w : World} {K : PySem.W.Frag} {mg : Str → Option Value} {base : Heap}
theorem c_refuse (T : Txt K mg) : C8.Cal P w K mg base 2 "refuse" (spRefuse K) [] := by
  refine cal T.f_refuse T.g_refuse (N := (["node", "sender", "slot", "ballot"] : List Str)) (ps := (["node", "sender", "slot", "ballot"] : List Str)) (by decide +kernel) (fun _ _ _ _ _ _ us hl => match us, hl with | [_, _, _, _], _ => rfl) (fun vs H Q E h => ?_) (fun cdv A outer s H vs Q E hr h => ?_)
  · obtain ⟨_, _, _, _, _, _, _, _, rfl, _⟩ := h; rfl
  · obtain ⟨c, m, g, us, n, x, y, z, rfl, h, hn, k⟩ := h
    refine ⟨_,
      (pss_one (ps_expr (C8.pe_mt (c_Node_post T) hr (by decide) (L2.pv 0) (pa_cons (L2.pv 1) (pa_cons (pe_tup (pa_cons (C8.pe_gc rfl (gs T.v_REFUSE)) (pa_cons (L2.pv 2) (pa_cons (L2.pv 3) (pa_cons (pe_fld (pe_fld (pe_fld (L2.pv 0) rfl) rfl) rfl) pa_nil))))) pa_nil)))))
      , ?_⟩
    refine ⟨_, rfl, c.p, c.pd, _, rfl, h.own.get 0 rfl, rfl, _, rfl, _, rfl, _, rfl, _, rfl, c.p, _, c.pd, _, _, rfl, h.own.get 0 rfl, T.c_Node, T.n_Node_record, rfl, g.r, _, g.rd, _, _, rfl, h.own.get 3 rfl, T.c_Record, T.n_Record_acceptor, rfl, g.ac, _, g.ad, _, _, rfl, h.own.get 5 rfl, T.c_Acceptor, T.n_Acceptor_promised, rfl, by show 4 ≤ sizeLine; decide, fun t nt => ?_⟩
    obtain ⟨h1, x1⟩ := h.same (Same.nw (o := .tup [.str "refuse", y, z, g.pv]) nt)
    exact ⟨c, m, g, us, _, n, x, .ref t, rfl, h1, by omega, fun t2 H2 x2 h2 _ => k _ H2 (x1.trans x2) h2⟩
theorem c_stand_aside (T : Txt K mg) : C8.Cal P w K mg base 2 "stand_aside" (spStand K) [] := by
  refine cal T.f_stand_aside T.g_stand_aside (N := (["node", "sender"] : List Str)) (ps := (["node", "sender"] : List Str)) (by decide +kernel) (fun _ _ _ _ _ _ us hl => match us, hl with | [_, _], _ => rfl) (fun vs H Q E h => ?_) (fun cdv A outer s H vs Q E hr h => ?_)
  · obtain ⟨_, _, _, _, _, _, rfl, _⟩ := h; rfl
  · obtain ⟨c, m, g, us, n, s, rfl, h, k⟩ := h
    refine ⟨_,
      (pss_one (ps_if (pt_cmpR op_ne (L2.pv 1) (pe_fld (L2.pv 0) rfl) (nomark _)) (pss_cons (ps_fld (L2.pv 0) pe_bl rfl)
        (pss_one (ps_fld (L2.pv 0) (C8.pe_mt0 (c_Node_long_patience T) hr (by decide) (L2.pv 0)) rfl))) pss_nil))
      , ?_⟩
    refine ⟨_, rfl, _, rfl, c.p, _, c.pd, _, _, rfl, h.own.get 0 rfl, T.c_Node, T.n_Node_index, rfl, rfl, _, rfl, ?_⟩
    by_cases hb : (!decide (V.int s = V.int (c.ix : Nat))) = true
    · refine t_yes hb ?_
      refine ⟨_, rfl, c.p, _, c.pd, _, rfl, h.own.get 0 rfl, T.c_Node, T.n_Node_guest, (by show 18 < 1000; decide), ?_⟩
      obtain ⟨h1, x1⟩ := h.set g.pat true
      refine ⟨_, rfl, c.p, c.pd, _, rfl, h1.own.get 0 rfl, rfl, c.p, c.pd, _, c.ix, rfl, h1.own.get 0 rfl, rfl, fun pi => ?_⟩
      refine ⟨_, rfl, c.p, _, c.pd, _, rfl, h1.own.get 0 rfl, T.c_Node, T.n_Node_patience, (by show 18 < 1000; decide), ?_⟩
      obtain ⟨h2, x2⟩ := h1.set pi true
      exact k pi true _ (x1.trans x2) h2
    · refine t_no (by simpa using hb) ?_
      exact k g.pat g.gu H (Go.refl H) h
theorem c_hear_ask (T : Txt K mg) : C8.Cal P w K mg base 7 "hear_ask" (spAsk K) [] := by
  refine cal T.f_hear_ask T.g_hear_ask (N := (["node", "sender", "slot", "ballot", "acceptor"] : List Str)) (ps := (["node", "sender", "slot", "ballot"] : List Str)) (by decide +kernel) (fun _ _ _ _ _ _ us hl => match us, hl with | [_, _, _, _], _ => rfl) (fun vs H Q E h => ?_) (fun cdv A outer s H vs Q E hr h => ?_)
  · obtain ⟨_, _, _, _, _, _, _, _, _, rfl, _⟩ := h; rfl
  · obtain ⟨c, m, g, us, n, s, b, r, i, rfl, h, hn, hb, hr0, hi, k⟩ := h
    have nd : ((["node", "sender", "slot", "ballot", "acceptor"] : List Str)).Nodup := by decide +kernel
    refine ⟨_,
      (pss_cons (ps_set (i := 4) nd rfl (by first | exact Or.inl rfl | exact Or.inr rfl) (pe_fld (pe_fld (L2.pv 0) rfl) rfl))
        (pss_cons (ps_if (pt_not (pt_val (C8.pe_mt (c_Acceptor_hears T) hr (by decide) (L2.pv 4) (pa_cons (L2.pv 3) pa_nil)))) (pss_cons (ps_expr (C8.pe_c (c_refuse T) hr (by decide) rfl (pa_cons (L2.pv 0) (pa_cons (L2.pv 1) (pa_cons (L2.pv 2) (pa_cons (L2.pv 3) pa_nil))))))
        (pss_one ps_retN)) pss_nil)
        (pss_cons (ps_expr (C8.pe_c (c_stand_aside T) hr (by decide) rfl (pa_cons (L2.pv 0) (pa_cons (L2.pv 1) pa_nil))))
        (pss_cons (ps_if (pt_cmpR op_notIn_seq (pe_fld (L2.pv 0) rfl) (pe_pr (c_Node_members_now T) hr (by decide) (L2.pv 0)) (by rfl)) (pss_one ps_retN) pss_nil)
        (C8.pss_cut (ps_if (pt_cmpR (op_neD hr.units) (pe_fld (L2.pv 4) rfl) (L2.pv 3) (nomark _)) (pss_one (ps_expr (C8.pe_mt (c_Node_note T) hr (by decide) (L2.pv 0) (pa_cons (pe_tup (pa_cons (C8.pe_gc rfl (gs T.v_PROMISE)) (pa_cons (L2.pv 2) (pa_cons (L2.pv 3) pa_nil)))) pa_nil)))) pss_nil)
        (pss_one (ps_expr (C8.pe_mt (c_Node_post T) hr (by decide) (L2.pv 0) (pa_cons (L2.pv 1) (pa_cons (pe_tup (pa_cons (C8.pe_gc rfl (gs T.v_PROMISE)) (pa_cons (L2.pv 2) (pa_cons (L2.pv 3) (pa_cons (pe_fld (L2.pv 4) rfl) pa_nil))))) pa_nil))))))))))
      , ?_⟩
    have hrl := h.rl
    have hul := h.d.ul
    obtain ⟨pa, hp, hpT⟩ := h.bal
    obtain ⟨ba, rfl, hbT⟩ := bal_cells hb
    refine ⟨_, rfl, c.p, _, c.pd, _, _, rfl, h.own.get 0 rfl, T.c_Node, T.n_Node_record, rfl, g.r, _, g.rd, _, _, rfl, h.own.get 3 rfl, T.c_Record, T.n_Record_acceptor, rfl, ?_⟩
    refine ⟨_, rfl, g.ac, g.ad, _, rfl, h.own.get 5 rfl, rfl, _, rfl, g.ac, g.ad, pa, ba, g.av, _, _, _, _, rfl, (by have z := h.own.get 5 rfl; rw [hp] at z; exact z), hpT, hbT, fun z => ⟨_, rfl, ?_⟩⟩
    cases z with
    | false =>
      refine t_yes rfl ?_
      refine ⟨_, rfl, _, rfl, _, rfl, _, rfl, c, m, g, us, n, _, _, _, rfl, h, by omega, fun g' H' x' h' => ?_⟩
      exact k g' us H' x' (h'.mono (by omega))
    | true =>
      refine t_no rfl ?_
      refine ⟨_, rfl, _, rfl, c, m, g, us, n, s, rfl, h, fun pat gu H1 x1 h1 => ?_⟩
      have hrow1 := h1.d.rc.row
      refine ⟨_, rfl, c.p, _, c.pd, _, _, rfl, h1.own.get 0 rfl, T.c_Node, T.n_Node_index, rfl, _, rfl, c.p, c.pd, _, rfl, h1.own.get 0 rfl, c, m, _, _, rfl, h1.own, h1.d.fm, hrow1, fun mv H2 s2 hm => ?_⟩
      obtain ⟨h2, x2⟩ := h1.same s2
      obtain ⟨ma, ms, rfl, hmT⟩ := hm
      refine ⟨ma, _, rfl, .inr hmT, rfl, flat_ints ms, _, rfl, ?_⟩
      cases hz : inV (.int (c.ix : Nat)) (ms.map V.int) with
      | false =>
        refine t_yes rfl ?_
        exact k _ us H2 (x1.trans x2) (h2.mono (by omega))
      | true =>
        refine t_no rfl ?_
        have x12 := x1.trans x2
        have hb2 := hb.go x12
        refine ⟨fun σ H3 => σ = [some (.ref c.p), some (.int s), some (.int (g.row.length + 1 : Nat)), some (.ref ba), some (.ref g.ac)] ∧ ∃ g' us', NG K c m g H m g' H3 ∧ NDs K H3 c m g' us' (n + 3) ∧ g'.ac = g.ac, ?_, ?_⟩
        · have hrow : (recOf (us ++ [.pro (g.row.length + 1) r i])).row = (recOf us).row := by rw [recOf_snoc]; rfl
          have stay : NDs K H2 c m { g with pat := pat, gu := gu } us n → ([some (.ref c.p), some (.int s), some (.int (g.row.length + 1 : Nat)), some (.ref ba), some (.ref g.ac)] : L2.St) = [some (.ref c.p), some (.int s), some (.int (g.row.length + 1 : Nat)), some (.ref ba), some (.ref g.ac)] ∧ ∃ g' us', NG K c m g H m g' H2 ∧ NDs K H2 c m g' us' (n + 3) ∧ g'.ac = g.ac := fun z => ⟨rfl, _, us, x12, z.mono (by omega), rfl⟩
          refine ⟨_, rfl, g.ac, _, g.ad, _, _, rfl, h2.own.get 5 rfl, T.c_Acceptor, T.n_Acceptor_promised, rfl, _, rfl, bal (recOf us).pr (recOf us).pi, bal r i, h2.d.rc.pr.dp, hb2.dp, shaped_good (bal_good _ _), shaped_good (bal_good _ _), _, rfl, ?_⟩
          cases hq : PyData.eqv (bal (recOf us).pr (recOf us).pi) (bal r i) with
          | true =>
            refine t_no rfl ?_
            exact stay h2
          | false =>
            refine t_yes rfl ?_
            refine ⟨_, rfl, c.p, c.pd, _, rfl, h2.own.get 0 rfl, rfl, _, rfl, _, rfl, by show 3 ≤ sizeLine; decide, fun q hq => ?_⟩
            obtain ⟨h3, x3⟩ := h2.same (Same.nw (o := .tup [.str "promise", .int (g.row.length + 1 : Nat), .ref ba]) hq)
            refine ⟨c, m, _, us, _, n, .ref q, .pro (g.row.length + 1) r i, rfl, h3, hn, .tup (SqT.of upd_same) (.cons (.str _) (.cons (.int _) (.cons (hb2.go x3) .nil))), ⟨by omega, by omega, hi⟩, by rw [recOf_snoc]; exact hr0, fun rows' row' ac' ad' pv' av' cs' H4 x4 h4 hac => ⟨rfl, ?_⟩⟩
            exact ⟨_, _, (x12.trans x3).trans x4, by rw [NDs, hrow]; exact h4, (hac (fun _ _ z => nomatch z)).1⟩
        · rintro σ H3 ⟨rfl, g', us', x3, h3, eac⟩
          refine ⟨_, rfl, c.p, c.pd, _, rfl, h3.own.get 0 rfl, rfl, _, rfl, _, rfl, _, rfl, _, rfl, g.ac, _, g'.ad, _, _, rfl, (by rw [← eac]; exact h3.own.get 5 rfl), T.c_Acceptor, T.n_Acceptor_accepted, rfl, by show 4 ≤ sizeLine; decide, fun q hq => ?_⟩
          obtain ⟨h4, x4⟩ := h3.same (Same.nw (o := .tup [.str "promise", .int (g.row.length + 1 : Nat), .ref ba, g'.av]) hq)
          exact ⟨c, m, g', us', _, n + 3, .int s, .ref q, rfl, h4, by omega, fun t H5 x5 h5 _ => k _ us' H5 ((x3.trans x4).trans x5) (h5.mono (by omega))⟩
theorem c_hear_tell (T : Txt K mg) : C8.Cal P w K mg base 7 "hear_tell" (spTell K) [] := by
  refine cal T.f_hear_tell T.g_hear_tell (N := (["node", "sender", "slot", "ballot", "entry", "acceptor"] : List Str)) (ps := (["node", "sender", "slot", "ballot", "entry"] : List Str)) (by decide +kernel) (fun _ _ _ _ _ _ us hl => match us, hl with | [_, _, _, _, _], _ => rfl) (fun vs H Q E h => ?_) (fun cdv A outer s H vs Q E hr h => ?_)
  · obtain ⟨_, _, _, _, _, _, _, _, _, _, _, rfl, _⟩ := h; rfl
  · obtain ⟨c, m, g, us, n, s, b, ev, r, i, e, rfl, h, hn, hb, hr0, hi, he, heo, k⟩ := h
    have nd : ((["node", "sender", "slot", "ballot", "entry", "acceptor"] : List Str)).Nodup := by decide +kernel
    refine ⟨_,
      (pss_cons (ps_set (i := 5) nd rfl (by first | exact Or.inl rfl | exact Or.inr rfl) (pe_fld (pe_fld (L2.pv 0) rfl) rfl))
        (pss_cons (ps_if (pt_not (pt_val (C8.pe_mt (c_Acceptor_hears T) hr (by decide) (L2.pv 5) (pa_cons (L2.pv 3) pa_nil)))) (pss_cons (ps_expr (C8.pe_c (c_refuse T) hr (by decide) rfl (pa_cons (L2.pv 0) (pa_cons (L2.pv 1) (pa_cons (L2.pv 2) (pa_cons (L2.pv 3) pa_nil))))))
        (pss_one ps_retN)) pss_nil)
        (pss_cons (ps_expr (C8.pe_c (c_stand_aside T) hr (by decide) rfl (pa_cons (L2.pv 0) (pa_cons (L2.pv 1) pa_nil))))
        (pss_cons (ps_if (pt_cmpR op_notIn_seq (pe_fld (L2.pv 0) rfl) (pe_pr (c_Node_members_now T) hr (by decide) (L2.pv 0)) (by rfl)) (pss_one ps_retN) pss_nil)
        (C8.pss_cut (ps_if (PW.pt (pw_or (pt_cmpR op_isN (pe_fld (L2.pv 5) rfl) pe_non (nomark _)) (pw_or1 (pt_cmpR (op_neD hr.units) (pe_ix ix_tup (pe_fld (L2.pv 5) rfl) pe_int (fun _ _ => rfl)) (L2.pv 3) (nomark _))))) (pss_one (ps_expr (C8.pe_mt (c_Node_note T) hr (by decide) (L2.pv 0) (pa_cons (pe_tup (pa_cons (C8.pe_gc rfl (gs T.v_ACCEPT)) (pa_cons (L2.pv 2) (pa_cons (L2.pv 3) (pa_cons (L2.pv 4) pa_nil))))) pa_nil)))) pss_nil)
        (pss_one (ps_expr (C8.pe_mt (c_Node_post T) hr (by decide) (L2.pv 0) (pa_cons (L2.pv 1) (pa_cons (pe_tup (pa_cons (C8.pe_gc rfl (gs T.v_VOTED)) (pa_cons (L2.pv 2) (pa_cons (L2.pv 3) pa_nil)))) pa_nil))))))))))
      , ?_⟩
    have hrl := h.rl
    have hul := h.d.ul
    obtain ⟨pa, hp, hpT⟩ := h.bal
    obtain ⟨ba, rfl, hbT⟩ := bal_cells hb
    refine ⟨_, rfl, c.p, _, c.pd, _, _, rfl, h.own.get 0 rfl, T.c_Node, T.n_Node_record, rfl, g.r, _, g.rd, _, _, rfl, h.own.get 3 rfl, T.c_Record, T.n_Record_acceptor, rfl, ?_⟩
    refine ⟨_, rfl, g.ac, g.ad, _, rfl, h.own.get 5 rfl, rfl, _, rfl, g.ac, g.ad, pa, ba, g.av, _, _, _, _, rfl, (by have z := h.own.get 5 rfl; rw [hp] at z; exact z), hpT, hbT, fun z => ⟨_, rfl, ?_⟩⟩
    cases z with
    | false =>
      refine t_yes rfl ?_
      refine ⟨_, rfl, _, rfl, _, rfl, _, rfl, c, m, g, us, n, _, _, _, rfl, h, by omega, fun g' H' x' h' => ?_⟩
      exact k g' us H' x' (h'.mono (by omega))
    | true =>
      refine t_no rfl ?_
      refine ⟨_, rfl, _, rfl, c, m, g, us, n, s, rfl, h, fun pat gu H1 x1 h1 => ?_⟩
      have hrow1 := h1.d.rc.row
      refine ⟨_, rfl, c.p, _, c.pd, _, _, rfl, h1.own.get 0 rfl, T.c_Node, T.n_Node_index, rfl, _, rfl, c.p, c.pd, _, rfl, h1.own.get 0 rfl, c, m, _, _, rfl, h1.own, h1.d.fm, hrow1, fun mv H2 s2 hm => ?_⟩
      obtain ⟨h2, x2⟩ := h1.same s2
      obtain ⟨ma, ms, rfl, hmT⟩ := hm
      refine ⟨ma, _, rfl, .inr hmT, rfl, flat_ints ms, _, rfl, ?_⟩
      cases hz : inV (.int (c.ix : Nat)) (ms.map V.int) with
      | false =>
        refine t_yes rfl ?_
        exact k _ us H2 (x1.trans x2) (h2.mono (by omega))
      | true =>
        refine t_no rfl ?_
        have x12 := x1.trans x2
        have hb2 := hb.go x12
        refine ⟨fun σ H3 => σ = [some (.ref c.p), some (.int s), some (.int (g.row.length + 1 : Nat)), some (.ref ba), some ev, some (.ref g.ac)] ∧ ∃ g' us', NG K c m g H m g' H3 ∧ NDs K H3 c m g' us' (n + 3) ∧ g'.ac = g.ac, ?_, ?_⟩
        · have hrow : (recOf (us ++ [.acc (g.row.length + 1) r i e])).row = (recOf us).row := by rw [recOf_snoc]; rfl
          have stay : NDs K H2 c m { g with pat := pat, gu := gu } us n → ([some (.ref c.p), some (.int s), some (.int (g.row.length + 1 : Nat)), some (.ref ba), some ev, some (.ref g.ac)] : L2.St) = [some (.ref c.p), some (.int s), some (.int (g.row.length + 1 : Nat)), some (.ref ba), some ev, some (.ref g.ac)] ∧ ∃ g' us', NG K c m g H m g' H2 ∧ NDs K H2 c m g' us' (n + 3) ∧ g'.ac = g.ac := fun z => ⟨rfl, _, us, x12, z.mono (by omega), rfl⟩
          have he2 := he.go x12
          refine ⟨_, rfl, g.ac, _, g.ad, _, _, rfl, h2.own.get 5 rfl, T.c_Acceptor, T.n_Acceptor_accepted, rfl, rfl, _, rfl, ?_⟩
          rcases h2.acc with ea | ⟨aa, ax, ay, r0, i0, e0, ea, haT, hax, _⟩
          · have ea : g.av = .non := ea
            refine t_yes (decide_eq_true ea) ?_
            refine ⟨_, rfl, c.p, c.pd, _, rfl, h2.own.get 0 rfl, rfl, _, rfl, _, rfl, _, rfl, by show 4 ≤ sizeLine; decide, fun q hq => ?_⟩
            obtain ⟨h3, x3⟩ := h2.same (Same.nw (o := .tup [.str "accept", .int (g.row.length + 1 : Nat), .ref ba, ev]) hq)
            refine ⟨c, m, _, us, _, n, .ref q, .acc (g.row.length + 1) r i e, rfl, h3, hn, .tup (SqT.of upd_same) (.cons (.str _) (.cons (.int _) (.cons (hb2.go x3) (.cons (he2.go x3) .nil)))), ⟨by omega, by omega, hi, heo⟩, by rw [recOf_snoc]; exact hr0, fun rows' row' ac' ad' pv' av' cs' H4 x4 h4 hac => ⟨rfl, ?_⟩⟩
            exact ⟨_, _, (x12.trans x3).trans x4, by rw [NDs, hrow]; exact h4, (hac (fun _ _ z => nomatch z)).1⟩

          · have ea : g.av = .ref aa := ea
            refine t_no (decide_eq_false (by rw [ea]; exact fun z => nomatch z)) ?_
            refine ⟨_, rfl, g.ac, _, g.ad, _, _, rfl, h2.own.get 5 rfl, T.c_Acceptor, T.n_Acceptor_accepted, rfl, aa, _, _, _, ea, rfl, haT, at_of (j := 0) rfl rfl, _, rfl, bal r0 i0, bal r i, hax.dp, hb2.dp, shaped_good (bal_good _ _), shaped_good (bal_good _ _), _, rfl, ?_⟩
            cases hq : PyData.eqv (bal r0 i0) (bal r i) with
            | true =>
              refine t_no rfl ?_
              exact stay h2
            | false =>
              refine t_yes rfl ?_
              refine ⟨_, rfl, c.p, c.pd, _, rfl, h2.own.get 0 rfl, rfl, _, rfl, _, rfl, _, rfl, by show 4 ≤ sizeLine; decide, fun q hq => ?_⟩
              obtain ⟨h3, x3⟩ := h2.same (Same.nw (o := .tup [.str "accept", .int (g.row.length + 1 : Nat), .ref ba, ev]) hq)
              refine ⟨c, m, _, us, _, n, .ref q, .acc (g.row.length + 1) r i e, rfl, h3, hn, .tup (SqT.of upd_same) (.cons (.str _) (.cons (.int _) (.cons (hb2.go x3) (.cons (he2.go x3) .nil)))), ⟨by omega, by omega, hi, heo⟩, by rw [recOf_snoc]; exact hr0, fun rows' row' ac' ad' pv' av' cs' H4 x4 h4 hac => ⟨rfl, ?_⟩⟩
              exact ⟨_, _, (x12.trans x3).trans x4, by rw [NDs, hrow]; exact h4, (hac (fun _ _ z => nomatch z)).1⟩

        · rintro σ H3 ⟨rfl, g', us', x3, h3, eac⟩
          refine ⟨_, rfl, c.p, c.pd, _, rfl, h3.own.get 0 rfl, rfl, _, rfl, _, rfl, _, rfl, by show 3 ≤ sizeLine; decide, fun q hq => ?_⟩
          obtain ⟨h4, x4⟩ := h3.same (Same.nw (o := .tup [.str "voted", .int (g.row.length + 1 : Nat), .ref ba]) hq)
          exact ⟨c, m, g', us', _, n + 3, .int s, .ref q, rfl, h4, by omega, fun t H5 x5 h5 _ => k _ us' H5 ((x3.trans x4).trans x5) (h5.mono (by omega))⟩
end
end Ck
/-! W25 -/
set_option maxHeartbeats 400000
namespace Ck
open PySem PySem.Spec PyProof.Rows L2
inductive Msg where
  | ask (r i : Nat)
  | tell (r i : Nat) (e : Ent)
  | cho (e : Ent)
  | give (e f : Ent)
def Msg.py (s : Nat) : Msg → PyData
  | .ask r i => .tuple [.str "ask", .int (s : Nat), bal r i]
  | .tell r i e => .tuple [.str "tell", .int (s : Nat), bal r i, e.py]
  | .cho e => .tuple [.str "chosen", .int (s : Nat), e.py]
  | .give e f => .tuple [.str "give", .int (s : Nat), .tuple [e.py, f.py]]
def Msg.Ok (n : Nat) : Msg → Prop
  | .ask r i => r ≤ n + 3 ∧ i ≤ 10
  | .tell r i e => r ≤ n + 3 ∧ i ≤ 10 ∧ e.Ok
  | .cho e => e.Ok
  | .give e f => e.Ok ∧ f.Ok
def spGive (K : PySem.W.Frag) : Sp := fun vs H Q _ => ∃ (c : Nc) (m : Nm) (g : Nx) (us : List Upd) (n : Nat) (s f : Int) (t : Addr) (ws : List V) (es : List Ent), vs = [.ref c.p, .int s, .int f, .ref t] ∧ NDs K H c m g us n ∧ n ≤ 880 ∧ SqT K H t ws ∧ Ims K H ws (es.map Ent.py) ∧ (∀ e ∈ es, e.Ok) ∧ es.length ≤ 2 ∧
  ∀ g' us' H', NG K c m g H m g' H' → NDs K H' c m g' us' (n + 10) → Q .non H'
def spHear (K : PySem.W.Frag) : Sp := fun vs H Q _ => ∃ (c : Nc) (m : Nm) (g : Nx) (us : List Upd) (n : Nat) (s : Int) (v : V) (x : Msg), vs = [.ref c.p, .int s, v] ∧ NDs K H c m g us n ∧ n ≤ 880 ∧ Im K H v (x.py (g.row.length + 1)) ∧ x.Ok n ∧
  ∀ g' us' H', NG K c m g H m g' H' → NDs K H' c m g' us' (n + 10) → Q .non H'
def spHearNow (K : PySem.W.Frag) : Sp := fun vs H Q _ => ∃ (c : Nc) (m : Nm) (g : Nx) (us : List Upd) (n : Nat) (s : Int) (v : V) (x : Msg), vs = [.ref c.p, .int s, v] ∧ NDs K H c m g us n ∧ n ≤ 880 ∧ Im K H v (x.py (g.row.length + 1)) ∧ x.Ok n ∧ (∀ e f, x ≠ .give e f) ∧
  ∀ g' us' H', NG K c m g H m g' H' → NDs K H' c m g' us' (n + 10) → Q .non H'
section
variable {P : Program} {w : World} {K : PySem.W.Frag} {mg : Str → Option Value} {base : Heap}
theorem c_hear_give (T : Txt K mg) : C8.Cal P w K mg base 7 "hear_give" (spGive K) [] := by
  refine cal T.f_hear_give T.g_hear_give (N := (["node", "sender", "first", "entries", "before", "place", "entry"] : List Str)) (ps := (["node", "sender", "first", "entries"] : List Str)) (by decide +kernel) (fun _ _ _ _ _ _ us hl => match us, hl with | [_, _, _, _], _ => rfl) (fun vs H Q E h => ?_) (fun cdv A outer s H vs Q E hr h => ?_)
  · obtain ⟨_, _, _, _, _, _, _, _, _, _, rfl, _⟩ := h; rfl
  · obtain ⟨c, m, g, us, n, s, f, t, ws, es, rfl, h, hn, hT, hW, hE, hl, k⟩ := h
    have nd : ((["node", "sender", "first", "entries", "before", "place", "entry"] : List Str)).Nodup := by decide +kernel
    refine ⟨_,
      (pss_cons (ps_set (i := 4) nd rfl (by first | exact Or.inl rfl | exact Or.inr rfl) (pe_pr (c_Node_upto T) hr (by decide) (L2.pv 0)))
        (pss_cons (ps_for PassesOwn.never rfl (pi_enumT (by rfl) T.b_enumerate (pa_cons (L2.pv 3) pa_nil)) (pg_tup (by rfl) (pgs_cons (pg_name (i := 5) nd rfl (by first | exact Or.inl rfl | exact Or.inr rfl)) (pgs_cons (pg_name (i := 6) nd rfl (by first | exact Or.inl rfl | exact Or.inr rfl)) pgs_nil))) (pss_one (ps_if (pt_cmpR op_eq (pe_op op_add (L2.pv 2) (L2.pv 5)) (pe_op op_add (pe_pr (c_Node_upto T) hr (by decide) (L2.pv 0)) pe_int) (nomark _)) (pss_one (ps_expr (C8.pe_mt (c_Node_learn T) hr (by decide) (L2.pv 0) (pa_cons (L2.pv 6) (pa_cons pe_bl pa_nil))))) pss_nil)))
        (pss_one (ps_if (PW.pt (pw_and (pt_cmpR op_gt (pe_pr (c_Node_upto T) hr (by decide) (L2.pv 0)) (L2.pv 4) (nomark _)) (pw_and1 (pt_cmpR op_eq (pe_callB call_len_seq (by rfl) T.b_len PySem.boot_len (pa_cons (L2.pv 3) pa_nil)) (C8.pe_gc rfl (gi T.v_MOST_GIVEN)) (nomark _))))) pss_never pss_nil))))
      , ?_⟩
    have hwl := hW.length
    rw [List.length_map] at hwl
    refine ⟨_, rfl, c.p, c.pd, _, rfl, h.own.get 0 rfl, c, m, g, rfl, h.own, ?_⟩
    refine ⟨_, rfl, t, ws, rfl, hT, for_it (walk_enT (xs := ws)) (fun i σ H' => ∃ g' us' v5 v6, σ = [some (.ref c.p), some (.int s), some (.int f), some (.ref t), some (.int g.row.length), v5, v6] ∧ NG K c m g H m g' H' ∧ NDs K H' c m g' us' (n + 3 * i))
      ⟨g, us, none, none, rfl, Go.refl H, h⟩ (fun i σ H' _ z => ?_) ?_ ?_⟩
    · obtain ⟨_, _, _, _, _, x', _⟩ := z
      exact sqT_go x' hT
    · rintro i x σ H1 H1' hi ⟨g', us', v5, v6, rfl, x1, h1⟩ ⟨T, x, y, rfl, nT, rfl, hx, hy⟩
      obtain rfl : V.int (i : Nat) = x := Option.some.inj hx
      obtain ⟨h2, x2⟩ := h1.same (Same.nw (o := .tup [.int (i : Nat), y]) nT)
      refine ⟨T, _, rfl, SqT.of upd_same, rfl, _, _, rfl, _, _, rfl, rfl, ?_⟩
      refine ⟨_, rfl, _, rfl, _, _, rfl, rfl, _, rfl, c.p, c.pd, _, rfl, h2.own.get 0 rfl, c, m, g', rfl, h2.own, _, _, rfl, rfl, rfl, _, rfl, ?_⟩
      obtain ⟨d, hd, hyi⟩ := hW.of hy
      obtain ⟨e, he, rfl⟩ := map_at hd
      by_cases hq : decide (V.int (f + (i : Nat)) = V.int ((g'.row.length : Nat) + 1)) = true
      · refine t_yes hq ?_
        refine ⟨_, rfl, c.p, c.pd, _, rfl, h2.own.get 0 rfl, rfl, _, rfl, c, m, g', us', n + 3 * i, y, e, rfl, h2, by omega, hyi.go (x1.trans x2), hE e (List.mem_of_getElem? he), fun g3 us3 H3 x3 h3 => ?_⟩
        exact ⟨g3, us3, _, _, rfl, (x1.trans x2).trans x3, h3⟩
      · refine t_no (by simpa using hq) ?_
        exact ⟨g', us', _, _, rfl, x1.trans x2, h2.mono (by omega)⟩
    · rintro σ H1 ⟨g', us', v5, v6, rfl, x1, h1⟩
      refine ⟨_, rfl, c.p, c.pd, _, rfl, h1.own.get 0 rfl, c, m, g', rfl, h1.own, _, rfl, _, _, rfl, rfl, _, rfl, ?_⟩
      have fin : Q .non H1 := k g' us' H1 x1 (h1.mono (by omega))
      by_cases hq : decide (((g.row.length : Nat) : Int) < ((g'.row.length : Nat) : Int)) = true
      · refine t_yes hq ?_
        refine ⟨_, rfl, t, _, rfl, .inr (sqT_go x1 hT), rfl, _, rfl, ?_⟩
        refine t_no (decide_eq_false fun z => ?_) fin
        injection z with z
        omega
      · refine t_no (by simpa using hq) fin
theorem c_hear_now (T : Txt K mg) : C8.Cal P w K mg base 8 "hear_now" (spHearNow K) [] := by
  refine cal T.f_hear_now T.g_hear_now (N := (["node", "sender", "body"] : List Str)) (ps := (["node", "sender", "body"] : List Str)) (by decide +kernel) (fun _ _ _ _ _ _ us hl => match us, hl with | [_, _, _], _ => rfl) (fun vs H Q E h => ?_) (fun cdv A outer s H vs Q E hr h => ?_)
  · obtain ⟨_, _, _, _, _, _, _, _, rfl, _⟩ := h; rfl
  · obtain ⟨c, m, g, us, n, s, v, x, rfl, h, hn, hv, hx, hng, k⟩ := h
    refine ⟨_,
      (pss_one (ps_if (pt_cmpR op_eq (pe_ix ix_tup (L2.pv 2) pe_int (fun _ _ => rfl)) (C8.pe_gc rfl (gs T.v_ASK)) (nomark _)) (pss_one (ps_expr (C8.pe_c (c_hear_ask T) hr (by decide) rfl (pa_cons (L2.pv 0) (pa_cons (L2.pv 1) (pa_cons (pe_ix ix_tup (L2.pv 2) pe_int (fun _ _ => rfl)) (pa_cons (pe_ix ix_tup (L2.pv 2) pe_int (fun _ _ => rfl)) pa_nil))))))) (pss_one (ps_if (pt_cmpR op_eq (pe_ix ix_tup (L2.pv 2) pe_int (fun _ _ => rfl)) (C8.pe_gc rfl (gs T.v_TELL)) (nomark _)) (pss_one (ps_expr (C8.pe_c (c_hear_tell T) hr (by decide) rfl (pa_cons (L2.pv 0) (pa_cons (L2.pv 1) (pa_cons (pe_ix ix_tup (L2.pv 2) pe_int (fun _ _ => rfl)) (pa_cons (pe_ix ix_tup (L2.pv 2) pe_int (fun _ _ => rfl)) (pa_cons (pe_ix ix_tup (L2.pv 2) pe_int (fun _ _ => rfl)) pa_nil)))))))) (pss_one (ps_if (pt_cmpR op_eq (pe_ix ix_tup (L2.pv 2) pe_int (fun _ _ => rfl)) (C8.pe_gc rfl (gs T.v_PROMISE)) (nomark _)) pss_never (pss_one (ps_if (pt_cmpR op_eq (pe_ix ix_tup (L2.pv 2) pe_int (fun _ _ => rfl)) (C8.pe_gc rfl (gs T.v_VOTED)) (nomark _)) pss_never (pss_one (ps_if (pt_cmpR op_eq (pe_ix ix_tup (L2.pv 2) pe_int (fun _ _ => rfl)) (C8.pe_gc rfl (gs T.v_REFUSE)) (nomark _)) pss_never (pss_one (ps_expr (C8.pe_mt (c_Node_learn T) hr (by decide) (L2.pv 0) (pa_cons (pe_ix ix_tup (L2.pv 2) pe_int (fun _ _ => rfl)) (pa_cons pe_bl pa_nil)))))))))))))))
      , ?_⟩
    cases x with
    | ask r i =>
      obtain ⟨a, xs, rfl, hT, hU⟩ := hv.tuple
      obtain ⟨v0, e0, i0⟩ := hU.at_ (i := 0) rfl
      obtain ⟨v1, e1, i1⟩ := hU.at_ (i := 1) rfl
      obtain ⟨v2, e2, i2⟩ := hU.at_ (i := 2) rfl
      cases i0.strE
      cases i1.intE
      refine ⟨_, rfl, a, _, _, _, rfl, rfl, hT, at_of (j := 0) rfl e0, rfl, _, rfl, ?_⟩
      refine t_yes (decide_eq_true rfl) ?_
      exact ⟨_, rfl, _, rfl, _, rfl, a, _, _, _, rfl, rfl, hT, at_of (j := 1) rfl e1, _, rfl, a, _, _, _, rfl, rfl, hT, at_of (j := 2) rfl e2, c, m, g, us, n, s, v2, r, i, rfl, h, by omega, i2, hx.1, hx.2, k⟩
    | tell r i e =>
      obtain ⟨a, xs, rfl, hT, hU⟩ := hv.tuple
      obtain ⟨v0, e0, i0⟩ := hU.at_ (i := 0) rfl
      obtain ⟨v1, e1, i1⟩ := hU.at_ (i := 1) rfl
      obtain ⟨v2, e2, i2⟩ := hU.at_ (i := 2) rfl
      obtain ⟨v3, e3, i3⟩ := hU.at_ (i := 3) rfl
      cases i0.strE
      cases i1.intE
      refine ⟨_, rfl, a, _, _, _, rfl, rfl, hT, at_of (j := 0) rfl e0, rfl, _, rfl, ?_⟩
      refine t_no (str_ne (by decide +kernel)) ?_
      refine ⟨_, rfl, a, _, _, _, rfl, rfl, hT, at_of (j := 0) rfl e0, rfl, _, rfl, ?_⟩
      refine t_yes (decide_eq_true rfl) ?_
      exact ⟨_, rfl, _, rfl, _, rfl, a, _, _, _, rfl, rfl, hT, at_of (j := 1) rfl e1, _, rfl, a, _, _, _, rfl, rfl, hT, at_of (j := 2) rfl e2, _, rfl, a, _, _, _, rfl, rfl, hT, at_of (j := 3) rfl e3, c, m, g, us, n, s, v2, v3, r, i, e, rfl, h, by omega, i2, hx.1, hx.2.1, i3, hx.2.2, k⟩
    | cho e =>
      obtain ⟨a, xs, rfl, hT, hU⟩ := hv.tuple
      obtain ⟨v0, e0, i0⟩ := hU.at_ (i := 0) rfl
      obtain ⟨v1, e1, i1⟩ := hU.at_ (i := 1) rfl
      obtain ⟨v2, e2, i2⟩ := hU.at_ (i := 2) rfl
      cases i0.strE
      cases i1.intE
      refine ⟨_, rfl, a, _, _, _, rfl, rfl, hT, at_of (j := 0) rfl e0, rfl, _, rfl, ?_⟩
      refine t_no (str_ne (by decide +kernel)) ?_
      refine ⟨_, rfl, a, _, _, _, rfl, rfl, hT, at_of (j := 0) rfl e0, rfl, _, rfl, ?_⟩
      refine t_no (str_ne (by decide +kernel)) ?_
      refine ⟨_, rfl, a, _, _, _, rfl, rfl, hT, at_of (j := 0) rfl e0, rfl, _, rfl, ?_⟩
      refine t_no (str_ne (by decide +kernel)) ?_
      refine ⟨_, rfl, a, _, _, _, rfl, rfl, hT, at_of (j := 0) rfl e0, rfl, _, rfl, ?_⟩
      refine t_no (str_ne (by decide +kernel)) ?_
      refine ⟨_, rfl, a, _, _, _, rfl, rfl, hT, at_of (j := 0) rfl e0, rfl, _, rfl, ?_⟩
      refine t_no (str_ne (by decide +kernel)) ?_
      refine ⟨_, rfl, c.p, c.pd, _, rfl, h.own.get 0 rfl, rfl, _, rfl, a, _, _, _, rfl, rfl, hT, at_of (j := 2) rfl e2, c, m, g, us, n, v2, e, rfl, h, by omega, i2, hx, fun g' us' H' x' h' => ?_⟩
      exact k g' us' H' x' (h'.mono (by omega))
    | give e f => exact absurd rfl (hng e f)
theorem msg_cells {K : PySem.W.Frag} {H : Hp} {v : V} {s : Nat} {x : Msg} (h : Im K H v (x.py s)) : ∃ (a : Addr) (xs : List V) (k : Str), v = .ref a ∧ SqT K H a xs ∧ xs[0]? = some (.str k) ∧ xs[1]? = some (.int (s : Nat)) ∧ (k = "ask" ∨ k = "tell" ∨ k = "chosen" ∨ k = "give") ∧ (k ≠ "give" → ∀ e f, x ≠ .give e f) ∧ (k = "give" → ∃ e f, x = .give e f) := by
  have key : ∀ (k : Str) l, Im K H v (.tuple (.str k :: .int (s : Nat) :: l)) → ∃ a xs, v = .ref a ∧ SqT K H a xs ∧ xs[0]? = some (.str k) ∧ xs[1]? = some (.int (s : Nat)) := fun k l h => by
    obtain ⟨a, xs, rfl, hT, hU⟩ := h.tuple
    obtain ⟨v0, e0, i0⟩ := hU.at_ (i := 0) rfl
    obtain ⟨v1, e1, i1⟩ := hU.at_ (i := 1) rfl
    rw [i0.strE] at e0
    rw [i1.intE] at e1
    exact ⟨a, xs, rfl, hT, e0, e1⟩
  cases x with
  | ask r i =>
    obtain ⟨a, xs, h1, h2, h3, h4⟩ := key _ _ h
    exact ⟨a, xs, _, h1, h2, h3, h4, .inl rfl, (fun _ _ _ z => nomatch z), fun z => absurd z (by decide +kernel)⟩
  | tell r i e =>
    obtain ⟨a, xs, h1, h2, h3, h4⟩ := key _ _ h
    exact ⟨a, xs, _, h1, h2, h3, h4, .inr (.inl rfl), (fun _ _ _ z => nomatch z), fun z => absurd z (by decide +kernel)⟩
  | cho e =>
    obtain ⟨a, xs, h1, h2, h3, h4⟩ := key _ _ h
    exact ⟨a, xs, _, h1, h2, h3, h4, .inr (.inr (.inl rfl)), (fun _ _ _ z => nomatch z), fun z => absurd z (by decide +kernel)⟩
  | give e f =>
    obtain ⟨a, xs, h1, h2, h3, h4⟩ := key _ _ h
    exact ⟨a, xs, _, h1, h2, h3, h4, .inr (.inr (.inr rfl)), (fun z => absurd rfl z), fun _ => ⟨e, f, rfl⟩⟩
theorem c_hear (T : Txt K mg) : C8.Cal P w K mg base 9 "hear" (spHear K) [] := by
  refine cal T.f_hear T.g_hear (N := (["node", "sender", "body"] : List Str)) (ps := (["node", "sender", "body"] : List Str)) (by decide +kernel) (fun _ _ _ _ _ _ us hl => match us, hl with | [_, _, _], _ => rfl) (fun vs H Q E h => ?_) (fun cdv A outer s H vs Q E hr h => ?_)
  · obtain ⟨_, _, _, _, _, _, _, _, rfl, _⟩ := h; rfl
  · obtain ⟨c, m, g, us, n, s, v, x, rfl, h, hn, hv, hx, k⟩ := h
    refine ⟨_,
      (pss_one (ps_if (pt_cmpR op_eq (pe_ix ix_tup (L2.pv 2) pe_int (fun _ _ => rfl)) (C8.pe_gc rfl (gs T.v_GIVE)) (nomark _)) (pss_one (ps_expr (C8.pe_c (c_hear_give T) hr (by decide) rfl (pa_cons (L2.pv 0) (pa_cons (L2.pv 1) (pa_cons (pe_ix ix_tup (L2.pv 2) pe_int (fun _ _ => rfl)) (pa_cons (pe_ix ix_tup (L2.pv 2) pe_int (fun _ _ => rfl)) pa_nil))))))) (pss_one (ps_if (pt_cmpR op_eq (pe_ix ix_tup (L2.pv 2) pe_int (fun _ _ => rfl)) (C8.pe_gc rfl (gs T.v_FETCH)) (nomark _)) pss_never (pss_one (ps_if (pt_cmpR op_eq (pe_ix ix_tup (L2.pv 2) pe_int (fun _ _ => rfl)) (pe_op op_add (pe_pr (c_Node_upto T) hr (by decide) (L2.pv 0)) pe_int) (nomark _)) (pss_one (ps_expr (C8.pe_c (c_hear_now T) hr (by decide) rfl (pa_cons (L2.pv 0) (pa_cons (L2.pv 1) (pa_cons (L2.pv 2) pa_nil)))))) pss_never))))))
      , ?_⟩
    obtain ⟨a, xs, kd, rfl, hT, e0, e1, hk, hng, hgg⟩ := msg_cells hv
    refine ⟨_, rfl, a, _, _, _, rfl, rfl, hT, at_of (j := 0) rfl e0, rfl, _, rfl, ?_⟩
    by_cases hgv : kd = "give"
    · refine t_yes (decide_eq_true (by rw [hgv])) ?_
      obtain ⟨e, f, rfl⟩ := hgg hgv
      obtain ⟨b, ys, eb, hT', hU'⟩ := hv.tuple
      cases eb
      obtain ⟨v2, e2, i2⟩ := hU'.at_ (i := 2) rfl
      obtain ⟨v1, e1', i1⟩ := hU'.at_ (i := 1) rfl
      cases i1.intE
      obtain ⟨t, ws, rfl, hT2, hW2⟩ := i2.tuple
      exact ⟨_, rfl, _, rfl, _, rfl, a, _, _, _, rfl, rfl, hT', at_of (j := 1) rfl e1', _, rfl, a, _, _, _, rfl, rfl, hT', at_of (j := 2) rfl e2, c, m, g, us, n, s, _, t, ws, [e, f], rfl, h, hn, hT2, hW2, (fun z hz => by
        simp only [List.mem_cons, List.not_mem_nil, or_false] at hz
        rcases hz with rfl | rfl
        · exact hx.1
        · exact hx.2), Nat.le_refl _, k⟩
    · refine t_no (str_ne hgv) ?_
      refine ⟨_, rfl, a, _, _, _, rfl, rfl, hT, at_of (j := 0) rfl e0, rfl, _, rfl, ?_⟩
      refine t_no (str_ne ?_) ?_
      · rcases hk with rfl | rfl | rfl | rfl <;> decide +kernel
      · refine ⟨_, rfl, a, _, _, _, rfl, rfl, hT, at_of (j := 1) rfl e1, _, rfl, c.p, c.pd, _, rfl, h.own.get 0 rfl, c, m, g, rfl, h.own, _, _, rfl, rfl, rfl, _, rfl, ?_⟩
        refine t_yes (decide_eq_true rfl) ?_
        exact ⟨_, rfl, _, rfl, _, rfl, c, m, g, us, n, s, .ref a, x, rfl, h, hn, hv, hx, hng hgv, k⟩
theorem c_Node_receive (T : Txt K mg) : C8.Met P w K mg base 10 (CN K) "receive" (spHear K) [] := by
  refine met T.c_Node T.m_Node_receive T.f_Node_receive (N := (["self", "sender", "body"] : List Str)) (ps := (["self", "sender", "body"] : List Str)) (by decide +kernel) (fun _ _ _ _ _ _ us hl => match us, hl with | [_, _, _], _ => rfl) (fun vs H Q E h => ?_) (fun cdv A outer s H vs Q E hr h => ?_)
  · obtain ⟨_, _, _, _, _, _, _, _, rfl, _⟩ := h; rfl
  · obtain ⟨c, m, g, us, n, s, v, x, rfl, h, hn, hv, hx, k⟩ := h
    refine ⟨_,
      (pss_cons (ps_expr (C8.pe_c (c_hear T) hr (by decide) rfl (pa_cons (L2.pv 0) (pa_cons (L2.pv 1) (pa_cons (L2.pv 2) pa_nil)))))
        (pss_one (ps_expr (C8.pe_mt0 (c_Node_end_step T) hr (by decide) (L2.pv 0)))))
      , ?_⟩
    refine ⟨_, rfl, _, rfl, _, rfl, c, m, g, us, n, s, v, x, rfl, h, hn, hv, hx, fun g' us' H' x' h' => ?_⟩
    exact ⟨_, rfl, c.p, c.pd, _, rfl, h'.own.get 0 rfl, rfl, c, m, g', rfl, h'.own, k g' us' H' x' h'⟩
end
end Ck
/-! W26 -/
set_option maxHeartbeats 400000
namespace Ck
open PySem PySem.Spec PyProof.Rows L2
/-! ### the law's rows and draws -/
def spRow (K : PySem.W.Frag) : Sp := fun vs H Q _ => ∃ (a : Addr) (ns : List Int) (k : Nat), vs = [.ref a, .int (k : Nat)] ∧ SqL K H a (ns.map V.int) ∧ ∀ i : Int, Q (.int i) H
/-- a draw from a box: it is below n, the box is drawn down -/
def spTake (K : PySem.W.Frag) : Sp := fun vs H Q _ => ∃ (b : Addr) (i : Int) (n : Nat), vs = [.ref b, .int (n : Nat)] ∧ H b = some (.lst [.int i]) ∧ 0 < n ∧ n < 1073741824 ∧ ∀ (d : Nat) (j : Int), d < n → Q (.int (d : Nat)) (upd H b (.lst [.int j]))
section
variable {P : Program} {w : World} {K : PySem.W.Frag} {mg : Str → Option Value} {base : Heap}
theorem t_any {b : Bool} {A B : Prop} (x : A) (y : B) : if b = true then A else B := by
  cases b
  · exact y
  · exact x
theorem c_law_row (T : Txt K mg) : C8.Cal P w K mg base 1 "_law_row" (spRow K) [] := by
  refine cal T.f_law_row T.g_law_row (N := (["_law_script", "_law_k", "_law_cell", "_law_first", "_law_second"] : List Str)) (ps := (["_law_script", "_law_k"] : List Str)) (by decide +kernel) (fun _ _ _ _ _ _ us hl => match us, hl with | [_, _], _ => rfl) (fun vs H Q E h => ?_) (fun cdv A outer s H vs Q E hr h => ?_)
  · obtain ⟨_, _, _, rfl, _⟩ := h; rfl
  · obtain ⟨a, ns, k, rfl, hT, q⟩ := h
    have nd : ((["_law_script", "_law_k", "_law_cell", "_law_first", "_law_second"] : List Str)).Nodup := by decide +kernel
    refine ⟨_,
      (pss_cons (ps_set (i := 2) nd rfl (by first | exact Or.inl rfl | exact Or.inr rfl) pe_int)
        (C8.pss_cut (ps_if (pt_cmpR op_gt (pe_callB call_len_seq (by rfl) T.b_len PySem.boot_len (pa_cons (L2.pv 0) pa_nil)) pe_int (nomark _)) (pss_one (ps_set (i := 2) nd rfl (by first | exact Or.inl rfl | exact Or.inr rfl) (pe_ix ix_list (L2.pv 0) (pe_op op_mod (pe_callTy call_int1 (by rfl) T.b_int bt_int (pa_cons (L2.pv 1) pa_nil)) (pe_callB call_len_seq (by rfl) T.b_len PySem.boot_len (pa_cons (L2.pv 0) pa_nil))) (fun _ _ => rfl)))) pss_nil)
        (C8.pss_cut (ps_if (pt_cmpR op_lt (L2.pv 2) pe_int (nomark _)) (pss_one (ps_set (i := 2) nd rfl (by first | exact Or.inl rfl | exact Or.inr rfl) (pe_op op_sub pe_int (pe_op op_mul pe_int (L2.pv 2))))) pss_nil)
        (C8.pss_cut (ps_if (PW.pt (pw_and (pt_cmpR op_ge (L2.pv 2) (pe_op op_pow pe_int pe_int) (nomark _)) (pw_and1 (pt_cmpR op_lt (L2.pv 1) (pe_callB call_len_seq (by rfl) T.b_len PySem.boot_len (pa_cons (L2.pv 0) pa_nil)) (nomark _))))) (pss_one (ps_ret (L2.pv 2))) pss_nil)
        (pss_cons (ps_set (i := 3) nd rfl (by first | exact Or.inl rfl | exact Or.inr rfl) (pe_op op_mod (pe_callTy call_int1 (by rfl) T.b_int bt_int (pa_cons (pe_op op_add (pe_op op_add (pe_op op_mul (L2.pv 2) pe_int) (pe_op op_mul (pe_op op_add (L2.pv 1) pe_int) pe_int)) (pe_callB call_len_seq (by rfl) T.b_len PySem.boot_len (pa_cons (L2.pv 0) pa_nil))) pa_nil)) pe_int))
        (pss_cons (ps_set (i := 4) nd rfl (by first | exact Or.inl rfl | exact Or.inr rfl) (pe_op op_mod (pe_callTy call_int1 (by rfl) T.b_int bt_int (pa_cons (pe_op op_add (pe_op op_add (pe_op op_mul (L2.pv 3) (L2.pv 3)) (pe_op op_mul (L2.pv 2) pe_int)) (L2.pv 1)) pa_nil)) pe_int))
        (pss_one (ps_ret (pe_op op_add (pe_op op_mul (L2.pv 4) pe_int) (pe_op op_mod (pe_callTy call_int1 (by rfl) T.b_int bt_int (pa_cons (pe_op op_mul (L2.pv 3) pe_int) pa_nil)) pe_int))))))))))
      , ?_⟩
    have pos : 0 < ns.length → ∃ j : Nat, j < ns.length ∧ ((k : Nat) : Int) % (((ns.map V.int).length : Nat) : Int) = (j : Nat) := fun h => ⟨k % ns.length, Nat.mod_lt _ h, by rw [List.length_map]; omega⟩
    refine ⟨fun σ H' => H' = H ∧ ∃ i : Int, σ = [some (.ref a), some (.int (k : Nat)), some (.int i), none, none], ?_, ?_⟩
    · refine ⟨_, rfl, a, _, rfl, .inl hT, _, _, rfl, rfl, _, rfl, ?_⟩
      by_cases h : 0 < ns.length
      · refine t_yes (decide_eq_true (by rw [List.length_map]; omega)) ?_
        obtain ⟨j, hj, ej⟩ := pos h
        refine ⟨_, rfl, _, rfl, .inl ⟨_, rfl, _, rfl, a, _, rfl, .inl hT, _, _, rfl, rfl, (by rw [List.length_map]; omega), a, _, _, _, rfl, rfl, hT, at_of (j := j) ej (by rw [List.getElem?_map, List.getElem?_eq_getElem hj]; rfl), ?_⟩⟩
        exact ⟨rfl, _, rfl⟩
      · refine t_no (decide_eq_false (by rw [List.length_map]; omega)) ?_
        exact ⟨rfl, _, rfl⟩
    · rintro σ H' ⟨rfl, i, rfl⟩
      refine ⟨fun σ H2 => H2 = H' ∧ ∃ i : Int, σ = [some (.ref a), some (.int (k : Nat)), some (.int i), none, none], ?_, ?_⟩
      · refine ⟨_, rfl, _, _, rfl, rfl, _, rfl, ?_⟩
        by_cases h : i < 0
        · refine t_yes (decide_eq_true h) ?_
          exact ⟨_, rfl, _, _, rfl, rfl, .inl ⟨by decide, by decide⟩, _, _, rfl, rfl, rfl, _, rfl⟩
        · exact t_no (decide_eq_false h) ⟨rfl, _, rfl⟩
      · rintro σ H2 ⟨rfl, i, rfl⟩
        refine ⟨fun σ H3 => H3 = H2 ∧ σ = [some (.ref a), some (.int (k : Nat)), some (.int i), none, none], ?_, ?_⟩
        · refine ⟨_, rfl, _, _, rfl, rfl, ⟨by decide, by decide, by decide⟩, _, _, rfl, rfl, _, rfl, ?_⟩
          refine t_any ?_ ⟨rfl, rfl⟩
          refine ⟨_, rfl, _, rfl, a, _, rfl, .inl hT, _, _, rfl, rfl, _, rfl, ?_⟩
          exact t_any ⟨_, rfl, q _⟩ ⟨rfl, rfl⟩
        · rintro σ H3 ⟨rfl, rfl⟩
          refine ⟨_, rfl, _, _, rfl, rfl, .inr ⟨by decide, by decide⟩, _, rfl, _, _, rfl, rfl, _, _, rfl, rfl, .inr ⟨by decide, by decide⟩, _, _, rfl, rfl, _, rfl, a, _, rfl, .inl hT, _, _, rfl, rfl, .inl ⟨_, rfl, _, _, rfl, rfl, (by show (0 : Int) < _; decide), ?_⟩⟩
          have e0 := Int.emod_nonneg (i * 48271 + ((k : Nat) + 1) * 69621 + ((ns.map V.int).length : Nat)) (b := 2147483647) (by decide)
          have e1 := Int.emod_lt_of_pos (i * 48271 + ((k : Nat) + 1) * 69621 + ((ns.map V.int).length : Nat)) (b := 2147483647) (by decide)
          refine ⟨_, rfl, _, rfl, _, _, rfl, rfl, .inl ⟨by omega, by omega⟩, _, rfl, _, _, rfl, rfl, .inr ⟨by decide, by decide⟩, _, _, rfl, rfl, _, rfl, _, _, rfl, rfl, .inl ⟨_, rfl, _, _, rfl, rfl, (by show (0 : Int) < _; decide), ?_⟩⟩
          refine ⟨_, rfl, _, _, rfl, rfl, .inr ⟨by decide, by decide⟩, _, rfl, _, _, rfl, rfl, .inr ⟨by decide, by decide⟩, .inl ⟨_, rfl, _, _, rfl, rfl, (by show (0 : Int) < _; decide), _, _, rfl, rfl, q _⟩⟩
theorem c_law_take (T : Txt K mg) : C8.Cal P w K mg base 1 "_law_take" (spTake K) [] := by
  refine cal T.f_law_take T.g_law_take (N := (["_law_box", "_law_size", "_law_digit"] : List Str)) (ps := (["_law_box", "_law_size"] : List Str)) (by decide +kernel) (fun _ _ _ _ _ _ us hl => match us, hl with | [_, _], _ => rfl) (fun vs H Q E h => ?_) (fun cdv A outer s H vs Q E hr h => ?_)
  · obtain ⟨_, _, _, rfl, _⟩ := h; rfl
  · obtain ⟨b, i, n, rfl, hb, n0, n1, k⟩ := h
    have nd : ((["_law_box", "_law_size", "_law_digit"] : List Str)).Nodup := by decide +kernel
    refine ⟨_,
      (pss_cons (ps_set (i := 2) nd rfl (by first | exact Or.inl rfl | exact Or.inr rfl) (pe_op op_mod (pe_callTy call_int1 (by rfl) T.b_int bt_int (pa_cons (pe_ix ix_list (L2.pv 0) pe_int (fun _ _ => rfl)) pa_nil)) (L2.pv 1)))
        (pss_cons (ps_asg (pe_op op_fdiv (pe_ix ix_list (L2.pv 0) pe_int (fun _ _ => rfl)) (L2.pv 1)) (pg_sub (L2.pv 0) pe_int set_list))
        (pss_one (ps_ret (L2.pv 2)))))
      , ?_⟩
    refine ⟨_, rfl, b, _, _, _, rfl, rfl, SqL.of hb, at_of (j := 0) rfl rfl, .inl ⟨_, rfl, _, rfl, _, _, rfl, rfl, by omega, ?_⟩⟩
    refine ⟨_, rfl, b, _, _, _, rfl, rfl, SqL.of hb, at_of (j := 0) rfl rfl, _, rfl, _, _, rfl, rfl, ⟨by omega, by omega⟩, ?_⟩
    have e0 := Int.emod_nonneg i (b := (n : Int)) (by omega)
    have e1 := Int.emod_lt_of_pos i (b := (n : Int)) (by omega)
    obtain ⟨d, hd⟩ := Int.eq_ofNat_of_zero_le e0
    refine ⟨_, rfl, b, _, _, 0, rfl, rfl, hb, rfl, ?_⟩
    refine ⟨_, rfl, ?_⟩
    have := k d (i / n) (by omega)
    rw [← hd] at this
    exact this
end
end Ck
/-! W27 -/
set_option maxHeartbeats 400000
namespace Ck
open PySem PySem.Spec PyProof.Rows L2
/-! ### the law's own state and lines -/
def spState (K : PySem.W.Frag) : Sp := fun vs H Q _ => ∃ (a : Addr) (us : List V) (ups : List Upd), vs = [.ref a] ∧ SqL K H a us ∧ Ims K H us (ups.map Upd.py) ∧ ups.length ≤ 1000 ∧
  ∀ L D row pv av H', H L = none → H D = none → Same H H' → H' L = some (.lst [.ref D, pv, av]) → H' D = some (.lst row) → RcD K H' row pv av (recOf ups) → Q (.ref L) H'
def spLines (K : PySem.W.Frag) : Sp := fun vs H Q _ => ∃ (a : Addr) (row : List V) (es : List Ent), vs = [.ref a] ∧ SqL K H a row ∧ Ims K H row (es.map Ent.py) ∧ (∀ e ∈ es, e.Ok) ∧ es.length ≤ 1000 ∧
  ∀ L ls H', Same H H' → H' L = some (.lst ls) → Ims K H' ls (linesOf es) → Q (.ref L) H'
section
variable {P : Program} {w : World} {K : PySem.W.Frag} {mg : Str → Option Value} {base : Heap}
theorem c_law_state (T : Txt K mg) : C8.Cal P w K mg base 1 "_law_state" (spState K) [] := by
  refine cal T.f_law_state T.g_law_state (N := (["_law_updates", "_law_row_here", "_law_promised", "_law_accepted", "_law_update"] : List Str)) (ps := (["_law_updates"] : List Str)) (by decide +kernel) (fun _ _ _ _ _ _ us hl => match us, hl with | [_], _ => rfl) (fun vs H Q E h => ?_) (fun cdv A outer s H vs Q E hr h => ?_)
  · obtain ⟨_, _, _, rfl, _⟩ := h; rfl
  · obtain ⟨a, us, ups, rfl, hA, hU, h1000, k⟩ := h
    have nd : ((["_law_updates", "_law_row_here", "_law_promised", "_law_accepted", "_law_update"] : List Str)).Nodup := by decide +kernel
    refine ⟨_,
      (pss_cons (ps_set (i := 1) nd rfl (by first | exact Or.inl rfl | exact Or.inr rfl) (pe_lst pa_nil))
        (pss_cons (ps_set (i := 2) nd rfl (by first | exact Or.inl rfl | exact Or.inr rfl) (pe_tup (pa_cons pe_int (pa_cons pe_int pa_nil))))
        (pss_cons (ps_set (i := 3) nd rfl (by first | exact Or.inl rfl | exact Or.inr rfl) pe_non)
        (pss_cons (ps_for PassesOwn.never rfl (pi_list (L2.pv 0)) (pg_name (i := 4) nd rfl (by first | exact Or.inl rfl | exact Or.inr rfl)) (pss_one (ps_if (pt_cmpR op_eq (pe_ix ix_tup (L2.pv 4) pe_int (fun _ _ => rfl)) pe_str (nomark _)) (pss_cons (ps_expr (pe_bm PySem.F.plainAttrs_list PySem.F.slot_list_append PySem.F.type_list_append mt_append (L2.pv 1) (pa_cons (pe_ix ix_tup (L2.pv 4) pe_int (fun _ _ => rfl)) pa_nil)))
        (pss_cons (ps_set (i := 2) nd rfl (by first | exact Or.inl rfl | exact Or.inr rfl) (pe_tup (pa_cons pe_int (pa_cons pe_int pa_nil))))
        (pss_one (ps_set (i := 3) nd rfl (by first | exact Or.inl rfl | exact Or.inr rfl) pe_non)))) (pss_cons (ps_set (i := 2) nd rfl (by first | exact Or.inl rfl | exact Or.inr rfl) (pe_ix ix_tup (L2.pv 4) pe_int (fun _ _ => rfl)))
        (pss_one (ps_if (pt_cmpR op_eq (pe_ix ix_tup (L2.pv 4) pe_int (fun _ _ => rfl)) pe_str (nomark _)) (pss_one (ps_set (i := 3) nd rfl (by first | exact Or.inl rfl | exact Or.inr rfl) (pe_tup (pa_cons (pe_ix ix_tup (L2.pv 4) pe_int (fun _ _ => rfl)) (pa_cons (pe_ix ix_tup (L2.pv 4) pe_int (fun _ _ => rfl)) pa_nil))))) pss_nil))))))
        (pss_one (ps_ret (pe_lst (pa_cons (L2.pv 1) (pa_cons (L2.pv 2) (pa_cons (L2.pv 3) pa_nil))))))))))
      , ?_⟩
    have hul := hU.length
    rw [List.length_map] at hul
    refine ⟨Nat.zero_le _, fun D nD => ?_⟩
    refine ⟨by show 2 ≤ sizeLine; decide, fun t nt => ?_⟩
    have s1 : Same H (upd (upd H D (.lst [])) t (.tup [.int 0, .int 0])) := (Same.nw nD).trans (Same.nw nt)
    have Dt : D ≠ t := ne_of_none upd_same nt
    refine ⟨_, rfl, a, rfl, ⟨_, s1.seq hA⟩, for_it (walk_list (xs := us)) (fun i σ H' => ∃ row pv av v4, σ = [some (.ref a), some (.ref D), some pv, some av, v4] ∧ Same H H' ∧ H' D = some (.lst row) ∧ RcD K H' row pv av (recOf (ups.take i)))
      ⟨[], .ref t, .non, none, rfl, s1, by rw [upd_ne Dt]; exact upd_same, ⟨.nil, .tup (SqT.of upd_same) (.cons (.int _) (.cons (.int _) .nil)), .non⟩⟩ (fun i σ H' _ z => ?_) ?_ ?_⟩
    · obtain ⟨_, _, _, _, _, s2, _⟩ := z
      exact s2.seq hA
    · rintro i x σ H1 H1' hi ⟨row, pv, av, v4, rfl, s1, hD, d⟩ ⟨rfl, hx⟩
      obtain ⟨y, hy, hxi⟩ := hU.of hx
      obtain ⟨u, hu, rfl⟩ := map_at hy
      have hv := hxi.go (Go.same (F := No) s1)
      rw [take_one hu, recOf_snoc]
      cases u with
      | pro s r i =>
        obtain ⟨b, ws, rfl, hT, hW⟩ := hv.tuple
        obtain ⟨v0, e0, i0⟩ := hW.at_ (i := 0) rfl
        obtain ⟨v2, e2, i2⟩ := hW.at_ (i := 2) rfl
        cases i0.strE
        refine ⟨_, rfl, b, _, _, _, rfl, rfl, hT, at_of (j := 0) rfl e0, rfl, _, rfl, ?_⟩
        refine t_no (str_ne (by decide +kernel)) ?_
        refine ⟨_, rfl, b, _, _, _, rfl, rfl, hT, at_of (j := 2) rfl e2, ?_⟩
        refine ⟨_, rfl, b, _, _, _, rfl, rfl, hT, at_of (j := 0) rfl e0, rfl, _, rfl, ?_⟩
        refine t_no (str_ne (by decide +kernel)) ?_
        exact ⟨row, v2, av, _, rfl, s1, hD, d.row, i2, d.ac⟩
      | acc s r i e =>
        obtain ⟨b, ws, rfl, hT, hW⟩ := hv.tuple
        obtain ⟨v0, e0, i0⟩ := hW.at_ (i := 0) rfl
        obtain ⟨v2, e2, i2⟩ := hW.at_ (i := 2) rfl
        obtain ⟨v3, e3, i3⟩ := hW.at_ (i := 3) rfl
        cases i0.strE
        refine ⟨_, rfl, b, _, _, _, rfl, rfl, hT, at_of (j := 0) rfl e0, rfl, _, rfl, ?_⟩
        refine t_no (str_ne (by decide +kernel)) ?_
        refine ⟨_, rfl, b, _, _, _, rfl, rfl, hT, at_of (j := 2) rfl e2, ?_⟩
        refine ⟨_, rfl, b, _, _, _, rfl, rfl, hT, at_of (j := 0) rfl e0, rfl, _, rfl, ?_⟩
        refine t_yes (decide_eq_true rfl) ?_
        refine ⟨_, rfl, b, _, _, _, rfl, rfl, hT, at_of (j := 2) rfl e2, _, rfl, b, _, _, _, rfl, rfl, hT, at_of (j := 3) rfl e3, by show 2 ≤ sizeLine; decide, fun q nq => ?_⟩
        have g : Go No H1' No (upd H1' q (.tup [v2, v3])) := Go.new nq
        exact ⟨row, v2, .ref q, _, rfl, s1.trans (Same.nw nq), by rw [upd_ne (ne_of_none hD nq)]; exact hD, d.row.go g, i2.go g, .tup (SqT.of upd_same) (.cons (i2.go g) (.cons (i3.go g) .nil))⟩
      | cho s e =>
        obtain ⟨b, ws, rfl, hT, hW⟩ := hv.tuple
        obtain ⟨v0, e0, i0⟩ := hW.at_ (i := 0) rfl
        obtain ⟨v2, e2, i2⟩ := hW.at_ (i := 2) rfl
        cases i0.strE
        refine ⟨_, rfl, b, _, _, _, rfl, rfl, hT, at_of (j := 0) rfl e0, rfl, _, rfl, ?_⟩
        refine t_yes (decide_eq_true rfl) ?_
        have hrow : row.length ≤ 1000 := by
          have e1 := d.row.length
          rw [List.length_map] at e1
          have e2 := recOf_row_le (ups.take i)
          rw [List.length_take] at e2
          omega
        refine ⟨_, rfl, .inl ⟨rfl, _, SqL.of hD⟩, _, rfl, b, _, _, _, rfl, rfl, hT, at_of (j := 2) rfl e2, D, _, _, rfl, rfl, hD, small1000 hrow, ?_⟩
        have g1 : Go (fun a => a = D) H1' (fun a => a = D) (upd H1' D (.lst (row ++ [v2]))) := Go.put (u := .lst row) rfl hD trivial
        refine ⟨by show 2 ≤ sizeLine; decide, fun q nq => ?_⟩
        have g2 : Go (fun a => a = D) (upd H1' D (.lst (row ++ [v2]))) (fun a => a = D) (upd (upd H1' D (.lst (row ++ [v2]))) q (.tup [.int 0, .int 0])) := Go.new nq
        have g := g1.trans g2
        refine ⟨row ++ [v2], .ref q, .non, _, rfl, (s1.mt nD).trans (Same.nw nq), by rw [upd_ne (ne_of_none upd_same nq)]; exact upd_same, ?_, .tup (SqT.of upd_same) (.cons (.int _) (.cons (.int _) .nil)), .non⟩
        rw [Rc.do, List.map_append]
        exact (d.row.go g).append (.cons (i2.go g) .nil)
    · rintro σ H1 ⟨row, pv, av, v4, rfl, s1, hD, d⟩
      rw [hul, List.take_length] at d
      refine ⟨_, rfl, _, rfl, _, rfl, by show 3 ≤ sizeLine; decide, fun L nL => ?_⟩
      have g : Go No H1 No (upd H1 L (.lst [.ref D, pv, av])) := Go.new nL
      exact k L D row pv av _ (s1.back nL) nD (s1.trans (Same.nw nL)) upd_same (by rw [upd_ne (ne_of_none hD nL)]; exact hD) (d.go g)
theorem c_law_lines (T : Txt K mg) : C8.Cal P w K mg base 1 "_law_lines" (spLines K) [] := by
  refine cal T.f_law_lines T.g_law_lines (N := (["_law_row_here", "_law_lines_here", "_law_entry", "_law_command"] : List Str)) (ps := (["_law_row_here"] : List Str)) (by decide +kernel) (fun _ _ _ _ _ _ us hl => match us, hl with | [_], _ => rfl) (fun vs H Q E h => ?_) (fun cdv A outer s H vs Q E hr h => ?_)
  · obtain ⟨_, _, _, rfl, _⟩ := h; rfl
  · obtain ⟨a, row, es, rfl, hA, hR, hE, h1000, k⟩ := h
    have nd : ((["_law_row_here", "_law_lines_here", "_law_entry", "_law_command"] : List Str)).Nodup := by decide +kernel
    refine ⟨_,
      (pss_cons (ps_set (i := 1) nd rfl (by first | exact Or.inl rfl | exact Or.inr rfl) (pe_lst pa_nil))
        (pss_cons (ps_for PassesOwn.never rfl (pi_list (L2.pv 0)) (pg_name (i := 2) nd rfl (by first | exact Or.inl rfl | exact Or.inr rfl)) (pss_one (ps_if (pt_cmpR op_eq (pe_ix ix_tup (L2.pv 2) pe_int (fun _ _ => rfl)) pe_str (nomark _)) (pss_one (ps_for PassesOwn.never rfl (pi_tup (pe_ix ix_tup (L2.pv 2) pe_int (fun _ _ => rfl))) (pg_name (i := 3) nd rfl (by first | exact Or.inl rfl | exact Or.inr rfl)) (pss_one (ps_if (pt_cmpR (op_notInD (hu65 hr)) (L2.pv 3) (L2.pv 1) (by rfl)) (pss_one (ps_expr (pe_bm PySem.F.plainAttrs_list PySem.F.slot_list_append PySem.F.type_list_append mt_append (L2.pv 1) (pa_cons (L2.pv 3) pa_nil)))) pss_nil)))) pss_nil)))
        (pss_one (ps_ret (L2.pv 1)))))
      , ?_⟩
    have hrl := hR.length
    rw [List.length_map] at hrl
    refine ⟨Nat.zero_le _, fun D nD => ?_⟩
    refine ⟨_, rfl, a, rfl, ⟨_, (Same.nw nD).seq hA⟩, for_it (walk_list (xs := row)) (fun i σ H' => ∃ ls v2 v3, σ = [some (.ref a), some (.ref D), v2, v3] ∧ Same H H' ∧ H' D = some (.lst ls) ∧ Ims K H' ls (linesOf (es.take i)))
      ⟨[], none, none, rfl, Same.nw nD, upd_same, .nil⟩ (fun i σ H' _ z => ?_) ?_ ?_⟩
    · obtain ⟨_, _, _, _, s2, _⟩ := z
      exact s2.seq hA
    · rintro i x σ H1 H1' hi ⟨ls, v2, v3, rfl, s1, hD, hL⟩ ⟨rfl, hx⟩
      obtain ⟨y, hy, hxi⟩ := hR.of hx
      obtain ⟨e, he, rfl⟩ := map_at hy
      have heo := hE e (List.mem_of_getElem? he)
      obtain ⟨hcl, hcok⟩ := Ent.cmds_ok heo
      have hlk := lines_ok (row := es.take i) fun e he => hE e (List.mem_of_mem_take he)
      have hv := hxi.go (Go.same (F := No) s1)
      rw [take_one he, linesOf_snoc]
      cases e with
      | mem ms =>
        obtain ⟨b, ws, rfl, hT, hW⟩ := hv.tuple
        obtain ⟨v0, e0, i0⟩ := hW.at_ (i := 0) rfl
        cases i0.strE
        refine ⟨_, rfl, b, _, _, _, rfl, rfl, hT, at_of (j := 0) rfl e0, rfl, _, rfl, ?_⟩
        refine t_no (str_ne (by decide +kernel)) ?_
        exact ⟨ls, _, _, rfl, s1, hD, hL⟩
      | batch cs =>
        obtain ⟨b, ws, rfl, hT, hW⟩ := hv.tuple
        obtain ⟨v0, e0, i0⟩ := hW.at_ (i := 0) rfl
        obtain ⟨v1, e1, i1⟩ := hW.at_ (i := 1) rfl
        cases i0.strE
        obtain ⟨d, ys, rfl, hT2, hW2⟩ := i1.tuple
        have hyl := hW2.length
        refine ⟨_, rfl, b, _, _, _, rfl, rfl, hT, at_of (j := 0) rfl e0, rfl, _, rfl, ?_⟩
        refine t_yes (decide_eq_true rfl) ?_
        refine ⟨_, rfl, b, _, _, _, rfl, rfl, hT, at_of (j := 1) rfl e1, d, rfl, ⟨_, hT2⟩, for_it (walk_tup (xs := ys)) (fun j σ H' => ∃ ls v2 v3, σ = [some (.ref a), some (.ref D), v2, v3] ∧ Same H H' ∧ Go (fun a => a = D) H1' (fun a => a = D) H' ∧ H' D = some (.lst ls) ∧ Ims K H' ls ((cs.take j).foldl addLine (linesOf (es.take i))))
          ⟨ls, _, _, rfl, s1, Go.refl _, hD, hL⟩ (fun j σ H' _ z => ?_) ?_ ?_⟩
        · obtain ⟨_, _, _, _, _, g, _⟩ := z
          exact sqT_go g hT2
        · rintro j y σ H2 H2' hj ⟨ls2, w2, w3, rfl, s2, g2, hD2, hL2⟩ ⟨rfl, hy⟩
          obtain ⟨cm, hcm, hyi⟩ := hW2.of hy
          have hcmo := hcok cm (List.mem_of_getElem? hcm)
          have hgood : ∀ d ∈ (cs.take j).foldl addLine (linesOf (es.take i)), good 10 d = true := fun d hd => (fold_all hlk.2 (fun c hc => hcok c (List.mem_of_mem_take hc)) d hd).good
          have hlen := fold_len (cs.take j) (linesOf (es.take i))
          have hl2 := hL2.length
          have hcl : cs.length ≤ 8 := hcl
          have hl8 := hlk.1
          rw [List.length_take] at hlen hl8
          rw [take_one hcm, List.foldl_append]
          generalize (cs.take j).foldl addLine (linesOf (es.take i)) = acc at hL2 hgood hlen hl2 ⊢
          refine ⟨_, rfl, _, rfl, cm, acc, (hyi.go g2).dp, dp_list (SqL.of hD2) hL2, shaped_good hcmo.good, shaped_list hgood (by decide), _, rfl, ?_⟩
          show if (!acc.any fun z => PyData.eqv z cm) = true then _ else _
          by_cases ha : acc.any (fun z => PyData.eqv z cm) = true
          · refine t_no (by rw [ha]; rfl) ?_
            refine ⟨ls2, _, _, rfl, s2, g2, hD2, ?_⟩
            show Ims K H2' ls2 (addLine acc cm)
            unfold addLine
            rw [if_pos ha]
            exact hL2
          · refine t_yes (by simpa using ha) ?_
            refine ⟨_, rfl, .inl ⟨rfl, _, SqL.of hD2⟩, _, rfl, D, _, _, rfl, rfl, hD2, small1e4 (by omega), ?_⟩
            have g3 : Go (fun a => a = D) H2' (fun a => a = D) (upd H2' D (.lst (ls2 ++ [y]))) := Go.put (u := .lst ls2) rfl hD2 trivial
            refine ⟨ls2 ++ [y], _, _, rfl, s2.mt nD, g2.trans g3, upd_same, ?_⟩
            show Ims K (upd H2' D (.lst (ls2 ++ [y]))) (ls2 ++ [y]) (addLine acc cm)
            unfold addLine
            rw [if_neg ha]
            exact (hL2.go g3).append (.cons ((hyi.go g2).go g3) .nil)
        · rintro σ H2 ⟨ls2, w2, w3, rfl, s2, g2, hD2, hL2⟩
          rw [hyl, List.take_length] at hL2
          exact ⟨ls2, _, _, rfl, s2, hD2, hL2⟩
    · rintro σ H1 ⟨ls, v2, v3, rfl, s1, hD, hL⟩
      rw [hrl, List.take_length] at hL
      exact ⟨_, rfl, k D ls H1 s1 hD hL⟩
end
end Ck
/-! W28 -/
set_option maxHeartbeats 400000
namespace Ck
open PySem PySem.Spec PyProof.Rows L2
/-! ### the law's messages and steps -/
/-- a box beside a node: it is no part of what the node stands on -/
def spMessage (K : PySem.W.Frag) : Sp := fun vs H Q _ => ∃ (b : Addr) (c : Nc) (m : Nm) (g : Nx) (us : List Upd) (n : Nat) (i : Int) (H0 : Hp), vs = [.ref b, .ref c.p] ∧ NDs K H0 c m g us n ∧ n ≤ 880 ∧ H0 b = none ∧ Same H0 H ∧ H b = some (.lst [.int i]) ∧
  ∀ v x H', Same H0 H' → Im K H' v (Msg.py (g.row.length + 1) x) → x.Ok n → Q v H'
def spStep (K : PySem.W.Frag) : Sp := fun vs H Q _ => ∃ (b : Addr) (c : Nc) (m : Nm) (g : Nx) (us : List Upd) (n : Nat) (i : Int) (H0 : Hp), vs = [.ref b, .ref c.p] ∧ NDs K H0 c m g us n ∧ n ≤ 880 ∧ H0 b = none ∧ Same H0 H ∧ H b = some (.lst [.int i]) ∧
  ∀ g' us' H', NG K c m g H0 m g' H' → NDs K H' c m g' us' (n + 10) → Q .non H'
theorem cmd_w {d : Nat} {z : Str} (hd : d ≤ 300) (h : (z.cps.toList.all signOk && decide (z.length ≤ 100)) = true) : CmdOk (.tuple [.str "w", .int (d : Nat), .str z]) := by
  have e1 := len_int (i := d) (by omega)
  have e2 := len_str (z := "w") (by decide +kernel)
  have hz : z.length ≤ 100 := by
    rw [Bool.and_eq_true] at h
    exact of_decide_eq_true h.2
  have e3 := len_str hz
  refine ⟨pk_tup (n := 1) (fun x hx => ?_) (by simp), ?_, Nat.le_trans (len_tup (by simp)) ?_, fun l z => ?_⟩
  · simp only [List.mem_cons, List.not_mem_nil, or_false] at hx
    rcases hx with rfl | rfl | rfl
    · exact pk_str 1 (by decide +kernel)
    · exact pk_int 1 (by omega)
    · exact pk_str 1 h
  · simp [wtD, wtL]
  · simp only [packL, List.length_append, List.length_nil]; omega
  · injection z with z
    injection z with z _
    injection z with z
    exact absurd z (by decide +kernel)
theorem cmd_g {d : Nat} (hd : d ≤ 10000) : CmdOk (.tuple [.str "g", .int (d : Nat)]) := by
  have e1 := len_int (i := d) (by omega)
  have e2 := len_str (z := "g") (by decide +kernel)
  refine ⟨pk_tup (n := 1) (fun x hx => ?_) (by simp), ?_, Nat.le_trans (len_tup (by simp)) ?_, fun l z => ?_⟩
  · simp only [List.mem_cons, List.not_mem_nil, or_false] at hx
    rcases hx with rfl | rfl
    · exact pk_str 1 (by decide +kernel)
    · exact pk_int 1 (by omega)
  · simp [wtD, wtL]
  · simp only [packL, List.length_append, List.length_nil]; omega
  · injection z with z
    injection z with z _
    injection z with z
    exact absurd z (by decide +kernel)
theorem ims_ints {K : PySem.W.Frag} {H : Hp} (ms : List Nat) : Ims K H (ms.map fun x => V.int (x : Nat)) (ms.map fun m => PyData.int (m : Nat)) := by
  induction ms with
  | nil => exact .nil
  | cons m ms ih => exact .cons (.int _) ih
/-- a box drawn down: what stood beside it stands -/
theorem draw {H0 H : Hp} {b : Addr} {o : HO} (n0 : H0 b = none) (s : Same H0 H) (e : ∃ i : Int, H b = some (.lst [.int i])) : ∃ H1, H1 = upd H b o ∧ Same H0 H1 ∧ H1 b = some o ∧ ∀ F : Addr → Prop, F b → Go F H F H1 :=
  ⟨_, rfl, s.mt n0, upd_same, fun F f => e.elim fun i e => Go.put (u := .lst [.int i]) f e trivial⟩
section
variable {P : Program} {w : World} {K : PySem.W.Frag} {mg : Str → Option Value} {base : Heap}
theorem c_law_message (T : Txt K mg) : C8.Cal P w K mg base 5 "_law_message" (spMessage K) [] := by
  refine cal T.f_law_message T.g_law_message (N := (["_law_box", "_law_node", "_law_slot", "_law_ballot", "_law_entry", "_law_k", "_law_kind"] : List Str)) (ps := (["_law_box", "_law_node"] : List Str)) (by decide +kernel) (fun _ _ _ _ _ _ us hl => match us, hl with | [_, _], _ => rfl) (fun vs H Q E h => ?_) (fun cdv A outer s H vs Q E hr h => ?_)
  · obtain ⟨_, _, _, _, _, _, _, _, rfl, _⟩ := h; rfl
  · obtain ⟨b, c, m, g, us, n, i, H0, rfl, h, hn, nb, s0, hb, k⟩ := h
    have nd : ((["_law_box", "_law_node", "_law_slot", "_law_ballot", "_law_entry", "_law_k", "_law_kind"] : List Str)).Nodup := by decide +kernel
    refine ⟨_,
      (pss_cons (ps_set (i := 2) nd rfl (by first | exact Or.inl rfl | exact Or.inr rfl) (pe_op op_add (pe_pr (c_Node_upto T) hr (by decide) (L2.pv 1)) pe_int))
        (pss_cons (ps_set (i := 3) nd rfl (by first | exact Or.inl rfl | exact Or.inr rfl) (pe_tup (pa_cons (pe_callB (call_max2 rfl) (by rfl) T.b_max bt_max (pa_cons pe_int (pa_cons (pe_op op_add (pe_ix ix_tup (pe_fld (pe_fld (pe_fld (L2.pv 1) rfl) rfl) rfl) pe_int (fun _ _ => rfl)) (C8.pe_c (c_law_take T) hr (by decide) rfl (pa_cons (L2.pv 0) (pa_cons pe_int pa_nil)))) pa_nil))) (pa_cons (C8.pe_c (c_law_take T) hr (by decide) rfl (pa_cons (L2.pv 0) (pa_cons (pe_fld (L2.pv 1) rfl) pa_nil))) pa_nil))))
        (pss_cons (ps_set (i := 4) nd rfl (by first | exact Or.inl rfl | exact Or.inr rfl) (pe_tup (pa_cons pe_str (pa_cons (pe_callTy call_tuple_of (by rfl) T.b_tuple bt_tuple (pa_cons (pe_lc (by rfl) nd (pi_range1 (by rfl) T.b_range (pa_cons (pe_op op_add pe_int (C8.pe_c (c_law_take T) hr (by decide) rfl (pa_cons (L2.pv 0) (pa_cons pe_int pa_nil)))) pa_nil)) (blkOk_by (own := [("_law_k", 5)]) (N := ["_law_box", "_law_node", "_law_slot", "_law_ballot", "_law_entry", "_law_k", "_law_kind"]) (sc := defScope s_law_message) (by decide +kernel)) (fun _ _ _ _ _ => pg_name (i := 5) nd rfl (by first | exact Or.inl rfl | exact Or.inr rfl)) (fun _ _ _ _ _ => pts_nil) (fun _ _ _ _ _ => (pe_tup (pa_cons pe_str (pa_cons (C8.pe_c (c_law_take T) hr (by decide) rfl (pa_cons (L2.pv 0) (pa_cons pe_int pa_nil))) (pa_cons (pe_op op_mulX pe_str (C8.pe_c (c_law_take T) hr (by decide) rfl (pa_cons (L2.pv 0) (pa_cons pe_int pa_nil)))) pa_nil)))))) pa_nil)) pa_nil))))
        (C8.pss_cut (ps_if (pt_cmpR op_eq (C8.pe_c (c_law_take T) hr (by decide) rfl (pa_cons (L2.pv 0) (pa_cons pe_int pa_nil))) pe_int (nomark _)) (pss_one (ps_set (i := 4) nd rfl (by first | exact Or.inl rfl | exact Or.inr rfl) (pe_tup (pa_cons pe_str (pa_cons (pe_ifExp (pt_cmpR op_gt (pe_fld (L2.pv 1) rfl) pe_int (nomark _)) (pe_tup (pa_cons pe_int (pa_cons (pe_fld (L2.pv 1) rfl) pa_nil))) (pe_tup (pa_cons pe_int pa_nil))) pa_nil))))) pss_nil)
        (pss_cons (ps_set (i := 6) nd rfl (by first | exact Or.inl rfl | exact Or.inr rfl) (C8.pe_c (c_law_take T) hr (by decide) rfl (pa_cons (L2.pv 0) (pa_cons pe_int pa_nil))))
        (pss_cons (ps_if (pt_cmpR op_lt (L2.pv 6) pe_int (nomark _)) (pss_one (ps_ret (pe_tup (pa_cons pe_str (pa_cons (L2.pv 2) (pa_cons (L2.pv 3) pa_nil)))))) pss_nil)
        (pss_cons (ps_if (pt_cmpR op_lt (L2.pv 6) pe_int (nomark _)) (pss_one (ps_ret (pe_tup (pa_cons pe_str (pa_cons (L2.pv 2) (pa_cons (L2.pv 3) (pa_cons (L2.pv 4) pa_nil))))))) pss_nil)
        (pss_cons (ps_if (pt_cmpR op_lt (L2.pv 6) pe_int (nomark _)) (pss_one (ps_ret (pe_tup (pa_cons pe_str (pa_cons (L2.pv 2) (pa_cons (L2.pv 4) pa_nil)))))) pss_nil)
        (pss_one (ps_ret (pe_tup (pa_cons pe_str (pa_cons (L2.pv 2) (pa_cons (pe_tup (pa_cons (L2.pv 4) (pa_cons (pe_tup (pa_cons pe_str (pa_cons (pe_tup (pa_cons (pe_tup (pa_cons pe_str (pa_cons (L2.pv 2) pa_nil))) pa_nil)) pa_nil))) pa_nil))) pa_nil))))))))))))))
      , ?_⟩
    have hrl := h.rl
    have hul := h.d.ul
    have hpr := h.prn
    have hix := h.ix
    have hs := c.hs
    have hi0 := c.hi
    obtain ⟨h1, x1⟩ := h.same s0
    obtain ⟨pa, hp, hpT⟩ := h1.bal
    refine ⟨_, rfl, c.p, c.pd, _, rfl, h1.own.get 0 rfl, c, m, g, rfl, h1.own, _, _, rfl, rfl, ?_⟩
    refine ⟨_, rfl, c.p, _, c.pd, _, _, rfl, h1.own.get 0 rfl, T.c_Node, T.n_Node_record, rfl, g.r, _, g.rd, _, _, rfl, h1.own.get 3 rfl, T.c_Record, T.n_Record_acceptor, rfl, g.ac, _, g.ad, _, _, rfl, h1.own.get 5 rfl, T.c_Acceptor, T.n_Acceptor_promised, rfl, pa, _, _, _, hp, rfl, hpT, at_of (j := 0) rfl rfl, _, rfl, b, i, 3, rfl, hb, by decide, by decide, fun d0 j0 hd0 => ?_⟩
    obtain ⟨H1, e1, s1, hb1, y1⟩ := draw (o := .lst [.int j0]) nb s0 ⟨_, hb⟩
    rw [← e1]
    obtain ⟨h2, x2⟩ := h.same s1
    refine ⟨_, _, rfl, rfl, _, _, rfl, _, rfl, _, rfl, c.p, _, c.pd, _, _, rfl, h2.own.get 0 rfl, T.c_Node, T.n_Node_size, rfl, b, j0, c.sz, rfl, hb1, by omega, by omega, fun d1 j1 hd1 => ?_⟩
    obtain ⟨H2, e2, s2, hb2, y2⟩ := draw (o := .lst [.int j1]) nb s1 ⟨_, hb1⟩
    rw [← e2]
    refine ⟨by show 2 ≤ sizeLine; decide, fun t nt => ?_⟩
    obtain ⟨r, er, hr3⟩ : ∃ r : Nat, (if (((recOf us).pr : Nat) : Int) + (d0 : Nat) > 1 then (((recOf us).pr : Nat) : Int) + (d0 : Nat) else 1) = (r : Nat) ∧ r ≤ n + 3 := by
      split
      · exact ⟨(recOf us).pr + d0, by omega, by omega⟩
      · exact ⟨1, rfl, by omega⟩
    rw [er]
    obtain ⟨H3, e3, s3, hb3, bal3⟩ : ∃ H3, H3 = upd H2 t (.tup [.int (r : Nat), .int (d1 : Nat)]) ∧ Same H0 H3 ∧ H3 b = some (.lst [.int j1]) ∧ Im K H3 (.ref t) (bal r d1) :=
      ⟨_, rfl, s2.trans (Same.nw nt), by rw [upd_ne (ne_of_none hb2 nt)]; exact hb2, .tup (SqT.of upd_same) (.cons (.int _) (.cons (.int _) .nil))⟩
    refine at_heap e3 ?_
    refine ⟨_, rfl, b, j1, 3, rfl, hb3, by decide, by decide, fun d2 j2 hd2 => ?_⟩
    obtain ⟨H4, e4, s4, hb4, y4⟩ := draw (o := .lst [.int j2]) nb s3 ⟨_, hb3⟩
    rw [← e4]
    have bal4 := bal3.go (y4 (fun a => a = b) rfl)
    refine ⟨_, _, rfl, rfl, _, rfl, by omega, by omega, fun D hD => ?_⟩
    have bD : b ≠ D := ne_of_none hb4 hD
    refine lc_it (walk_range (lo := 0) (n := 1 + d2)) (fun i H' => Same H0 H' ∧ (∃ j : Int, H' b = some (.lst [.int j])) ∧ Go (fun a => a = b ∨ a = D) (upd H4 D (.lst [])) (fun a => a = b ∨ a = D) H' ∧ ∃ us ds, H' D = some (.lst us) ∧ Ims K H' us ds ∧ us.length = i ∧ ∀ d ∈ ds, CmdOk d) ⟨s4.trans (Same.nw hD), ⟨j2, by rw [upd_ne bD]; exact hb4⟩, Go.refl _, [], [], upd_same, .nil, rfl, (fun _ z => nomatch z)⟩ (fun i H' _ p => trivial) ?_ ?_
    · rintro i x H5 H5' hi ⟨s5, ⟨j5, hb5⟩, g5, ws, ds, hD5, i5, l5, ok5⟩ ⟨rfl, rfl⟩
      refine ⟨rfl, _, rfl, b, j5, 300, rfl, hb5, by decide, by decide, fun d6 j6 hd6 => ?_⟩
      obtain ⟨H6, e6, s6, hb6, y6⟩ := draw (o := .lst [.int j6]) nb s5 ⟨_, hb5⟩
      rw [← e6]
      refine ⟨_, rfl, b, j6, 4, rfl, hb6, by decide, by decide, fun d7 j7 hd7 => ?_⟩
      obtain ⟨H7, e7, s7, hb7, y7⟩ := draw (o := .lst [.int j7]) nb s6 ⟨_, hb6⟩
      rw [← e7]
      refine ⟨_, rfl, rfl, by omega, by omega, by show 3 ≤ sizeLine; decide, fun q nq => ?_⟩
      have fb : (fun a => a = b ∨ a = D) b := .inl rfl
      have y57 := (y6 _ fb).trans (y7 (fun a => a = b ∨ a = D) (.inl rfl))
      have hD7 : H7 D = some (.lst ws) := by
        rw [e7, upd_ne bD.symm, e6, upd_ne bD.symm]; exact hD5
      have y8 : Go (fun a => a = b ∨ a = D) H7 (fun a => a = b ∨ a = D) (upd H7 q (.tup [.str "w", .int (d6 : Nat), .str (Txt.mul "x" (d7 : Nat))])) := Go.new nq
      have hD8 : (upd H7 q (.tup [.str "w", .int (d6 : Nat), .str (Txt.mul "x" (d7 : Nat))])) D = some (.lst ws) := by rw [upd_ne (ne_of_none hD7 nq)]; exact hD7
      have y9 : Go (fun a => a = b ∨ a = D) _ (fun a => a = b ∨ a = D) (upd (upd H7 q (.tup [.str "w", .int (d6 : Nat), .str (Txt.mul "x" (d7 : Nat))])) D (.lst (ws ++ [.ref q]))) := Go.put (u := .lst ws) (.inr rfl) hD8 trivial
      refine ⟨ws, hD8, small1000 (by omega), (s7.trans (Same.nw nq)).mt (s4.back hD), ⟨j7, ?_⟩, (g5.trans y57).trans (y8.trans y9), ws ++ [.ref q], ds ++ [.tuple [.str "w", .int (d6 : Nat), .str (Txt.mul "x" (d7 : Nat))]], upd_same, ?_, ?_, ?_⟩
      · rw [upd_ne bD, upd_ne (ne_of_none hb7 nq)]; exact hb7
      · exact (i5.go (y57.trans (y8.trans y9))).append (.cons (.tup (sqT_go y9 (SqT.of upd_same)) (.cons (.str _) (.cons (.int _) (.cons (.str _) .nil)))) .nil)
      · rw [List.length_append, l5]; rfl
      · intro z hz
        rcases List.mem_append.mp hz with hz | hz
        · exact ok5 z hz
        · obtain rfl : z = _ := by simpa using hz
          exact cmd_w (by omega) (mul_signs (by omega) (by omega))
    · rintro H5 ⟨s5, ⟨j5, hb5⟩, g5, ws, ds, hD5, i5, l5, ok5⟩
      refine ⟨D, _, rfl, .inl ⟨SqL.of hD5, fun t2 nt2 => ?_⟩⟩
      refine ⟨by show 2 ≤ sizeLine; decide, fun et net => ?_⟩
      have z1 : Go No H5 No (upd H5 t2 (.tup ws)) := Go.new nt2
      have z2 : Go No (upd H5 t2 (.tup ws)) No (upd (upd H5 t2 (.tup ws)) et (.tup [.str "batch", .ref t2])) := Go.new net
      have z4 : Go (fun a => a = b ∨ a = D) H4 (fun a => a = b ∨ a = D) (upd H4 D (.lst [])) := Go.new hD
      have dl5 := i5.length
      refine ⟨fun σ H' => ∃ (ev : V) (e : Ent), σ = [some (.ref b), some (.ref c.p), some (.int ((g.row.length : Int) + 1)), some (.ref t), some ev, none, none] ∧ Same H0 H' ∧ (∃ j : Int, H' b = some (.lst [.int j])) ∧ Im K H' (.ref t) (bal r d1) ∧ Im K H' ev e.py ∧ e.Ok, ?_, ?_⟩
      · have s6 := s5.trans ((Same.nw (o := .tup ws) nt2).trans (Same.nw (o := .tup [.str "batch", .ref t2]) net))
        have bal6 := ((bal4.go z4).go g5).go (z1.trans z2)
        have ent6 : Im K (upd (upd H5 t2 (.tup ws)) et (.tup [.str "batch", .ref t2])) (.ref et) (Ent.batch ds).py := .tup (SqT.of upd_same) (.cons (.str _) (.cons (.tup (sqT_go z2 (SqT.of upd_same)) (i5.go (z1.trans z2))) .nil))
        have hb6 : (upd (upd H5 t2 (.tup ws)) et (.tup [.str "batch", .ref t2])) b = some (.lst [.int j5]) := by
          rw [upd_ne (ne_of_none (by rw [upd_ne (ne_of_none hb5 nt2)]; exact hb5) net), upd_ne (ne_of_none hb5 nt2)]; exact hb5
        generalize upd (upd H5 t2 (.tup ws)) et (.tup [.str "batch", .ref t2]) = H6 at s6 bal6 ent6 hb6 ⊢
        refine ⟨_, rfl, b, j5, 6, rfl, hb6, by decide, by decide, fun d7 j7 hd7 => ?_⟩
        obtain ⟨H7, e7, s7, hb7, y7⟩ := draw (o := .lst [.int j7]) nb s6 ⟨_, hb6⟩
        rw [← e7]
        have bal7 := bal6.go (y7 (fun a => a = b) rfl)
        have ent7 := ent6.go (y7 (fun a => a = b) rfl)
        obtain ⟨h7, _⟩ := h.same s7
        refine ⟨rfl, _, rfl, ?_⟩
        refine t_any ?_ ⟨.ref et, .batch ds, rfl, s7, ⟨j7, hb7⟩, bal7, ent7, by omega, ok5⟩
        have fin : ∀ (q : Addr) (ms : List Nat), H7 q = none → ms.length ≤ 5 → (∀ x ∈ ms, x ≤ 10) → ∀ e2, upd H7 q (.tup (ms.map fun x => .int (x : Nat))) e2 = none → ∃ (ev : V) (e : Ent), ([some (.ref b), some (.ref c.p), some (.int ((g.row.length : Int) + 1)), some (.ref t), some (.ref e2), none, none] : L2.St) = [some (.ref b), some (.ref c.p), some (.int ((g.row.length : Int) + 1)), some (.ref t), some ev, none, none] ∧
            Same H0 (upd (upd H7 q (.tup (ms.map fun x => .int (x : Nat)))) e2 (.tup [.str "members", .ref q])) ∧ (∃ j : Int, upd (upd H7 q (.tup (ms.map fun x => .int (x : Nat)))) e2 (.tup [.str "members", .ref q]) b = some (.lst [.int j])) ∧
            Im K (upd (upd H7 q (.tup (ms.map fun x => .int (x : Nat)))) e2 (.tup [.str "members", .ref q])) (.ref t) (bal r d1) ∧ Im K (upd (upd H7 q (.tup (ms.map fun x => .int (x : Nat)))) e2 (.tup [.str "members", .ref q])) ev e.py ∧ e.Ok := by
          intro q ms nq hl hm e2 ne2
          have g1 : Go No H7 No (upd H7 q (.tup (ms.map fun x => .int (x : Nat)))) := Go.new nq
          have g2 : Go No (upd H7 q (.tup (ms.map fun x => .int (x : Nat)))) No (upd (upd H7 q (.tup (ms.map fun x => .int (x : Nat)))) e2 (.tup [.str "members", .ref q])) := Go.new ne2
          refine ⟨.ref e2, .mem ms, rfl, s7.trans ((Same.nw nq).trans (Same.nw ne2)), ⟨j7, ?_⟩, bal7.go (g1.trans g2), .tup (SqT.of upd_same) (.cons (.str _) (.cons (.tup (sqT_go g2 (SqT.of upd_same)) ?_) .nil)), hl, hm⟩
          · rw [upd_ne (ne_of_none (by rw [upd_ne (ne_of_none hb7 nq)]; exact hb7) ne2), upd_ne (ne_of_none hb7 nq)]; exact hb7
          · exact ims_ints ms
        refine ⟨_, rfl, c.p, _, c.pd, _, _, rfl, h7.own.get 0 rfl, T.c_Node, T.n_Node_index, rfl, _, _, rfl, rfl, _, rfl, ?_⟩
        refine t_any ?_ ?_
        · refine ⟨_, rfl, c.p, _, c.pd, _, _, rfl, h7.own.get 0 rfl, T.c_Node, T.n_Node_index, rfl, by show 2 ≤ sizeLine; decide, fun q nq => ⟨by show 2 ≤ sizeLine; decide, fun e2 ne2 => ?_⟩⟩
          exact fin q [0, c.ix] nq (by simp) (fun x hx => by
            simp only [List.mem_cons, List.not_mem_nil, or_false] at hx
            omega) e2 ne2
        · refine ⟨by show 1 ≤ sizeLine; decide, fun q nq => ⟨by show 2 ≤ sizeLine; decide, fun e2 ne2 => ?_⟩⟩
          exact fin q [0] nq (by simp) (fun x hx => by
            simp only [List.mem_cons, List.not_mem_nil, or_false] at hx
            omega) e2 ne2
      · rintro σ H6 ⟨ev, e, rfl, s6, ⟨j6, hb6⟩, bal6, ent6, ok6⟩
        refine ⟨_, rfl, b, j6, 8, rfl, hb6, by decide, by decide, fun d7 j7 hd7 => ?_⟩
        obtain ⟨H7, e7, s7, hb7, y7⟩ := draw (o := .lst [.int j7]) nb s6 ⟨_, hb6⟩
        rw [← e7]
        have bal7 := bal6.go (y7 (fun a => a = b) rfl)
        have ent7 := ent6.go (y7 (fun a => a = b) rfl)
        have slotI : ∀ H', Im K H' (.int ((g.row.length : Int) + 1)) (.int (g.row.length + 1 : Nat)) := fun H' => .int _
        have hd1 : d1 ≤ 10 := by omega
        refine ⟨_, rfl, _, _, rfl, rfl, _, rfl, ?_⟩
        refine t_any ?_ ?_
        · refine ⟨_, rfl, _, rfl, by show 3 ≤ sizeLine; decide, fun q nq => ?_⟩
          have z : Go No H7 No (upd H7 q (.tup [.str "ask", .int ((g.row.length : Int) + 1), .ref t])) := Go.new nq
          exact k (.ref q) (.ask r d1) _ (s7.trans (Same.nw nq)) (.tup (SqT.of upd_same) (.cons (.str _) (.cons (slotI _) (.cons (bal7.go z) .nil)))) ⟨hr3, hd1⟩
        refine ⟨_, rfl, _, _, rfl, rfl, _, rfl, ?_⟩
        refine t_any ?_ ?_
        · refine ⟨_, rfl, _, rfl, _, rfl, by show 4 ≤ sizeLine; decide, fun q nq => ?_⟩
          have z : Go No H7 No (upd H7 q (.tup [.str "tell", .int ((g.row.length : Int) + 1), .ref t, ev])) := Go.new nq
          exact k (.ref q) (.tell r d1 e) _ (s7.trans (Same.nw nq)) (.tup (SqT.of upd_same) (.cons (.str _) (.cons (slotI _) (.cons (bal7.go z) (.cons (ent7.go z) .nil))))) ⟨hr3, hd1, ok6⟩
        refine ⟨_, rfl, _, _, rfl, rfl, _, rfl, ?_⟩
        refine t_any ?_ ?_
        · refine ⟨_, rfl, _, rfl, by show 3 ≤ sizeLine; decide, fun q nq => ?_⟩
          have z : Go No H7 No (upd H7 q (.tup [.str "chosen", .int ((g.row.length : Int) + 1), ev])) := Go.new nq
          exact k (.ref q) (.cho e) _ (s7.trans (Same.nw nq)) (.tup (SqT.of upd_same) (.cons (.str _) (.cons (slotI _) (.cons (ent7.go z) .nil)))) ok6
        refine ⟨_, rfl, _, rfl, _, rfl, by show 2 ≤ sizeLine; decide, fun q1 n1 => ⟨by show 1 ≤ sizeLine; decide, fun q2 n2 => ⟨by show 2 ≤ sizeLine; decide, fun q3 n3 => ⟨by show 2 ≤ sizeLine; decide, fun q4 n4 => ⟨by show 3 ≤ sizeLine; decide, fun q5 n5 => ?_⟩⟩⟩⟩⟩
        have z1 : Go No H7 No (upd H7 q1 (.tup [.str "g", .int ((g.row.length : Int) + 1)])) := Go.new n1
        have i1 : Im K (upd H7 q1 (.tup [.str "g", .int ((g.row.length : Int) + 1)])) (.ref q1) (.tuple [.str "g", .int (g.row.length + 1 : Nat)]) := .tup (SqT.of upd_same) (.cons (.str _) (.cons (slotI _) .nil))
        have s1 := s7.trans (Same.nw (o := .tup [.str "g", .int ((g.row.length : Int) + 1)]) n1)
        have en1 := ent7.go z1
        generalize upd H7 q1 (.tup [.str "g", .int ((g.row.length : Int) + 1)]) = H8 at n2 n3 n4 n5 i1 s1 en1 ⊢
        have z2 : Go No H8 No (upd H8 q2 (.tup [.ref q1])) := Go.new n2
        have i2 : Im K (upd H8 q2 (.tup [.ref q1])) (.ref q2) (.tuple [.tuple [.str "g", .int (g.row.length + 1 : Nat)]]) := .tup (SqT.of upd_same) (.cons (i1.go z2) .nil)
        have s2 := s1.trans (Same.nw (o := .tup [.ref q1]) n2)
        have en2 := en1.go z2
        generalize upd H8 q2 (.tup [.ref q1]) = H9 at n3 n4 n5 i2 s2 en2 ⊢
        have z3 : Go No H9 No (upd H9 q3 (.tup [.str "batch", .ref q2])) := Go.new n3
        have i3 : Im K (upd H9 q3 (.tup [.str "batch", .ref q2])) (.ref q3) (Ent.batch [.tuple [.str "g", .int (g.row.length + 1 : Nat)]]).py := .tup (SqT.of upd_same) (.cons (.str _) (.cons (i2.go z3) .nil))
        have s3 := s2.trans (Same.nw (o := .tup [.str "batch", .ref q2]) n3)
        have en3 := en2.go z3
        generalize upd H9 q3 (.tup [.str "batch", .ref q2]) = H10 at n4 n5 i3 s3 en3 ⊢
        have z4 : Go No H10 No (upd H10 q4 (.tup [ev, .ref q3])) := Go.new n4
        have i4 : Im K (upd H10 q4 (.tup [ev, .ref q3])) (.ref q4) (.tuple [e.py, (Ent.batch [.tuple [.str "g", .int (g.row.length + 1 : Nat)]]).py]) := .tup (SqT.of upd_same) (.cons (en3.go z4) (.cons (i3.go z4) .nil))
        have s4 := s3.trans (Same.nw (o := .tup [ev, .ref q3]) n4)
        generalize upd H10 q4 (.tup [ev, .ref q3]) = H11 at n5 i4 s4 ⊢
        have z5 : Go No H11 No (upd H11 q5 (.tup [.str "give", .int ((g.row.length : Int) + 1), .ref q4])) := Go.new n5
        refine k (.ref q5) (.give e (.batch [.tuple [.str "g", .int (g.row.length + 1 : Nat)]])) _ (s4.trans (Same.nw n5)) (.tup (SqT.of upd_same) (.cons (.str _) (.cons (slotI _) (.cons (i4.go z5) .nil)))) ⟨ok6, by simp, fun x hx => ?_⟩
        obtain rfl : x = _ := by simpa using hx
        have l1 : g.row.length + 1 ≤ 10000 := by omega
        exact cmd_g l1
end
end Ck
/-! W29 -/
set_option maxHeartbeats 400000
namespace Ck
open PySem PySem.Spec PyProof.Rows L2
theorem good_w (z : Str) (d : Int) (h : PyData.strOk z = true) : good 10 (.tuple [.str z, .int d]) = true := List.all_eq_true.mpr fun x hx => by
  simp only [List.mem_cons, List.not_mem_nil, or_false] at hx
  rcases hx with rfl | rfl
  · exact h
  · rfl
section
variable {P : Program} {w : World} {K : PySem.W.Frag} {mg : Str → Option Value} {base : Heap}
theorem c_law_step (T : Txt K mg) : C8.Cal P w K mg base 11 "_law_step" (spStep K) [] := by
  refine cal T.f_law_step T.g_law_step (N := (["_law_box", "_law_node", "_law_kind"] : List Str)) (ps := (["_law_box", "_law_node"] : List Str)) (by decide +kernel) (fun _ _ _ _ _ _ us hl => match us, hl with | [_, _], _ => rfl) (fun vs H Q E h => ?_) (fun cdv A outer s H vs Q E hr h => ?_)
  · obtain ⟨_, _, _, _, _, _, _, _, rfl, _⟩ := h; rfl
  · obtain ⟨b, c, m, g, us, n, i, H0, rfl, h, hn, nb, s0, hb, k⟩ := h
    have nd : ((["_law_box", "_law_node", "_law_kind"] : List Str)).Nodup := by decide +kernel
    refine ⟨_,
      (pss_cons (ps_set (i := 2) nd rfl (by first | exact Or.inl rfl | exact Or.inr rfl) (C8.pe_c (c_law_take T) hr (by decide) rfl (pa_cons (L2.pv 0) (pa_cons pe_int pa_nil))))
        (pss_one (ps_if (pt_cmpR op_eq (L2.pv 2) pe_int (nomark _)) (pss_one (ps_expr (C8.pe_mt (c_Node_offer T) hr (by decide) (L2.pv 1) (pa_cons (pe_tup (pa_cons pe_str (pa_cons (C8.pe_c (c_law_take T) hr (by decide) rfl (pa_cons (L2.pv 0) (pa_cons pe_int pa_nil))) pa_nil))) pa_nil)))) (pss_one (ps_if (pt_cmpR op_eq (L2.pv 2) pe_int (nomark _)) (pss_one (ps_expr (C8.pe_mt0 (c_Node_tick T) hr (by decide) (L2.pv 1)))) (pss_one (ps_expr (C8.pe_mt (c_Node_receive T) hr (by decide) (L2.pv 1) (pa_cons (pe_op op_mod (pe_callTy call_int1 (by rfl) T.b_int bt_int (pa_cons (pe_op op_add (pe_fld (L2.pv 1) rfl) pe_int) pa_nil)) (pe_fld (L2.pv 1) rfl)) (pa_cons (C8.pe_c (c_law_message T) hr (by decide) rfl (pa_cons (L2.pv 0) (pa_cons (L2.pv 1) pa_nil))) pa_nil))))))))))
      , ?_⟩
    have hs := c.hs
    have hi0 := c.hi
    refine ⟨_, rfl, b, i, 10, rfl, hb, by decide, by decide, fun d1 j1 hd1 => ?_⟩
    obtain ⟨H1, e1, s1, hb1, y1⟩ := draw (o := .lst [.int j1]) nb s0 ⟨_, hb⟩
    rw [← e1]
    refine ⟨_, rfl, rfl, _, rfl, ?_⟩
    refine t_any ?_ ?_
    · obtain ⟨h1, x1⟩ := h.same s1
      refine ⟨_, rfl, c.p, c.pd, _, rfl, h1.own.get 0 rfl, rfl, _, rfl, b, j1, 99, rfl, hb1, by decide, by decide, fun d2 j2 hd2 => ?_⟩
      obtain ⟨H2, e2, s2, hb2, y2⟩ := draw (o := .lst [.int j2]) nb s1 ⟨_, hb1⟩
      rw [← e2]
      refine ⟨by show 2 ≤ sizeLine; decide, fun q nq => ?_⟩
      obtain ⟨h3, x3⟩ := h.same (s2.trans (Same.nw (o := .tup [.str "w", .int (d2 : Nat)]) nq))
      refine ⟨c, m, g, us, n, .ref q, .tuple [.str "w", .int (d2 : Nat)], rfl, h3, by omega, .tup (SqT.of upd_same) (.cons (.str _) (.cons (.int _) .nil)), good_w _ _ (by decide +kernel), fun g' us' bb H4 x4 h4 _ => ?_⟩
      exact k g' us' H4 (x3.trans x4) h4
    refine ⟨_, rfl, rfl, _, rfl, ?_⟩
    refine t_any ?_ ?_
    · obtain ⟨h1, x1⟩ := h.same s1
      exact ⟨_, rfl, c.p, c.pd, _, rfl, h1.own.get 0 rfl, rfl, c, m, g, us, n, rfl, h1, by omega, fun g' us' H4 x4 h4 => k g' us' H4 (x1.trans x4) h4⟩
    · obtain ⟨h1, x1⟩ := h.same s1
      refine ⟨_, rfl, c.p, c.pd, _, rfl, h1.own.get 0 rfl, rfl, _, rfl, c.p, _, c.pd, _, _, rfl, h1.own.get 0 rfl, T.c_Node, T.n_Node_index, rfl, _, _, rfl, rfl, .inl ⟨_, rfl, _, rfl, c.p, _, c.pd, _, _, rfl, h1.own.get 0 rfl, T.c_Node, T.n_Node_size, rfl, _, _, rfl, rfl, (by show (0 : Int) < _; omega), ?_⟩⟩
      refine ⟨_, rfl, _, rfl, b, c, m, g, us, n, j1, H0, rfl, h, hn, nb, s1, hb1, fun v x H2 s2 hv hx => ?_⟩
      obtain ⟨h2, x2⟩ := h.same s2
      exact ⟨c, m, g, us, n, _, v, x, rfl, h2, hn, hv, hx, fun g' us' H4 x4 h4 => k g' us' H4 (x2.trans x4) h4⟩
end
end Ck
/-! W30 -/
set_option maxHeartbeats 400000
namespace Ck
open PySem PySem.Spec PyProof.Rows L2
/-! ### a twin crashes and comes back -/
def tot : List (List Int) → Nat
  | [] => 0
  | p :: r => 6 + p.length + tot r
theorem tot_append (a b : List (List Int)) : tot (a ++ b) = tot a + tot b := by
  induction a with
  | nil => simp [tot]
  | cons p r ih => simp only [List.cons_append, tot, ih]; omega
theorem kept_snoc (l : List (List Int)) (p : List Int) (c : Nat) : kept (l ++ [p]) c = if tot (l ++ [p]) ≤ c then kept l c + 1 else kept l c := by
  induction l generalizing c with
  | nil => simp [kept, tot]
  | cons q r ih =>
    rw [List.cons_append, kept, ih, kept, tot]
    by_cases h : 6 + q.length ≤ c
    · rw [if_pos h, if_pos h]
      by_cases h2 : tot (r ++ [p]) ≤ c - (6 + q.length)
      · rw [if_pos h2, if_pos (by omega)]
      · rw [if_neg h2, if_neg (by omega)]
    · rw [if_neg h, if_neg h, if_neg (by omega)]
theorem recOf_ac_ok {us : List Upd} (h : ∀ u ∈ us, u.Ok) : ∀ r i e, (recOf us).ac = some (r, i, e) → e.Ok := by
  have key : ∀ (us : List Upd) (R : Rc), (∀ r i e, R.ac = some (r, i, e) → e.Ok) → (∀ u ∈ us, u.Ok) → ∀ r i e, (us.foldl Rc.do R).ac = some (r, i, e) → e.Ok := by
    intro us
    induction us with
    | nil => intro R h _; exact h
    | cons u us ih =>
      intro R h hu
      refine ih _ ?_ fun u hm => hu u (List.mem_cons_of_mem _ hm)
      have h1 := hu u List.mem_cons_self
      cases u with
      | pro s r i => exact h
      | acc s r i e =>
        intro r' i' e' z
        have z : some (r, i, e) = some (r', i', e') := z
        injection z with z
        injection z with _ z
        injection z with _ z
        rw [← z]
        exact h1.2.2.2
      | cho s e => exact fun _ _ _ z => nomatch z
  exact key us Rc.new (fun _ _ _ z => nomatch z) h
theorem good_tup {n : Nat} {l : List PyData} (h : ∀ d ∈ l, good n d = true) : good (n + 1) (.tuple l) = true := List.all_eq_true.mpr h
theorem good_list {n : Nat} {l : List PyData} (h : ∀ d ∈ l, good n d = true) : good (n + 1) (.list l) = true := List.all_eq_true.mpr h
theorem ent_good {e : Ent} (h : e.Ok) : good 10 e.py = true := good_mono (by decide) (pk_good (Ent.pk h))
theorem due_good {us : List Upd} (h : ∀ u ∈ us, u.Ok) : good 20 (.list [.list ((recOf us).row.map Ent.py), bal (recOf us).pr (recOf us).pi, accPy (recOf us).ac]) = true := by
  refine good_list fun d hd => ?_
  simp only [List.mem_cons, List.not_mem_nil, or_false] at hd
  rcases hd with rfl | rfl | rfl
  · refine good_mono (n := 11) (by decide) (good_list fun d hd => ?_)
    obtain ⟨e, he, rfl⟩ := List.mem_map.mp hd
    exact ent_good (recOf_ok h e he)
  · rfl
  · cases e0 : (recOf us).ac with
    | none => rfl
    | some q =>
      obtain ⟨r, i, e⟩ := q
      refine good_mono (n := 11) (by decide) (good_tup fun d hd => ?_)
      simp only [List.mem_cons, List.not_mem_nil, or_false] at hd
      rcases hd with rfl | rfl
      · rfl
      · exact ent_good (recOf_ac_ok h r i e e0)
theorem votesFrom_ok {n : Nat} {us : List Upd} (h : ∀ u ∈ us, u.Ok) : ∀ v ∈ votesFrom n us, v.2.2.2.2.Ok := by
  induction us generalizing n with
  | nil => exact fun _ z => nomatch z
  | cons u us ih =>
    have h1 := h u List.mem_cons_self
    have h2 := fun n => ih (n := n) fun u hu => h u (List.mem_cons_of_mem _ hu)
    cases u with
    | acc s r i e =>
      intro v hv
      rw [votesFrom] at hv
      rcases List.mem_cons.mp hv with rfl | hv
      · exact h1.2.2.2
      · exact h2 _ v hv
    | pro s r i => rw [votesFrom]; exact h2 _
    | cho s e => rw [votesFrom]; exact h2 _
theorem votes_good {n : Nat} {us : List Upd} (h : ∀ u ∈ us, u.Ok) : good 20 (.list ((votesFrom n us).map votePy)) = true := by
  refine good_mono (n := 12) (by decide) (good_list fun d hd => ?_)
  obtain ⟨v, hv, rfl⟩ := List.mem_map.mp hd
  refine good_tup fun d hd => ?_
  simp only [List.mem_cons, List.not_mem_nil, or_false] at hd
  rcases hd with rfl | rfl | rfl
  · rfl
  · rfl
  · exact ent_good (votesFrom_ok h v hv)
theorem pays_good (l : List (List Int)) : good 20 (.list (l.map fun p => .list (p.map PyData.int))) = true := by
  refine good_mono (n := 2) (by decide) (good_list fun d hd => ?_)
  obtain ⟨p, _, rfl⟩ := List.mem_map.mp hd
  exact good_ints p
/-- alike: not unlike -/
theorem ne_no {n : Nat} {d : PyData} (h : good n d = true) {A B : Prop} (x : B) : if (!PyData.eqv d d) = true then A else B := t_no (by rw [eqv_yes h]; rfl) x
def spBack (K : PySem.W.Frag) : Sp := fun vs H Q _ => ∃ (c : Nc) (S : Nat) (g : Nx) (us : List Upd) (n x : Nat) (p : Addr) (ps : List V) (F : Addr → Prop), vs = [.ref c.p, .int (x : Nat), .ref p, .int (S : Nat)] ∧ NDs K H c ⟨S, S, "up"⟩ g us n ∧ n ≤ 880 ∧ H p = some (.lst ps) ∧ Pays F H ps (us.map Upd.pack) ∧
  ∀ H', Same H H' → Q (.bl true) H'
section
variable {P : Program} {w : World} {K : PySem.W.Frag} {mg : Str → Option Value} {base : Heap}
theorem c_law_comes_back (T : Txt K mg) : C8.Cal P w K mg base 11 "_law_comes_back" (spBack K) [] := by
  refine cal T.f_law_comes_back T.g_law_comes_back (N := (["_law_node", "_law_count", "_law_payloads", "_law_synced", "_law_kept", "_law_rest", "_law_payload", "_law_twin", "_law_updates", "_law_due", "_law_acceptor", "_law_votes", "_law_update", "_law_asks", "_law_receiver", "_law_body"] : List Str)) (ps := (["_law_node", "_law_count", "_law_payloads", "_law_synced"] : List Str)) (by decide +kernel) (fun _ _ _ _ _ _ us hl => match us, hl with | [_, _, _, _], _ => rfl) (fun vs H Q E h => ?_) (fun cdv A outer s H vs Q E hr h => ?_)
  · obtain ⟨_, _, _, _, _, _, _, _, _, rfl, _⟩ := h; rfl
  · obtain ⟨c, S, g, us, n, x, p, ps, F, rfl, h, hn, hp, hps, k⟩ := h
    have nd : ((["_law_node", "_law_count", "_law_payloads", "_law_synced", "_law_kept", "_law_rest", "_law_payload", "_law_twin", "_law_updates", "_law_due", "_law_acceptor", "_law_votes", "_law_update", "_law_asks", "_law_receiver", "_law_body"] : List Str)).Nodup := by decide +kernel
    refine ⟨_,
      (pss_cons (ps_set (i := 4) nd rfl (by first | exact Or.inl rfl | exact Or.inr rfl) (L2.pv 3))
        (pss_cons (ps_set (i := 5) nd rfl (by first | exact Or.inl rfl | exact Or.inr rfl) (L2.pv 1))
        (C8.pss_cut (ps_for PassesOwn.never rfl (pi_list (pe_slice sl_list (L2.pv 2) (po_some (L2.pv 3)) po_none)) (pg_name (i := 6) nd rfl (by first | exact Or.inl rfl | exact Or.inr rfl)) (pss_cons (ps_set (i := 5) nd rfl (by first | exact Or.inl rfl | exact Or.inr rfl) (pe_op op_sub (pe_op op_sub (L2.pv 5) pe_int) (pe_callB call_len_seq (by rfl) T.b_len PySem.boot_len (pa_cons (L2.pv 6) pa_nil))))
        (pss_one (ps_if (pt_cmpR op_ge (L2.pv 5) pe_int (nomark _)) (pss_one (ps_set (i := 4) nd rfl (by first | exact Or.inl rfl | exact Or.inr rfl) (pe_op op_add (L2.pv 4) pe_int))) pss_nil))))
        (pss_cons (ps_set (i := 7) nd rfl (by first | exact Or.inl rfl | exact Or.inr rfl) (C8.pe_mt (c_Node_fork T) hr (by decide) (L2.pv 0) (pa_cons (C8.pe_gc rfl (gr T.g_law_make)) pa_nil)))
        (pss_cons (ps_expr (C8.pe_mt (c_Node_crash T) hr (by decide) (L2.pv 7) (pa_cons (L2.pv 1) pa_nil)))
        (pss_cons (ps_expr (C8.pe_mt0 (c_Node_restart T) hr (by decide) (L2.pv 7)))
        (pss_cons (ps_setLc (i := 8) rfl nd rfl rfl (sw_true rfl rfl rfl (by decide +kernel)) (pi_list (pe_slice sl_list (L2.pv 2) po_none (po_some (L2.pv 4)))) (blkOk_by (own := [("_law_payload", 6)]) (N := ["_law_node", "_law_count", "_law_payloads", "_law_synced", "_law_kept", "_law_rest", "_law_payload", "_law_twin", "_law_updates", "_law_due", "_law_acceptor", "_law_votes", "_law_update", "_law_asks", "_law_receiver", "_law_body"]) (sc := defScope s_law_comes_back) (by decide +kernel)) (fun _ _ _ _ _ => pg_name (i := 6) nd rfl (by first | exact Or.inl rfl | exact Or.inr rfl)) (fun _ _ _ _ _ => pts_nil) (fun _ _ _ _ _ => (C8.pe_c (c_unpack T) hr (by decide) rfl (pa_cons (L2.pv 6) pa_nil))))
        (pss_cons (ps_set (i := 9) nd rfl (by first | exact Or.inl rfl | exact Or.inr rfl) (C8.pe_c (c_law_state T) hr (by decide) rfl (pa_cons (L2.pv 8) pa_nil)))
        (pss_cons (ps_set (i := 10) nd rfl (by first | exact Or.inl rfl | exact Or.inr rfl) (pe_fld (pe_fld (L2.pv 7) rfl) rfl))
        (pss_cons (ps_if (PW.pt (pw_or (pt_cmpR (op_neD hr.units) (pe_lst (pa_cons (pe_fld (pe_fld (L2.pv 7) rfl) rfl) (pa_cons (pe_fld (L2.pv 10) rfl) (pa_cons (pe_fld (L2.pv 10) rfl) pa_nil)))) (L2.pv 9) (nomark _)) (pw_or1 (pt_cmpR (op_neD hr.units) (pe_fld (pe_fld (L2.pv 7) rfl) rfl) (C8.pe_c (c_law_lines T) hr (by decide) rfl (pa_cons (pe_ix ix_list (L2.pv 9) pe_int (fun _ _ => rfl)) pa_nil)) (nomark _))))) (pss_one (ps_ret pe_bl)) pss_nil)
        (pss_cons (ps_if (PW.pt (pw_or (pt_cmpR (op_neD hr.units) (C8.pe_mt0 (c_Journal_payloads T) hr (by decide) (pe_fld (L2.pv 7) rfl)) (pe_slice sl_list (L2.pv 2) po_none (po_some (L2.pv 4))) (nomark _)) (pw_or1 (pt_cmpR op_ne (pe_pr (c_Journal_synced_frames T) hr (by decide) (pe_fld (L2.pv 7) rfl)) (L2.pv 4) (nomark _))))) (pss_one (ps_ret pe_bl)) pss_nil)
        (pss_cons (ps_setLc (i := 11) rfl nd rfl rfl (sw_true rfl rfl rfl (by decide +kernel)) (pi_list (pe_slice sl_list (L2.pv 8) (po_some (L2.pv 3)) po_none)) (blkOk_by (own := [("_law_update", 12)]) (N := ["_law_node", "_law_count", "_law_payloads", "_law_synced", "_law_kept", "_law_rest", "_law_payload", "_law_twin", "_law_updates", "_law_due", "_law_acceptor", "_law_votes", "_law_update", "_law_asks", "_law_receiver", "_law_body"]) (sc := defScope s_law_comes_back) (by decide +kernel)) (fun _ _ _ _ _ => pg_name (i := 12) nd rfl (by first | exact Or.inl rfl | exact Or.inr rfl)) (fun _ _ _ _ _ => (pts_one (pt_cmpR op_eq (pe_ix (ix_tupK (K := K) rfl) (L2.pv 12) pe_int (fun _ _ => rfl)) pe_str (nomark _)))) (fun _ _ _ _ _ => (pe_slice (sl_tupK (K := K) rfl) (L2.pv 12) (po_some pe_int) po_none)))
        (pss_cons (ps_if (PW.pt (pw_or (pt_cmpR (op_neD hr.units) (C8.pe_mt0 (c_Node_new_votes T) hr (by decide) (L2.pv 7)) (L2.pv 11) (nomark _)) (pw_or (pt_cmpR (op_neD hr.units) (C8.pe_mt0 (c_Node_new_votes T) hr (by decide) (L2.pv 7)) (pe_lst pa_nil) (nomark _)) (pw_or (pt_cmpR (op_neD hr.units) (C8.pe_mt0 (c_Node_sends T) hr (by decide) (L2.pv 7)) (pe_lst pa_nil) (nomark _)) (pw_or1 (pt_cmpR (op_neD hr.units) (C8.pe_mt0 (c_Node_letters T) hr (by decide) (L2.pv 7)) (pe_lst pa_nil) (nomark _))))))) (pss_one (ps_ret pe_bl)) pss_nil)
        (pss_cons (ps_expr (C8.pe_mt (c_Node_offer T) hr (by decide) (L2.pv 7) (pa_cons (pe_tup (pa_cons pe_str (pa_cons pe_int pa_nil))) pa_nil)))
        (pss_cons (ps_expr (C8.pe_mt0 (c_Node_sync T) hr (by decide) (L2.pv 7)))
        (pss_cons (ps_if (pt_cmpR (op_neD hr.units) (C8.pe_mt0 (c_Node_new_votes T) hr (by decide) (L2.pv 7)) (pe_lst pa_nil) (nomark _)) (pss_one (ps_ret pe_bl)) pss_nil)
        (pss_cons (ps_setLc (i := 13) rfl nd rfl rfl (sw_true rfl rfl rfl (by decide +kernel)) (pi_list (C8.pe_mt0 (c_Node_sends T) hr (by decide) (L2.pv 7))) (blkOk_by (own := [("_law_receiver", 14), ("_law_body", 15)]) (N := ["_law_node", "_law_count", "_law_payloads", "_law_synced", "_law_kept", "_law_rest", "_law_payload", "_law_twin", "_law_updates", "_law_due", "_law_acceptor", "_law_votes", "_law_update", "_law_asks", "_law_receiver", "_law_body"]) (sc := defScope s_law_comes_back) (by decide +kernel)) (fun _ _ _ _ _ => pg_tupK (K := K) (n := 2) rfl (by rfl) (pgs_cons (pg_name (i := 14) nd rfl (by first | exact Or.inl rfl | exact Or.inr rfl)) (pgs_cons (pg_name (i := 15) nd rfl (by first | exact Or.inl rfl | exact Or.inr rfl)) pgs_nil))) (fun _ _ _ _ _ => (pts_one (pt_cmpR op_eq (pe_ix (ix_tupK (K := K) rfl) (L2.pv 15) pe_int (fun _ _ => rfl)) pe_str (nomark _)))) (fun _ _ _ _ _ => (L2.pv 15)))
        (pss_one (ps_ret (pe_and (pe_cmpR op_eq (pe_callB call_len_seq (by rfl) T.b_len PySem.boot_len (pa_cons (L2.pv 13) pa_nil)) (pe_fld (L2.pv 7) rfl) (nomark _)) (pe_and (pe_cmpR (op_eqD hr.units) (pe_ix ix_tup (pe_ix ix_list (L2.pv 13) pe_int (fun _ _ => rfl)) pe_int (fun _ _ => rfl)) (pe_tup (pa_cons (pe_op op_add (pe_ix ix_tup (pe_ix ix_list (L2.pv 9) pe_int (fun _ _ => rfl)) pe_int (fun _ _ => rfl)) pe_int) (pa_cons (pe_fld (L2.pv 0) rfl) pa_nil))) (nomark _)) (pe_one (pe_cmpR op_eq (pe_ix ix_tup (pe_ix ix_list (L2.pv 13) pe_int (fun _ _ => rfl)) pe_int (fun _ _ => rfl)) (pe_op op_add (pe_callB call_len_seq (by rfl) T.b_len PySem.boot_len (pa_cons (pe_ix ix_list (L2.pv 9) pe_int (fun _ _ => rfl)) pa_nil)) pe_int) (nomark _))))))))))))))))))))))))
      , ?_⟩
    have hul := h.d.ul
    have hsl : S ≤ us.length := h.d.sl
    have hpl := hps.length
    rw [List.length_map] at hpl
    obtain ⟨kk, hkk⟩ : ∃ kk, kk = S + kept ((us.map Upd.pack).drop S) x := ⟨_, rfl⟩
    have hkl := kept_le ((us.map Upd.pack).drop S) x
    rw [List.length_drop, List.length_map] at hkl
    refine ⟨_, rfl, _, rfl, ?_⟩
    refine ⟨fun σ H' => Same H H' ∧ ∃ v5 v6, σ = [some (.ref c.p), some (.int (x : Nat)), some (.ref p), some (.int (S : Nat)), some (.int (kk : Nat)), v5, v6, none, none, none, none, none, none, none, none, none], ?_, ?_⟩
    · refine ⟨_, rfl, _, rfl, _, rfl, p, _, rfl, SqL.of hp, fun C nC => ?_⟩
      rw [cut_from]
      refine ⟨C, rfl, ⟨_, SqL.of upd_same⟩, for_it (walk_list (xs := ps.drop S)) (fun i σ H' => H' = upd H C (.lst (ps.drop S)) ∧ ∃ (a : Nat) (r : Int) (v6 : Option V), a = S + kept (((us.map Upd.pack).drop S).take i) x ∧ r = (x : Nat) - (tot (((us.map Upd.pack).drop S).take i) : Nat) ∧ σ = [some (.ref c.p), some (.int (x : Nat)), some (.ref p), some (.int (S : Nat)), some (.int (a : Nat)), some (.int r), v6, none, none, none, none, none, none, none, none, none])
        ⟨rfl, S, x, none, by simp [kept], by simp [tot], rfl⟩ (fun i σ H' _ z => z.1 ▸ SqL.of upd_same) ?_ ?_⟩
      · rintro i y σ H1 H1' hi ⟨rfl, a, r, v6, ea, er, rfl⟩ ⟨rfl, hy⟩
        obtain ⟨d, hd, q, rfl, hq⟩ := (hps.drop S).of hy
        have hq1 : (upd H C (.lst (ps.drop S))) q = some (.lst (d.map V.int)) := by rw [upd_ne (ne_of_none hq.1 nC)]; exact hq.1
        have ek := kept_snoc (((us.map Upd.pack).drop S).take i) d x
        rw [← take_one hd] at ek
        have et := tot_append (((us.map Upd.pack).drop S).take i) [d]
        rw [← take_one hd] at et
        simp only [tot] at et
        refine ⟨_, rfl, _, _, rfl, rfl, _, rfl, q, _, rfl, .inl (SqL.of hq1), _, _, rfl, rfl, ?_⟩
        refine ⟨_, rfl, _, _, rfl, rfl, _, rfl, ?_⟩
        rw [List.length_map]
        by_cases h0 : tot (((us.map Upd.pack).drop S).take (i + 1)) ≤ x
        · refine t_yes (decide_eq_true (by omega)) ?_
          rw [if_pos h0] at ek
          exact ⟨_, rfl, _, _, rfl, rfl, rfl, a + 1, _, _, by omega, by omega, rfl⟩
        · refine t_no (decide_eq_false (by omega)) ?_
          rw [if_neg h0] at ek
          exact ⟨rfl, a, _, _, by omega, by omega, rfl⟩
      · rintro σ H1 ⟨rfl, a, r, v6, ea, er, rfl⟩
        refine ⟨Same.nw nC, some (.int r), v6, ?_⟩
        have e2 : ((us.map Upd.pack).drop S).take (ps.drop S).length = (us.map Upd.pack).drop S := List.take_of_length_le (by rw [List.length_drop, List.length_drop, List.length_map]; omega)
        rw [e2] at ea
        rw [hkk, ← ea]
    · rintro σ H1 ⟨s1, v5, v6, rfl⟩
      obtain ⟨h1, x1⟩ := h.same s1
      have hku : kk ≤ us.length := by omega
      have hSk : S ≤ kk := by omega
      have hkl2 : (us.take kk).length = kk := by rw [List.length_take]; omega
      -- the twin
      refine ⟨_, rfl, c.p, c.pd, _, rfl, h1.own.get 0 rfl, rfl, c, S, S, g, us, n, rfl, h1, by omega, fun t td g2 H2 s2 f2 h2 => ?_⟩
      refine ⟨_, rfl, t, td, _, rfl, h2.own.get 0 rfl, rfl, _, rfl, { c with p := t, pd := td, x := [] }, ⟨S, S, "up"⟩, g2, us, _, n, x, kk, rfl, h2, by omega, Nat.le_refl _, hkk, fun g3 H3 x3 h3 => ?_⟩
      obtain ⟨s3, f3⟩ := tw_step s2 f2 x3
      refine ⟨_, rfl, t, td, _, rfl, h3.own.get 0 rfl, rfl, { c with p := t, pd := td, x := [] }, _, g3, us.take kk, _, n, rfl, h3, by omega, fun g4 H4 x4 h4 b4 => ?_⟩
      obtain ⟨s4, f4⟩ := tw_step s3 f3 x4
      have s14 := s1.trans s4
      have h4 : NDs K H4 { c with p := t, pd := td, x := [] } ⟨kk, S, "up"⟩ g4 (us.take kk) n := h4
      obtain ⟨ba, bg, bw, bo, bs⟩ := b4
      -- the updates that were kept
      refine ⟨_, rfl, _, rfl, _, rfl, p, _, rfl, SqL.of (s14 _ _ hp), fun C nC => ?_⟩
      rw [cut_to]
      have s5 : Same H (upd H4 C (.lst (ps.take kk))) := s14.trans (Same.nw nC)
      refine ⟨C, rfl, ⟨_, SqL.of upd_same⟩, fun U nU => ?_⟩
      have UC : C ≠ U := ne_of_none upd_same nU
      have ptl : (ps.take kk).length = kk := by rw [List.length_take]; omega
      have pt := hps.take kk
      refine lc_it (walk_list (xs := ps.take kk)) (fun i H' => Same (upd H4 C (.lst (ps.take kk))) H' ∧ ∃ vs, H' U = some (.lst vs) ∧ vs.length = i ∧ Ims K H' vs ((us.take i).map Upd.py)) ⟨Same.nw nU, [], upd_same, rfl, .nil⟩ (fun i H' _ p => SqL.of (p.1 _ _ upd_same)) ?_ ?_
      · rintro i y H6 H6' hi ⟨s6, vs, hU, lU, iU⟩ ⟨rfl, hy⟩
        obtain ⟨d, hd, q, rfl, hq⟩ := pt.of hy
        rw [← List.map_take] at hd
        obtain ⟨u, hu, rfl⟩ := map_at hd
        have hik : i < kk := by omega
        have hu2 : us[i]? = some u := by rwa [List.getElem?_take_of_lt hik] at hu
        have huo := h.d.ok u (List.mem_of_getElem? hu2)
        have hq1 := s6 _ _ (s5 _ _ hq.1)
        refine ⟨rfl, _, rfl, q, u.py, 5, rfl, SqL.of hq1, Upd.pk huo, by decide, fun v H7 s7 hv => ?_⟩
        refine ⟨vs, s7 _ _ hU, small1000 (by omega), (s6.trans s7).mt nU, vs ++ [v], upd_same, by rw [List.length_append, lU]; rfl, ?_⟩
        have g8 : Go (fun a => a = U) H7 (fun a => a = U) (upd H7 U (.lst (vs ++ [v]))) := Go.put (u := .lst vs) rfl (s7 _ _ hU) trivial
        rw [take_one hu2, List.map_append]
        exact ((iU.go (Go.same (F := No) s7)).go g8).append (.cons (hv.go g8) .nil)
      · rintro H6 ⟨s6, vs, hU, lU, iU⟩
        rw [ptl] at iU
        have s16 := s5.trans s6
        obtain ⟨h6, x6⟩ := h4.same ((Same.nw (o := .lst (ps.take kk)) nC).trans s6)
        obtain ⟨t6, f6⟩ := tw_step s4 f4 x6
        clear s5 s6 x6
        -- what is due
        refine ⟨_, rfl, U, vs, us.take kk, rfl, SqL.of hU, iU, by omega, fun L D row pv av H7 nL nD s7 hL hD d7 => ?_⟩
        have nLF := h6.own.no nL
        have nDF := h6.own.no nD
        obtain ⟨h7, x7⟩ := h6.same s7
        obtain ⟨t7, f7⟩ := tw_step t6 f6 x7
        have s17 := s16.trans s7
        have hU7 := s7 _ _ hU
        have iU7 := iU.go (Go.same (F := No) s7)
        refine ⟨_, rfl, t, _, td, _, _, rfl, h7.own.get 0 rfl, T.c_Node, T.n_Node_record, rfl, g4.r, _, g4.rd, _, _, rfl, h7.own.get 3 rfl, T.c_Record, T.n_Record_acceptor, rfl, ?_⟩
        have hok : ∀ u ∈ us.take kk, u.Ok := fun u hu => h.d.ok u (List.mem_of_mem_take hu)
        have hR := recOf_ok hok
        -- the row and the acceptor
        refine ⟨_, rfl, t, _, td, _, _, rfl, h7.own.get 0 rfl, T.c_Node, T.n_Node_record, rfl, g4.r, _, g4.rd, _, _, rfl, h7.own.get 3 rfl, T.c_Record, T.n_Record_row, rfl, _, rfl, g4.ac, _, g4.ad, _, _, rfl, h7.own.get 5 rfl, T.c_Acceptor, T.n_Acceptor_promised, rfl, _, rfl, g4.ac, _, g4.ad, _, _, rfl, h7.own.get 5 rfl, T.c_Acceptor, T.n_Acceptor_accepted, rfl, by show 3 ≤ sizeLine; decide, fun q nq => ?_⟩
        obtain ⟨h8, x8⟩ := h7.same (Same.nw (o := .lst [.ref g4.rr, g4.pv, g4.av]) nq)
        have y8 : Go No H7 No (upd H7 q (.lst [.ref g4.rr, g4.pv, g4.av])) := Go.new nq
        have s8 : Same H7 (upd H7 q (.lst [.ref g4.rr, g4.pv, g4.av])) := Same.nw nq
        have d8 := d7.go y8
        refine ⟨_, rfl, _, _, .lst (SqL.of upd_same) (.cons (dp_list (SqL.of (h8.own.get 4 rfl)) h8.d.rc.row) (.cons h8.d.rc.pr.dp (.cons h8.d.rc.ac.dp .nil))), .lst (SqL.of (s8 _ _ hL)) (.cons (dp_list (SqL.of (s8 _ _ hD)) d8.row) (.cons d8.pr.dp (.cons d8.ac.dp .nil))), shaped_good (due_good hok), shaped_good (due_good hok), _, rfl, ?_⟩
        refine ne_no (due_good hok) ?_
        generalize upd H7 q (.lst [.ref g4.rr, g4.pv, g4.av]) = H8 at h8 x8 s8 d8 ⊢
        obtain ⟨t8, f8⟩ := tw_step t7 f7 x8
        have s18 := s17.trans s8
        have hRl := recOf_row_le (us.take kk)
        -- the lines
        refine ⟨_, rfl, t, _, td, _, _, rfl, h8.own.get 0 rfl, T.c_Node, T.n_Node_machine, rfl, g4.m, _, g4.md, _, _, rfl, h8.own.get 6 rfl, T.c_Diary, T.n_Diary_lines, rfl, _, rfl, L, _, _, _, rfl, rfl, SqL.of (s8 _ _ hL), at_of (j := 0) rfl rfl, D, row, (recOf (us.take kk)).row, rfl, SqL.of (s8 _ _ hD), d8.row, hR, by omega, fun L2 ls2 H9 s9 hL2 i9 => ?_⟩
        obtain ⟨h9, x9⟩ := h8.same s9
        obtain ⟨t9, f9⟩ := tw_step t8 f8 x9
        have hgl : good 20 (.list (linesOf (recOf (us.take kk)).row)) = true := good_mono (n := 11) (by decide) (good_list fun d hd => (h9.linesOk.2 d hd).good)
        refine ⟨_, _, dp_list (SqL.of (h9.own.get 7 rfl)) h9.d.ln, dp_list (SqL.of hL2) i9, shaped_good hgl, shaped_good hgl, _, rfl, ?_⟩
        refine ne_no hgl ?_
        have s19 := s18.trans s9
        have e20 : (us.map Upd.pack).take kk = (us.take kk).map Upd.pack := (List.map_take ..).symm
        -- the payloads
        refine ⟨_, rfl, t, _, td, _, _, rfl, h9.own.get 0 rfl, T.c_Node, T.n_Node_journal, rfl, g4.j, g4.jd, _, rfl, h9.own.get 1 rfl, rfl, g4.j, g4.jd, g4.jr, g4.rows, kk, _, _, rfl, h9.own.nj, h9.d.pays, by rw [List.length_map]; omega, fun D3 us3 H10 n3 s10 hD3 p10 => ?_⟩
        refine ⟨_, rfl, _, rfl, _, rfl, p, _, rfl, SqL.of (s10 _ _ (s19 _ _ hp)), fun C3 nC3 => ?_⟩
        rw [cut_to]
        have s11 : Same H10 (upd H10 C3 (.lst (ps.take kk))) := Same.nw nC3
        have s21 := (s19.trans s10).trans s11
        have pt2 := pt.go (Go.same (F := F) s21)
        rw [e20] at pt2
        refine ⟨_, _, .lst (SqL.of (s11 _ _ hD3)) (p10.go (Go.same (F := _) s11)).dp, .lst (SqL.of upd_same) pt2.dp, shaped_good (pays_good _), shaped_good (pays_good _), _, rfl, ?_⟩
        refine ne_no (pays_good _) ?_
        obtain ⟨h11, x11⟩ := h9.same (s10.trans s11)
        obtain ⟨t11, f11⟩ := tw_step t9 f9 x11
        generalize upd H10 C3 (.lst (ps.take kk)) = H11 at s11 s21 pt2 h11 x11 t11 ⊢
        refine ⟨_, rfl, t, _, td, _, _, rfl, h11.own.get 0 rfl, T.c_Node, T.n_Node_journal, rfl, g4.j, g4.jd, _, rfl, h11.own.get 1 rfl, g4.j, g4.jd, g4.jr, g4.rows, kk, rfl, h11.own.nj, _, rfl, rfl, _, rfl, ?_⟩
        refine t_no (by simp) ?_
        -- the votes
        have s7b : Same H7 H11 := ((s8.trans s9).trans s10).trans s11
        have hU11 := s7b _ _ hU7
        have iU11 := iU7.go (Go.same (F := No) s7b)
        refine ⟨_, rfl, _, rfl, _, rfl, U, _, rfl, SqL.of hU11, fun C4 nC4 => ?_⟩
        rw [cut_from]
        have s12 : Same H11 (upd H11 C4 (.lst (vs.drop S))) := Same.nw nC4
        refine ⟨C4, rfl, ⟨_, SqL.of upd_same⟩, fun W nW => ?_⟩
        have hdl : ((us.take kk).drop S).length ≤ kk := by rw [List.length_drop]; omega
        have nWF := (h11.same s12).1.own.no nW
        have dl : (vs.drop S).length = ((us.take kk).drop S).length := by rw [List.length_drop, List.length_drop]; omega
        refine lc_it (walk_list (xs := vs.drop S)) (fun i H' => Same (upd H11 C4 (.lst (vs.drop S))) H' ∧ ∃ ws, H' W = some (.lst ws) ∧ ws.length ≤ i ∧ Ims K H' ws ((votesFrom S (((us.take kk).drop S).take i)).map votePy)) ⟨Same.nw nW, [], upd_same, Nat.le_refl _, .nil⟩ (fun i H' _ p => SqL.of (p.1 _ _ upd_same)) ?_ ?_
        · rintro i y H13 H13' hi ⟨s13, ws, hW, lW, iW⟩ ⟨rfl, hy⟩
          have iU13 := (iU11.go (Go.same (F := No) (s12.trans s13))).drop S
          obtain ⟨d, hd, iy⟩ := iU13.of hy
          rw [← List.map_drop] at hd
          obtain ⟨u, hu, rfl⟩ := map_at hd
          have e1 := take_one hu
          have hil : (((us.take kk).drop S).take i).length = i := by rw [List.length_take]; omega
          rw [e1, votesFrom_append, hil]
          have no : votesFrom (S + i) [u] = [] → Same (upd H11 C4 (.lst (vs.drop S))) H13' ∧ ∃ ws, H13' W = some (.lst ws) ∧ ws.length ≤ i + 1 ∧ Ims K H13' ws ((votesFrom S (((us.take kk).drop S).take i) ++ votesFrom (S + i) [u]).map votePy) := fun z => ⟨s13, ws, hW, by omega, by rw [z, List.append_nil]; exact iW⟩
          cases u with
          | pro s r i' =>
            obtain ⟨a, xs, rfl, hT, hX⟩ := iy.tuple
            obtain ⟨v0, e0, i0⟩ := hX.at_ (i := 0) rfl
            cases i0.strE
            refine ⟨rfl, _, rfl, a, _, _, _, rfl, rfl, hT, at_of (j := 0) rfl e0, rfl, ?_⟩
            exact ⟨_, rfl, t_no (str_ne (by decide +kernel)) (no rfl)⟩
          | cho s e =>
            obtain ⟨a, xs, rfl, hT, hX⟩ := iy.tuple
            obtain ⟨v0, e0, i0⟩ := hX.at_ (i := 0) rfl
            cases i0.strE
            refine ⟨rfl, _, rfl, a, _, _, _, rfl, rfl, hT, at_of (j := 0) rfl e0, rfl, ?_⟩
            exact ⟨_, rfl, t_no (str_ne (by decide +kernel)) (no rfl)⟩
          | acc s r i' e =>
            clear no
            obtain ⟨a, xs, rfl, hT, hX⟩ := iy.tuple
            obtain ⟨v0, e0, i0⟩ := hX.at_ (i := 0) rfl
            cases i0.strE
            refine ⟨rfl, _, rfl, a, _, _, _, rfl, rfl, hT, at_of (j := 0) rfl e0, rfl, ?_⟩
            refine ⟨_, rfl, t_yes (decide_eq_true rfl) ?_⟩
            refine ⟨_, rfl, _, rfl, a, _, rfl, hT, slice1 hX.length, fun t2 nt2 => ?_⟩
            rw [show (some (1 : Int)) = some ((1 : Nat) : Int) from rfl, cut_from]
            have hW2 : (upd H13' t2 (.tup (xs.drop 1))) W = some (.lst ws) := by rw [upd_ne (ne_of_none hW nt2)]; exact hW
            have z1 : Go (fun a => a = W) H13' (fun a => a = W) (upd H13' t2 (.tup (xs.drop 1))) := Go.new nt2
            have z2 : Go (fun a => a = W) _ (fun a => a = W) (upd (upd H13' t2 (.tup (xs.drop 1))) W (.lst (ws ++ [.ref t2]))) := Go.put (u := .lst ws) rfl hW2 trivial
            refine ⟨ws, hW2, small1000 (by omega), (s13.trans (Same.nw nt2)).mt nW, ws ++ [.ref t2], upd_same, by rw [List.length_append]; simp only [List.length_cons, List.length_nil]; omega, ?_⟩
            rw [List.map_append]
            exact (iW.go (z1.trans z2)).append (.cons (.tup (vs := xs.drop 1) (sqT_go z2 (SqT.of upd_same)) ((Ims.drop 1 hX).go (z1.trans z2))) .nil)
        · rintro H13 ⟨s13, ws, hW, lW, iW⟩
          rw [dl, List.take_length] at iW
          have iW : Ims K H13 ws ((castOf S (us.take kk)).map votePy) := iW
          have s11b := s12.trans s13
          obtain ⟨h13, x13⟩ := h11.same s11b
          obtain ⟨t13, f13⟩ := tw_step t11 f11 x13
          have s113 := s21.trans s11b
          -- the twin's votes, twice
          refine ⟨_, rfl, t, td, _, rfl, h13.own.get 0 rfl, rfl, _, _, g4, us.take kk, _, n, rfl, h13, hkl2.symm, by omega, fun V1 w1 D1 H14 x14 h14 hV1 iV1 => ?_⟩
          have hW14 := x14.keep W _ hW nWF
          have hvg : good 20 (.list ((castOf S (us.take kk)).map votePy)) = true := votes_good fun u hu => hok u (List.mem_of_mem_drop hu)
          have iV1 : Ims K H14 w1 ((castOf S (us.take kk)).map votePy) := iV1
          refine ⟨_, rfl, _, _, .lst (SqL.of hV1) iV1.dp, .lst (SqL.of hW14) (iW.go x14).dp, shaped_good hvg, shaped_good hvg, _, rfl, ?_⟩
          refine ne_no hvg ?_
          obtain ⟨t14, f14⟩ := tw_step t13 f13 x14
          have nil_good : good 20 (.list []) = true := rfl
          refine ⟨_, rfl, t, td, _, rfl, h14.own.get 0 rfl, rfl, _, _, _, us.take kk, _, n, rfl, h14, hkl2.symm, by omega, fun V2 w2 D2 H15 x15 h15 hV2 iV2 => ?_⟩
          have iV2 : Ims K H15 w2 ((castOf (us.take kk).length (us.take kk)).map votePy) := iV2
          rw [castOf_done] at iV2
          cases iV2
          obtain ⟨t15, f15⟩ := tw_step t14 f14 x15
          refine ⟨Nat.zero_le _, fun q2 nq2 => ?_⟩
          have s16a : Same H15 (upd H15 q2 (.lst [])) := Same.nw nq2
          refine ⟨_, _, .lst (SqL.of (s16a _ _ hV2)) .nil, .lst (SqL.of upd_same) .nil, shaped_good nil_good, shaped_good nil_good, _, rfl, ?_⟩
          refine ne_no nil_good ?_
          obtain ⟨h16, x16⟩ := h15.same s16a
          obtain ⟨t16, f16⟩ := tw_step t15 f15 x16
          -- nothing to send
          refine ⟨_, rfl, t, td, _, rfl, h16.own.get 0 rfl, rfl, _, _, _, us.take kk, _, n, rfl, h16, hkl2.symm, fun D3 H17 x17 h17 hO => ?_⟩
          have hO : H17 g4.ob = some (.lst g4.os) := hO
          rw [bo] at hO
          obtain ⟨t17, f17⟩ := tw_step t16 f16 x17
          refine ⟨Nat.zero_le _, fun q3 nq3 => ?_⟩
          have s18a : Same H17 (upd H17 q3 (.lst [])) := Same.nw nq3
          refine ⟨_, _, .lst (SqL.of (s18a _ _ hO)) .nil, .lst (SqL.of upd_same) .nil, shaped_good nil_good, shaped_good nil_good, _, rfl, ?_⟩
          refine ne_no nil_good ?_
          obtain ⟨h18, x18⟩ := h17.same s18a
          obtain ⟨t18, f18⟩ := tw_step t17 f17 x18
          refine ⟨_, rfl, t, td, _, rfl, h18.own.get 0 rfl, rfl, _, _, _, us.take kk, _, n, rfl, h18, hkl2.symm, fun D4 H19 x19 h19 hP => ?_⟩
          have hP : H19 g4.sp = some (.lst g4.ss) := hP
          rw [bs] at hP
          obtain ⟨t19, f19⟩ := tw_step t18 f18 x19
          refine ⟨Nat.zero_le _, fun q4 nq4 => ?_⟩
          have s20a : Same H19 (upd H19 q4 (.lst [])) := Same.nw nq4
          refine ⟨_, _, .lst (SqL.of (s20a _ _ hP)) .nil, .lst (SqL.of upd_same) .nil, shaped_good nil_good, shaped_good nil_good, _, rfl, ?_⟩
          refine ne_no nil_good ?_
          obtain ⟨h20, x20⟩ := h19.same s20a
          obtain ⟨t20, f20⟩ := tw_step t19 f19 x20
          have x1320 := (((((x14.trans x15).trans x16).trans x17).trans x18).trans x19).trans x20
          have fL : Fz (Ft (nob K { c with p := t, pd := td, x := [] } ⟨kk, S, "up"⟩ g4)) H13 L (.lst [.ref D, pv, av]) := ⟨s11b _ _ (s7b _ _ hL), nLF⟩
          have fD : Fz (Ft (nob K { c with p := t, pd := td, x := [] } ⟨kk, S, "up"⟩ g4)) H13 D (.lst row) := ⟨s11b _ _ (s7b _ _ hD), nDF⟩
          have fL := fL.go x1320
          have fD := fD.go x1320
          have d20 := (d7.go (Go.same (F := No) (s7b.trans s11b))).go x1320
          obtain ⟨g5, m5, hm1, hm2, h21, a1, a2, a3, a4, fL, fD⟩ : ∃ (g5 : Nx) (m5 : Nm), m5.S = (us.take kk).length ∧ m5.cb = (us.take kk).length ∧ (NDs K (upd H19 q4 (.lst [])) { c with p := t, pd := td, x := [] } m5 g5 (us.take kk) n ∧ ∀ a, Ft (nob K { c with p := t, pd := td, x := [] } m5 g5) a → H1 a = none) ∧ g5.att = .non ∧ g5.gu = false ∧ g5.wr = [] ∧ g5.os = [] ∧ Fz (Ft (nob K { c with p := t, pd := td, x := [] } m5 g5)) (upd H19 q4 (.lst [])) L (.lst [.ref D, pv, av]) ∧ Fz (Ft (nob K { c with p := t, pd := td, x := [] } m5 g5)) (upd H19 q4 (.lst [])) D (.lst row) :=
            ⟨_, _, hkl2.symm, rfl, ⟨h20, f20⟩, ba, bg, bw, rfl, fL, fD⟩
          obtain ⟨h21, f21⟩ := h21
          clear x1320 x14 h14 x15 h15 x16 h16 x17 h17 x18 h18 x19 h19 x20 h20 f20 f19 f18 f17 f16 f15 f14
          generalize upd H19 q4 (.lst []) = H20 at h21 t20 d20 fL fD ⊢
          -- an offer
          refine ⟨_, rfl, t, td, _, rfl, h21.own.get 0 rfl, rfl, by show 2 ≤ sizeLine; decide, fun q5 nq5 => ?_⟩
          have s21a : Same H20 (upd H20 q5 (.tup [.str "after", .int 1])) := Same.nw nq5
          obtain ⟨h22, x22⟩ := h21.same s21a
          obtain ⟨t22, f22⟩ := tw_step t20 f21 x22
          have hag : good 10 (.tuple [.str "after", .int 1]) = true := good_w _ _ (by decide +kernel)
          have anyF : (linesOf (recOf (us.take kk)).row).any (fun z => PyData.eqv z (.tuple [.str "after", .int 1])) = false := by
            rw [List.any_eq_false]
            intro z hz
            have hc := h22.linesOk.2 z hz
            rw [eqv_no hc.good hag (hc.2.2.2 _)]
            exact Bool.false_ne_true
          refine ⟨_, m5, g5, us.take kk, n, .ref q5, .tuple [.str "after", .int 1], rfl, h22, by omega, .tup (SqT.of upd_same) (.cons (.str _) (.cons (.int _) .nil)), hag, fun g6 us6 bb H23 x23 h23 ask => ?_⟩
          obtain ⟨rfl, ts, y, eos, hlt, hts, hy⟩ := ask a1 a2 a3 anyF
          rw [a4, List.nil_append] at eos
          obtain ⟨t23, f23⟩ := tw_step t22 f22 x23
          refine ⟨_, rfl, t, td, _, rfl, h23.own.get 0 rfl, rfl, _, m5, g6, _, _, n + 10, rfl, h23, fun H24 x24 h24 => ?_⟩
          obtain ⟨t24, f24⟩ := tw_step t23 f23 x24
          refine ⟨_, rfl, t, td, _, rfl, h24.own.get 0 rfl, rfl, _, _, g6, _, _, n + 10, rfl, h24, rfl, by omega, fun V3 w3 D5 H25 x25 h25 hV3 iV3 => ?_⟩
          have iV3 : Ims K H25 w3 ((castOf m5.cb (us.take kk ++ [.pro ((recOf (us.take kk)).row.length + 1) ((recOf (us.take kk)).pr + 1) c.ix])).map votePy) := iV3
          rw [hm2, castOf_snoc (Nat.le_refl _), castOf_done] at iV3
          cases iV3
          obtain ⟨t25, f25⟩ := tw_step t24 f24 x25
          refine ⟨Nat.zero_le _, fun q6 nq6 => ?_⟩
          have s26a : Same H25 (upd H25 q6 (.lst [])) := Same.nw nq6
          refine ⟨_, _, .lst (SqL.of (s26a _ _ hV3)) .nil, .lst (SqL.of upd_same) .nil, shaped_good nil_good, shaped_good nil_good, _, rfl, ?_⟩
          refine ne_no nil_good ?_
          obtain ⟨h26, x26⟩ := h25.same s26a
          obtain ⟨t26, f26⟩ := tw_step t25 f25 x26
          -- what it sends
          refine ⟨_, rfl, t, td, _, rfl, h26.own.get 0 rfl, rfl, _, _, _, _, _, n + 10, rfl, h26, rfl, fun D6 H27 x27 h27 hO => ?_⟩
          have hO : H27 g6.ob = some (.lst g6.os) := hO
          rw [eos] at hO
          obtain ⟨t27, f27⟩ := tw_step t26 f26 x27
          have xy := ((x24.trans x25).trans x26).trans x27
          have hy27 := hy.go xy
          obtain ⟨ya, ys, rfl, hyT, hyU⟩ := hy27.tuple
          rcases hyU with _ | ⟨y0, _ | ⟨y1, _ | ⟨y2, _ | _⟩⟩⟩
          refine ⟨g6.ob, rfl, ⟨_, SqL.of hO⟩, fun A nA => ?_⟩
          refine lc_it (walk_list (xs := ts)) (fun i H' => Same H27 H' ∧ H' A = some (.lst (List.replicate i (.ref ya)))) ⟨Same.nw nA, upd_same⟩ (fun i H' _ p => p.1.seq (SqL.of hO)) ?_ ?_
          · rintro i z H29 H29' hi ⟨s29, hA⟩ ⟨rfl, hz⟩
            obtain ⟨t', z', rfl, hT'⟩ := hts z (List.mem_of_getElem? hz)
            have hT2 := sqT_go (F := No) (F' := No) (Go.same s29) (sqT_go xy hT')
            have hyT2 := sqT_go (F := No) (F' := No) (Go.same s29) hyT
            refine ⟨t', _, rfl, hT2, rfl, _, _, rfl, _, _, rfl, rfl, rfl, _, rfl, ya, _, _, _, rfl, rfl, hyT2, at_of (j := 0) rfl (by rw [y0.strE]; rfl), rfl, ?_⟩
            refine ⟨_, rfl, t_yes (decide_eq_true rfl) ?_⟩
            have hs := c.hs
            refine ⟨_, rfl, _, hA, small1000 (by rw [List.length_replicate]; have : ts.length = c.sz := hlt; omega), s29.mt nA, ?_⟩
            rw [List.replicate_succ']
            exact upd_same
          · rintro H29 ⟨s29, hA⟩
            have hl2 : ts.length = c.sz := hlt
            obtain ⟨h29, x29⟩ := h27.same s29
            obtain ⟨t29, f29⟩ := tw_step t27 f27 x29
            have hall := ((((x22.trans x23).trans xy).trans x29))
            have fL := fL.go hall
            have fD := fD.go hall
            have d29 := d20.go hall
            have hi0 := c.hi
            have hyT3 := sqT_go (F := No) (F' := No) (Go.same s29) hyT
            have y1e := y1.intE
            subst y1e
            have y2' := y2.go (F := No) (F' := No) (Go.same s29)
            have hrl := d29.row.length
            rw [List.length_map] at hrl
            obtain ⟨pa, epv, hpa⟩ := bal_cells d29.pr
            refine ⟨_, rfl, A, _, rfl, .inl (SqL.of hA), _, rfl, t, _, td, _, _, rfl, h29.own.get 0 rfl, T.c_Node, T.n_Node_size, rfl, rfl, ?_⟩
            have h0L : (List.replicate ts.length (V.ref ya))[0]? = some (.ref ya) := by
              rw [List.getElem?_replicate, if_pos (by omega)]
            refine ⟨_, rfl, ?_⟩
            refine t_yes (decide_eq_true (by rw [List.length_replicate, hl2])) ?_
            refine ⟨_, rfl, A, _, _, _, rfl, rfl, SqL.of hA, at_of (j := 0) rfl h0L, ya, _, _, _, rfl, rfl, hyT3, at_of (j := 2) rfl rfl, _, rfl, L, _, _, _, rfl, rfl, SqL.of fL.1, at_of (j := 1) rfl rfl, pa, _, _, _, epv, rfl, hpa, at_of (j := 0) rfl rfl, _, _, rfl, rfl, _, rfl, c.p, _, c.pd, _, _, rfl, (h.same (s1.trans t29)).1.own.get 0 rfl, T.c_Node, T.n_Node_index, rfl, by show 2 ≤ sizeLine; decide, fun q7 nq7 => ?_⟩
            have s30 : Same H29 (upd H29 q7 (.tup [.int ((((recOf (us.take kk)).pr : Nat) : Int) + 1), .int (c.ix : Nat)])) := Same.nw nq7
            have z30 : Go No H29 No (upd H29 q7 (.tup [.int ((((recOf (us.take kk)).pr : Nat) : Int) + 1), .int (c.ix : Nat)])) := Go.new nq7
            have i30 : Im K (upd H29 q7 (.tup [.int ((((recOf (us.take kk)).pr : Nat) : Int) + 1), .int (c.ix : Nat)])) (.ref q7) (bal ((recOf (us.take kk)).pr + 1) c.ix) := .tup (SqT.of upd_same) (.cons (.int _) (.cons (.int _) .nil))
            refine ⟨_, _, (y2'.go z30).dp, i30.dp, shaped_good (bal_good _ _), shaped_good (bal_good _ _), _, rfl, ?_⟩
            refine t_yes (eqv_yes (bal_good _ _)) ?_
            refine ⟨_, rfl, A, _, _, _, rfl, rfl, SqL.of (s30 _ _ hA), at_of (j := 0) rfl h0L, ya, _, _, _, rfl, rfl, sqT_go z30 hyT3, at_of (j := 1) rfl rfl, _, rfl, L, _, _, _, rfl, rfl, SqL.of (s30 _ _ fL.1), at_of (j := 0) rfl rfl, D, _, rfl, .inl (SqL.of (s30 _ _ fD.1)), _, _, rfl, rfl, rfl, ?_⟩
            rw [decide_eq_true (show V.int ((recOf (us.take kk)).row.length + 1 : Nat) = V.int (((row.length : Nat) : Int) + 1) by rw [hrl]; rfl)]
            exact k _ ((s1.trans t29).trans s30)
end
end Ck
/-! W31 -/
set_option maxHeartbeats 400000
namespace Ck
open PySem PySem.Spec PyProof.Rows L2
/-! ### the law -/
def spLaw (K : PySem.W.Frag) : Sp := fun vs H Q _ => ∃ (a : Addr) (ns : List Int), vs = [.ref a] ∧ SqL K H a (ns.map V.int) ∧ ns.length ≤ 63 ∧ ∀ H', Q (.bl true) H'
/-- a list that stands and stays: none of those that may change, or frozen -/
def Ls (K : PySem.W.Frag) (F : Addr → Prop) (H : Hp) (a : Addr) (xs : List V) : Prop := (H a = some (.lst xs) ∧ ¬ F a) ∨ ∀ H' : Hp, (∀ b o u, H b = some (.frz o u) → H' b = some (.frz o u)) → SqL K H' a xs
theorem Ls.sq {K : PySem.W.Frag} {F : Addr → Prop} {H : Hp} {a : Addr} {xs : List V} (h : Ls K F H a xs) : SqL K H a xs := h.elim (fun z => SqL.of z.1) fun z => z H fun _ _ _ e => e
theorem Ls.go {K : PySem.W.Frag} {F F' : Addr → Prop} {H H' : Hp} {a : Addr} {xs : List V} (h : Ls K F H a xs) (x : Go F H F' H') : Ls K F' H' a xs :=
  h.elim (fun z => .inl ⟨x.keep _ _ z.1 z.2, fun f => (x.foot a f).elim z.2 fun n => by rw [z.1] at n; cases n⟩) fun z => .inr fun H2 f => z H2 fun b o u e => f b o u (x.frzs b o u e)
theorem Ls.of {K : PySem.W.Frag} {F : Addr → Prop} {H H' : Hp} {a : Addr} {xs : List V} (h : SqL K H a xs) (s : Same H H') (n : H a = some (.lst xs) → ¬ F a) : Ls K F H' a xs := by
  rcases h with (h | ⟨o, h⟩) | h
  · exact .inl ⟨s _ _ h, n h⟩
  · exact .inr fun H2 f => .inl (.inr ⟨o, f _ _ _ (s _ _ h)⟩)
  · exact .inr fun _ _ => .inr h
abbrev mkC (p pd : Addr) (ix sz : Nat) (fm : V) (hs : sz ≤ 5) (hi : ix < sz) (B : Addr) (j : Int) : Nc := ⟨p, pd, ix, sz, fm, [(B, .lst [.int j])], hs, hi⟩
theorem memv_rg {K : PySem.W.Frag} {H : Hp} {q : Addr} {a b : Int} (h : H q = some (.tup (rgV a b))) : MemV K H (.ref q) := ⟨q, (List.range (b - a).toNat).map fun (i : Nat) => a + (i : Nat), rfl, by rw [List.map_map]; exact SqT.of h⟩
theorem Pays.nil_any {F G : Addr → Prop} {H : Hp} {vs : List V} (h : Pays F H vs []) : Pays G H vs [] := by
  cases h
  exact .nil
theorem ND.addx {K : PySem.W.Frag} {H : Hp} {p pd : Addr} {ix sz : Nat} {fm : V} {hs : sz ≤ 5} {hi : ix < sz} {m : Nm} {g : Nx} {n : Nat} {B : Addr} {j : Int} (h : ND K H ⟨p, pd, ix, sz, fm, [], hs, hi⟩ m g [] [] n) (hB : H B = some (.lst [.int j])) (nB : ¬ Ft (nob K ⟨p, pd, ix, sz, fm, [], hs, hi⟩ m g) B) (ha : g.att = .non) :
    ND K H (mkC p pd ix sz fm hs hi B j) m g [] [] n := by
  have e : nob K (mkC p pd ix sz fm hs hi B j) m g = nob K ⟨p, pd, ix, sz, fm, [], hs, hi⟩ m g ++ [(B, .lst [.int j])] := rfl
  refine ⟨?_, ⟨Pays.nil_any h.d.pays, h.d.rc, h.d.ln, h.d.wd, h.d.ca, h.d.fm, .inl ha, h.d.ok, h.d.wl, h.d.ul, h.d.pl, h.d.ol, h.d.sl, h.d.cl⟩⟩
  rw [e]
  refine ⟨fun q hq => ?_, ?_⟩
  · rcases List.mem_append.mp hq with hq | hq
    · exact h.own.at_ q hq
    · obtain rfl : q = _ := by simpa using hq
      exact hB
  · rw [List.map_append, List.nodup_append]
    refine ⟨h.own.nd, by simp, fun a ha b hb z => ?_⟩
    obtain rfl : b = B := by simpa using hb
    exact nB (z ▸ ha)
theorem ND.draw {K : PySem.W.Frag} {H : Hp} {p pd : Addr} {ix sz : Nat} {fm : V} {hs : sz ≤ 5} {hi : ix < sz} {m : Nm} {g : Nx} {us : List Upd} {lr : List PyData} {n : Nat} {B : Addr} {j : Int} (h : ND K H (mkC p pd ix sz fm hs hi B j) m g us lr n) (i : Int) :
    ∃ H', H' = upd H B (.lst [.int i]) ∧ ND K H' (mkC p pd ix sz fm hs hi B i) m g us lr n ∧ Go (Ft (nob K (mkC p pd ix sz fm hs hi B j) m g)) H (Ft (nob K (mkC p pd ix sz fm hs hi B i) m g)) H' := by
  obtain ⟨o, x⟩ := h.own.put 12 rfl trivial (.lst [.int i])
  exact ⟨_, rfl, ⟨o, h.d.go x⟩, x⟩
/-- what stands after the steps: the node, its payloads, their ends -/
structure Bd (K : PySem.W.Frag) (c : Int → Nc) (B : Addr) (S : Nat) (g : Nx) (us : List Upd) (n : Nat) (L : Addr) (pv : List V) (E : Addr) (es : List Nat) (j : Int) (H0 : Hp) : Prop where
  nd : NDs K H0 (c j) ⟨S, S, "up"⟩ g us n
  b : H0 B = some (.lst [.int j])
  l : H0 L = some (.lst pv)
  p : Pays (fun a => a = B) H0 pv (us.map Upd.pack)
  e : H0 E = some (.lst (es.map fun e => .int (e : Nat)))
theorem Bd.same {K : PySem.W.Frag} {c : Int → Nc} {B : Addr} {S : Nat} {g : Nx} {us : List Upd} {n : Nat} {L : Addr} {pv : List V} {E : Addr} {es : List Nat} {j : Int} {H0 H : Hp} (h : Bd K c B S g us n L pv E es j H0) (s : Same H0 H) : Bd K c B S g us n L pv E es j H :=
  ⟨(h.nd.same s).1, s _ _ h.b, s _ _ h.l, h.p.go (Go.same s), s _ _ h.e⟩
theorem Bd.draw {K : PySem.W.Frag} {p pd : Addr} {ix sz : Nat} {fm : V} {hs : sz ≤ 5} {hi : ix < sz} {B : Addr} {S : Nat} {g : Nx} {us : List Upd} {n : Nat} {L : Addr} {pv : List V} {E : Addr} {es : List Nat} {j : Int} {H0 : Hp} (h : Bd K (mkC p pd ix sz fm hs hi B) B S g us n L pv E es j H0) (nL : L ≠ B) (nE : E ≠ B) (i : Int) :
    Bd K (mkC p pd ix sz fm hs hi B) B S g us n L pv E es i (upd H0 B (.lst [.int i])) := by
  obtain ⟨H', e, h1, _⟩ := h.nd.draw i
  refine ⟨e ▸ h1, upd_same, by rw [upd_ne nL]; exact h.l, h.p.go (F' := fun a => a = B) (Go.put (u := .lst [.int j]) rfl h.b trivial), by rw [upd_ne nE]; exact h.e⟩
theorem same_upd {H H' : Hp} (s : Same H H') (b : Addr) (o : HO) : Same (upd H b o) (upd H' b o) := fun a u e => by
  by_cases z : a = b
  · subst z
    rw [upd_same] at e ⊢
    exact e
  · rw [upd_ne z] at e ⊢
    exact s a u e
section
variable {P : Program} {w : World} {K : PySem.W.Frag} {mg : Str → Option Value} {base : Heap}
theorem b_law (T : Txt K mg) : Body P w K mg base 11 ((["_law_script", "_law_box", "_law_size", "_law_index", "_law_node", "_law_early", "_law_late", "_law_k", "_law_synced", "_law_payloads", "_law_ends", "_law_payload", "_law_counts", "_law_shift", "_law_count"] : List Str)) "law" s_law (d_law.ad K) (spLaw K) := by
  intro cdv A outer s H vs Q E hr h
  obtain ⟨a, ns, rfl, hT, hn, k⟩ := h
  have nd : ((["_law_script", "_law_box", "_law_size", "_law_index", "_law_node", "_law_early", "_law_late", "_law_k", "_law_synced", "_law_payloads", "_law_ends", "_law_payload", "_law_counts", "_law_shift", "_law_count"] : List Str)).Nodup := by decide +kernel
  refine ⟨_,
    (pss_cons (ps_set (i := 1) nd rfl (by first | exact Or.inl rfl | exact Or.inr rfl) (pe_lst (pa_cons (C8.pe_c (c_law_row T) hr (by decide) rfl (pa_cons (L2.pv 0) (pa_cons pe_int pa_nil))) pa_nil)))
        (pss_cons (ps_set (i := 2) nd rfl (by first | exact Or.inl rfl | exact Or.inr rfl) (pe_op op_add pe_int (C8.pe_c (c_law_take T) hr (by decide) rfl (pa_cons (L2.pv 1) (pa_cons pe_int pa_nil)))))
        (pss_cons (ps_set (i := 3) nd rfl (by first | exact Or.inl rfl | exact Or.inr rfl) (C8.pe_c (c_law_take T) hr (by decide) rfl (pa_cons (L2.pv 1) (pa_cons (L2.pv 2) pa_nil))))
        (pss_cons (ps_set (i := 4) nd rfl (by first | exact Or.inl rfl | exact Or.inr rfl) (C8.pe_mk (c_Node_init T) hr (by decide) rfl (pa_cons (L2.pv 3) (pa_cons (L2.pv 2) (pa_cons (pe_tupRg rfl (by rfl) T.b_tuple (prg_1 (by rfl) T.b_range (pe_callB (call_min2 rfl) (by rfl) T.b_min bt_min (pa_cons (L2.pv 2) (pa_cons pe_int pa_nil))))) (pa_cons (C8.pe_gc rfl (gr T.g_law_make)) (pa_cons pe_bl pa_nil)))))))
        (pss_cons (ps_set (i := 5) nd rfl (by first | exact Or.inl rfl | exact Or.inr rfl) (pe_op op_add pe_int (C8.pe_c (c_law_take T) hr (by decide) rfl (pa_cons (L2.pv 1) (pa_cons pe_int pa_nil)))))
        (pss_cons (ps_set (i := 6) nd rfl (by first | exact Or.inl rfl | exact Or.inr rfl) (pe_op op_add pe_int (C8.pe_c (c_law_take T) hr (by decide) rfl (pa_cons (L2.pv 1) (pa_cons pe_int pa_nil)))))
        (pss_cons (ps_for PassesOwn.never rfl (pi_range1 (by rfl) T.b_range (pa_cons (L2.pv 5) pa_nil)) (pg_name (i := 7) nd rfl (by first | exact Or.inl rfl | exact Or.inr rfl)) (pss_one (ps_expr (C8.pe_c (c_law_step T) hr (by decide) rfl (pa_cons (pe_lst (pa_cons (C8.pe_c (c_law_row T) hr (by decide) rfl (pa_cons (L2.pv 0) (pa_cons (pe_op op_add pe_int (L2.pv 7)) pa_nil))) pa_nil)) (pa_cons (L2.pv 4) pa_nil))))))
        (pss_cons (ps_expr (C8.pe_mt0 (c_Node_sync T) hr (by decide) (L2.pv 4)))
        (pss_cons (ps_expr (C8.pe_mt0 (c_Node_new_votes T) hr (by decide) (L2.pv 4)))
        (pss_cons (ps_set (i := 8) nd rfl (by first | exact Or.inl rfl | exact Or.inr rfl) (pe_pr (c_Journal_frame_count T) hr (by decide) (pe_fld (L2.pv 4) rfl)))
        (pss_cons (ps_for PassesOwn.never rfl (pi_range1 (by rfl) T.b_range (pa_cons (L2.pv 6) pa_nil)) (pg_name (i := 7) nd rfl (by first | exact Or.inl rfl | exact Or.inr rfl)) (pss_one (ps_expr (C8.pe_c (c_law_step T) hr (by decide) rfl (pa_cons (pe_lst (pa_cons (C8.pe_c (c_law_row T) hr (by decide) rfl (pa_cons (L2.pv 0) (pa_cons (pe_op op_add pe_int (L2.pv 7)) pa_nil))) pa_nil)) (pa_cons (L2.pv 4) pa_nil))))))
        (pss_cons (ps_set (i := 9) nd rfl (by first | exact Or.inl rfl | exact Or.inr rfl) (C8.pe_mt0 (c_Journal_payloads T) hr (by decide) (pe_fld (L2.pv 4) rfl)))
        (pss_cons (ps_set (i := 10) nd rfl (by first | exact Or.inl rfl | exact Or.inr rfl) (pe_lst (pa_cons pe_int pa_nil)))
        (pss_cons (ps_for PassesOwn.never rfl (pi_list (pe_slice sl_list (L2.pv 9) (po_some (L2.pv 8)) po_none)) (pg_name (i := 11) nd rfl (by first | exact Or.inl rfl | exact Or.inr rfl)) (pss_one (ps_expr (pe_bm PySem.F.plainAttrs_list PySem.F.slot_list_append PySem.F.type_list_append mt_append (L2.pv 10) (pa_cons (pe_op op_add (pe_op op_add (pe_ix ix_list (L2.pv 10) (pe_un un_neg pe_int) (fun _ _ => rfl)) pe_int) (pe_callB call_len_seq (by rfl) T.b_len PySem.boot_len (pa_cons (L2.pv 11) pa_nil))) pa_nil)))))
        (pss_cons (ps_setLc (i := 12) rfl nd rfl rfl (sw_true rfl rfl rfl (by decide +kernel)) (pi_range1 (by rfl) T.b_range (pa_cons pe_int pa_nil)) (blkOk_by (own := [("_law_k", 7)]) (N := ["_law_script", "_law_box", "_law_size", "_law_index", "_law_node", "_law_early", "_law_late", "_law_k", "_law_synced", "_law_payloads", "_law_ends", "_law_payload", "_law_counts", "_law_shift", "_law_count"]) (sc := defScope s_law) (by decide +kernel)) (fun _ _ _ _ _ => pg_name (i := 7) nd rfl (by first | exact Or.inl rfl | exact Or.inr rfl)) (fun _ _ _ _ _ => pts_nil) (fun _ _ _ _ _ => (C8.pe_c (c_law_take T) hr (by decide) rfl (pa_cons (L2.pv 1) (pa_cons (pe_op op_add (pe_ix (ix_listK (K := K) rfl) (L2.pv 10) (pe_un un_neg pe_int) (fun _ _ => rfl)) pe_int) pa_nil)))))
        (pss_cons (ps_set (i := 13) nd rfl (by first | exact Or.inl rfl | exact Or.inr rfl) (C8.pe_c (c_law_take T) hr (by decide) rfl (pa_cons (L2.pv 1) (pa_cons pe_int pa_nil))))
        (pss_cons (ps_for PassesOwn.never rfl (pi_range1 (by rfl) T.b_range (pa_cons (pe_callB call_len_seq (by rfl) T.b_len PySem.boot_len (pa_cons (L2.pv 10) pa_nil)) pa_nil)) (pg_name (i := 7) nd rfl (by first | exact Or.inl rfl | exact Or.inr rfl)) (pss_one (ps_if (pt_cmpR op_eq (pe_op op_mod (pe_op op_add (L2.pv 7) (L2.pv 13)) pe_int) pe_int (nomark _)) (pss_one (ps_set (i := 12) nd rfl (by first | exact Or.inl rfl | exact Or.inr rfl) (pe_op op_cat (L2.pv 12) (pe_lst (pa_cons (pe_callB (call_max2 rfl) (by rfl) T.b_max bt_max (pa_cons pe_int (pa_cons (pe_op op_sub (pe_ix ix_list (L2.pv 10) (L2.pv 7) (fun _ _ => rfl)) pe_int) pa_nil))) (pa_cons (pe_ix ix_list (L2.pv 10) (L2.pv 7) (fun _ _ => rfl)) (pa_cons (pe_op op_add (pe_ix ix_list (L2.pv 10) (L2.pv 7) (fun _ _ => rfl)) pe_int) pa_nil))))))) pss_nil)))
        (pss_cons (ps_for PassesOwn.never rfl (pi_list (L2.pv 12)) (pg_name (i := 14) nd rfl (by first | exact Or.inl rfl | exact Or.inr rfl)) (pss_one (ps_if (pt_not (pt_val (C8.pe_c (c_law_comes_back T) hr (by decide) rfl (pa_cons (L2.pv 4) (pa_cons (L2.pv 14) (pa_cons (L2.pv 9) (pa_cons (L2.pv 8) pa_nil))))))) (pss_one (ps_ret pe_bl)) pss_nil)))
        (pss_one (ps_ret (pe_cmpR (op_eqD hr.units) (C8.pe_mt0 (c_Journal_payloads T) hr (by decide) (pe_fld (L2.pv 4) rfl)) (L2.pv 9) (nomark _))))))))))))))))))))))
    , ?_⟩
  refine ⟨_, rfl, a, ns, 0, rfl, hT, fun i0 => ⟨by show 1 ≤ sizeLine; decide, fun B nB => ?_⟩⟩
  refine ⟨_, rfl, B, i0, 5, rfl, upd_same, by decide, by decide, fun d1 j1 hd1 => ?_⟩
  refine ⟨_, _, rfl, rfl, ?_⟩
  refine ⟨_, rfl, _, rfl, B, j1, 1 + d1, rfl, upd_same, by omega, by omega, fun ix j2 hix => ?_⟩
  have s2 : Same H (upd (upd (upd H B (.lst [.int i0])) B (.lst [.int j1])) B (.lst [.int j2])) := ((Same.nw nB).mt nB).mt nB
  have hB2 : (upd (upd (upd H B (.lst [.int i0])) B (.lst [.int j1])) B (.lst [.int j2])) B = some (.lst [.int j2]) := upd_same
  generalize upd (upd (upd H B (.lst [.int i0])) B (.lst [.int j1])) B (.lst [.int j2]) = H2 at s2 hB2 ⊢
  refine ⟨_, rfl, _, rfl, _, rfl, _, _, rfl, _, rfl, RgOk.of_le (by decide) (by split <;> omega) (by decide) (by split <;> omega), fun fm nfm => ?_⟩
  obtain ⟨H3, e3, s3, hfm⟩ : ∃ H3, H3 = upd H2 fm (.tup (rgV 0 (if (5 : Int) < 1 + (d1 : Nat) then 5 else 1 + (d1 : Nat)))) ∧ Same H2 H3 ∧ MemV K H3 (.ref fm) := ⟨_, rfl, Same.nw nfm, memv_rg upd_same⟩
  refine at_heap e3 ?_
  have hs5 : 1 + d1 ≤ 5 := by omega
  refine fun p pd np npd ne => ⟨p, pd, ix, 1 + d1, .ref fm, hs5, hix, rfl, upd_same, hfm.go (F := No) (F' := No) (Go.same ((Same.nw npd).mt np)), fun g1 H4 x4 f4 h4 b4 => ⟨rfl, ?_⟩⟩
  have s4 : Same H3 H4 := made_same np npd x4
  have hB3 := s3 _ _ hB2
  have hB4 := s4 _ _ hB3
  have h5 := h4.addx hB4 (fun f => by
    rcases f4 B f with z | z
    · rw [z, np] at hB3; cases hB3
    · rw [fresh2 z] at hB3; cases hB3) b4.1
  have hT4 : Ls K (Ft (nob K (mkC p pd ix (1 + d1) (.ref fm) hs5 hix B j2) ⟨0, 0, "up"⟩ g1)) H4 a (ns.map V.int) := Ls.of hT ((s2.trans s3).trans s4) fun e f => by
    have e3 := s3 _ _ (s2 _ _ e)
    have f : a ∈ (nob K ⟨p, pd, ix, 1 + d1, .ref fm, [], hs5, hix⟩ ⟨0, 0, "up"⟩ g1 ++ ([(B, HO.lst [.int j2])] : Ob)).map (fun z => z.1) := f
    rw [List.map_append] at f
    rcases List.mem_append.mp f with f | f
    · rcases f4 a f with z | z
      · rw [z, np] at e3; cases e3
      · rw [fresh2 z] at e3; cases e3
    · obtain rfl : a = B := by simpa using f
      rw [nB] at e; cases e
  have h5 : NDs K H4 (mkC p pd ix (1 + d1) (.ref fm) hs5 hix B j2) ⟨0, 0, "up"⟩ g1 [] 0 := h5
  clear h4 x4 f4 b4 s4 hB3 hB4 e3 s3 hB2 s2
  -- how many steps
  refine ⟨_, rfl, B, j2, 12, rfl, h5.own.get 12 rfl, by decide, by decide, fun d3 j3 hd3 => ?_⟩
  obtain ⟨H5, e5, h6, x6⟩ := h5.draw j3
  rw [← e5]
  refine ⟨_, _, rfl, rfl, ?_⟩
  refine ⟨_, rfl, B, j3, 14, rfl, h6.own.get 12 rfl, by decide, by decide, fun d4 j4 hd4 => ?_⟩
  obtain ⟨H6, e6, h7, x7⟩ := h6.draw j4
  rw [← e6]
  refine ⟨_, _, rfl, rfl, ?_⟩
  have hT6 := hT4.go (x6.trans x7)
  -- the early steps
  refine ⟨_, rfl, _, rfl, by omega, by omega, for_it (walk_range (lo := 0) (n := 1 + d3)) (fun i σ H' => ∃ g us v7, σ = [some (.ref a), some (.ref B), some (.int (1 + d1 : Nat)), some (.int (ix : Nat)), some (.ref p), some (.int (1 + d3 : Nat)), some (.int (3 + d4 : Nat)), v7, none, none, none, none, none, none, none] ∧ NDs K H' (mkC p pd ix (1 + d1) (.ref fm) hs5 hix B j4) ⟨0, 0, "up"⟩ g us (10 * i) ∧ Ls K (Ft (nob K (mkC p pd ix (1 + d1) (.ref fm) hs5 hix B j4) ⟨0, 0, "up"⟩ g)) H' a (ns.map V.int))
    ⟨g1, [], none, rfl, h7, hT6⟩ (fun i σ H' _ z => trivial) ?_ ?_⟩
  · rintro i y σ H7 H7' hi ⟨g, us, v7, rfl, h8, hT8⟩ ⟨rfl, rfl⟩
    refine ⟨_, rfl, _, rfl, _, _, rfl, rfl, a, ns, 1 + i, by simp, hT8.sq, fun z => ⟨by show 1 ≤ sizeLine; decide, fun b nb => ?_⟩⟩
    refine ⟨_, rfl, b, _, _, g, us, 10 * i, z, H7', rfl, h8, by omega, nb, Same.nw nb, upd_same, fun g2 us2 H9 x9 h9 => ?_⟩
    exact ⟨g2, us2, _, rfl, h9.mono (by omega), hT8.go x9⟩
  · rintro σ H7 ⟨g, us, v7, rfl, h8, hT8⟩
    refine ⟨_, rfl, p, pd, _, rfl, h8.own.get 0 rfl, rfl, _, _, g, us, _, _, rfl, h8, fun H8 x8 h9 => ?_⟩
    refine ⟨_, rfl, p, pd, _, rfl, h9.own.get 0 rfl, rfl, _, _, g, us, _, _, rfl, h9, rfl, by omega, fun V1 w1 D1 H9 x9 h10 _ _ => ?_⟩
    obtain ⟨g2, h11, hT10⟩ : ∃ g2, NDs K H9 (mkC p pd ix (1 + d1) (.ref fm) hs5 hix B j4) ⟨us.length, us.length, "up"⟩ g2 us (10 * (1 + d3)) ∧ Ls K (Ft (nob K (mkC p pd ix (1 + d1) (.ref fm) hs5 hix B j4) ⟨0, 0, "up"⟩ g2)) H9 a (ns.map V.int) := ⟨_, h10, hT8.go (x8.trans x9)⟩
    have erw := h11.rows
    clear h10 h9 x8 x9 h8
    rw [← erw] at h11
    refine ⟨_, rfl, p, _, pd, _, _, rfl, h11.own.get 0 rfl, T.c_Node, T.n_Node_journal, rfl, g2.j, g2.jd, _, rfl, h11.own.get 1 rfl, g2.j, g2.jd, g2.jr, g2.rows, g2.rows.length, rfl, h11.own.nj, ?_⟩
    generalize g2.rows.length = S at h11 erw ⊢
    -- the late steps
    refine ⟨_, rfl, _, rfl, by omega, by omega, for_it (walk_range (lo := 0) (n := 3 + d4)) (fun i σ H' => ∃ g us v7, σ = [some (.ref a), some (.ref B), some (.int (1 + d1 : Nat)), some (.int (ix : Nat)), some (.ref p), some (.int (1 + d3 : Nat)), some (.int (3 + d4 : Nat)), v7, some (.int (S : Nat)), none, none, none, none, none, none] ∧ NDs K H' (mkC p pd ix (1 + d1) (.ref fm) hs5 hix B j4) ⟨S, S, "up"⟩ g us (10 * (1 + d3) + 10 * i) ∧ Ls K (Ft (nob K (mkC p pd ix (1 + d1) (.ref fm) hs5 hix B j4) ⟨0, 0, "up"⟩ g)) H' a (ns.map V.int))
      ⟨g2, us, _, rfl, h11, hT10⟩ (fun i σ H' _ z => trivial) ?_ ?_⟩
    · rintro i y σ H10 H10' hi ⟨g, us, v7, rfl, h8, hT8⟩ ⟨rfl, rfl⟩
      refine ⟨_, rfl, _, rfl, _, _, rfl, rfl, a, ns, 20 + i, by simp, hT8.sq, fun z => ⟨by show 1 ≤ sizeLine; decide, fun b nb => ?_⟩⟩
      refine ⟨_, rfl, b, _, _, g, us, 10 * (1 + d3) + 10 * i, z, H10', rfl, h8, by omega, nb, Same.nw nb, upd_same, fun g2 us2 H9 x9 h9 => ?_⟩
      exact ⟨g2, us2, _, rfl, h9.mono (by omega), hT8.go x9⟩
    · rintro σ H10 ⟨g, us, v7, rfl, h8, hT8⟩
      have hn8 : 10 * (1 + d3) + 10 * (3 + d4) ≤ 400 := by omega
      generalize 10 * (1 + d3) + 10 * (3 + d4) = n at h8 hn8
      have hul := h8.d.ul
      have hsl : S ≤ us.length := h8.d.sl
      -- the payloads
      refine ⟨_, rfl, p, _, pd, _, _, rfl, h8.own.get 0 rfl, T.c_Node, T.n_Node_journal, rfl, g.j, g.jd, _, rfl, h8.own.get 1 rfl, rfl, g.j, g.jd, g.jr, g.rows, S, _, _, rfl, h8.own.nj, h8.d.pays, by rw [List.length_map]; omega, fun L pv H11 nL s11 hL pL => ?_⟩
      obtain ⟨h12, _⟩ := h8.same s11
      have pL := pL.less (G := fun a => a = B) fun a z => .inl (z ▸ ⟨_, h8.own.get 12 rfl⟩)
      have hLB : L ≠ B := (ne_of_none (h8.own.get 12 rfl) nL).symm
      refine ⟨by show 1 ≤ sizeLine; decide, fun E nE => ?_⟩
      have hEB : E ≠ B := (ne_of_none (h12.own.get 12 rfl) nE).symm
      have hEL : L ≠ E := ne_of_none hL nE
      refine ⟨_, rfl, _, rfl, _, rfl, L, _, rfl, SqL.of (by rw [upd_ne hEL]; exact hL), fun C nC => ?_⟩
      rw [cut_from]
      have hplen := pL.length
      rw [List.length_map] at hplen
      refine ⟨C, rfl, ⟨_, SqL.of upd_same⟩, for_it (walk_list (xs := pv.drop S)) (fun i σ H' => ∃ v11, σ = [some (.ref a), some (.ref B), some (.int (1 + d1 : Nat)), some (.int (ix : Nat)), some (.ref p), some (.int (1 + d3 : Nat)), some (.int (3 + d4 : Nat)), v7, some (.int (S : Nat)), some (.ref L), some (.ref E), v11, none, none, none] ∧ Same H11 H' ∧ H' C = some (.lst (pv.drop S)) ∧ ∃ es : List Nat, ∃ e, H' E = some (.lst ((es ++ [e]).map fun e => .int (e : Nat))) ∧ es.length = i ∧ (∀ z ∈ es ++ [e], z ≤ 4010 * i))
        ⟨none, rfl, (Same.nw nE).trans (Same.nw nC), upd_same, [], 0, by rw [upd_ne (ne_of_none upd_same nC), upd_same]; rfl, rfl, by simp⟩ (fun i σ H' _ z => ?_) ?_ ?_⟩
      · obtain ⟨_, _, _, z, _⟩ := z
        exact SqL.of z
      · rintro i y σ H12 H12' hi ⟨v11, rfl, s12, hC, es, e, hE, le, bd⟩ ⟨rfl, hy⟩
        obtain ⟨d, hd, q, rfl, hq⟩ := (pL.drop S).of hy
        have hq1 := s12 _ _ hq.1
        have hdl : d.length ≤ 4000 := by
          have hm := List.mem_of_mem_drop (List.mem_of_getElem? hd)
          obtain ⟨u, hu, rfl⟩ := List.mem_map.mp hm
          exact (Upd.size (h8.d.ok u hu)).1
        have hi2 : i < 1000 := by rw [List.length_drop] at hi; omega
        refine ⟨_, rfl, .inl ⟨rfl, _, SqL.of hE⟩, _, rfl, _, rfl, E, _, _, _, rfl, rfl, SqL.of hE, by rw [List.map_append]; exact atI_last _ _, _, _, rfl, rfl, _, rfl, q, _, rfl, .inl (SqL.of hq1), _, _, rfl, rfl, E, _, _, rfl, rfl, hE, small1000 (by rw [List.length_map, List.length_append, le]; simp only [List.length_cons, List.length_nil]; omega), ?_⟩
        refine ⟨_, rfl, s12.mt nE, by rw [upd_ne (ne_of_none upd_same nC).symm]; exact hC, es ++ [e], e + 6 + d.length, ?_, by rw [List.length_append, le]; rfl, fun z hz => ?_⟩
        · rw [upd_same, List.map_append (l₁ := es ++ [e]), List.length_map]
          rfl
        · rcases List.mem_append.mp hz with hz | hz
          · have := bd z hz; omega
          · obtain rfl : z = _ := by simpa using hz
            have := bd e (List.mem_append_right _ List.mem_cons_self)
            omega
      · rintro σ H12 ⟨v11, rfl, s12, hC, es, e, hE, le, bd⟩
        have b13 : Bd K (mkC p pd ix (1 + d1) (.ref fm) hs5 hix B) B S g us n L pv E (es ++ [e]) j4 H12 := ⟨(h12.same s12).1, s12 _ _ (h12.own.get 12 rfl), s12 _ _ hL, pL.go (Go.same s12), hE⟩
        have le1 : es.length ≤ 900 := by rw [le, List.length_drop]; omega
        have ebd : ∀ z ∈ es ++ [e], z ≤ 4000000 := fun z hz => by
          have := bd z hz
          rw [List.length_drop] at this
          omega
        have he := ebd e (List.mem_append_right _ List.mem_cons_self)
        clear bd le hC hE s12
        refine ⟨_, rfl, by decide, by decide, fun D nD => ?_⟩
        refine lc_it (walk_range (lo := 0) (n := 4)) (fun i H' => ∃ (j : Int) (H0 : Hp), H0 D = none ∧ Bd K (mkC p pd ix (1 + d1) (.ref fm) hs5 hix B) B S g us n L pv E (es ++ [e]) j H0 ∧ Same H0 H' ∧ ∃ xs : List Nat, H' D = some (.lst (xs.map fun x => .int (x : Nat))) ∧ xs.length = i) ⟨j4, H12, nD, b13, Same.nw nD, [], upd_same, rfl⟩ (fun i H' _ p => trivial) ?_ ?_
        · rintro i y H13 H13' hi ⟨j, H0, n0, b0, s0, xs, hD, lx⟩ ⟨rfl, rfl⟩
          have b1 := b0.same s0
          refine ⟨rfl, _, rfl, _, rfl, _, rfl, E, _, _, _, rfl, rfl, SqL.of b1.e, by rw [List.map_append]; exact atI_last _ _, _, _, rfl, rfl, B, j, e + 9, rfl, b1.b, by omega, by omega, fun d j' hd => ?_⟩
          have DB : D ≠ B := (ne_of_none b0.b n0).symm
          refine ⟨_, by rw [upd_ne DB]; exact hD, small1000 (by rw [List.length_map]; omega), j', _, by rw [upd_ne DB]; exact n0, b0.draw hLB hEB j', (same_upd s0 B _).mt (by rw [upd_ne DB]; exact n0), xs ++ [d], ?_, by rw [List.length_append, lx]; rfl⟩
          rw [upd_same, List.map_append]; rfl
        · rintro H13 ⟨j, H0, n0, b0, s0, xs, hD, lx⟩
          have b1 := b0.same s0
          have DB : D ≠ B := (ne_of_none b0.b n0).symm
          refine ⟨_, rfl, B, j, 3, rfl, b1.b, by decide, by decide, fun d5 j5 hd5 => ?_⟩
          have b14 := b1.draw hLB hEB j5
          have hD14 : upd H13 B (.lst [.int j5]) D = some (.lst (xs.map fun x => .int (x : Nat))) := by rw [upd_ne DB]; exact hD
          generalize upd H13 B (.lst [.int j5]) = H14 at b14 hD14 ⊢
          clear b13 n0 b0 s0 hD b1
          refine ⟨_, rfl, E, _, rfl, .inl (SqL.of b14.e), _, rfl, by omega, by rw [List.length_map, List.length_append]; simp only [List.length_cons, List.length_nil]; omega, for_it (walk_range (lo := 0) (n := ((es ++ [e]).map fun e => V.int (e : Nat)).length)) (fun i σ H' => ∃ (Cn : Addr) (xs : List Nat) (v7 : Option V), σ = [some (.ref a), some (.ref B), some (.int (1 + d1 : Nat)), some (.int (ix : Nat)), some (.ref p), some (.int (1 + d3 : Nat)), some (.int (3 + d4 : Nat)), v7, some (.int (S : Nat)), some (.ref L), some (.ref E), v11, some (.ref Cn), some (.int (d5 : Nat)), none] ∧ Same H14 H' ∧ H' Cn = some (.lst (xs.map fun x => .int (x : Nat))) ∧ xs.length ≤ 4 + 3 * i)
            ⟨D, xs, _, rfl, Same.refl _, hD14, by omega⟩ (fun i σ H' _ z => trivial) ?_ ?_⟩
          · rintro i y σ H15 H15' hi ⟨Cn, ys, v7', rfl, s15, hCn, ly⟩ ⟨rfl, rfl⟩
            have b15 := b14.same s15
            refine ⟨_, rfl, _, rfl, _, _, rfl, rfl, _, _, rfl, rfl, (by show (0 : Int) < 3; decide), rfl, _, rfl, ?_⟩
            rw [List.length_map] at hi
            have hie : ((es ++ [e]).map fun e => V.int (e : Nat))[i]? = some (.int (((es ++ [e])[i]'hi : Nat) : Int)) := by rw [List.getElem?_map, List.getElem?_eq_getElem hi]; rfl
            have hlen : (es ++ [e]).length ≤ 901 := by rw [List.length_append]; simp only [List.length_cons, List.length_nil]; omega
            generalize (es ++ [e])[i]'hi = z at hie
            refine t_any ?_ ⟨Cn, ys, _, rfl, s15, hCn, by omega⟩
            refine ⟨_, rfl, _, rfl, _, rfl, E, _, _, _, rfl, rfl, SqL.of b15.e, at_of (j := i) (by simp) hie, _, _, rfl, rfl, _, _, rfl, _, rfl, _, rfl, E, _, _, _, rfl, rfl, SqL.of b15.e, at_of (j := i) (by simp) hie, _, rfl, _, rfl, E, _, _, _, rfl, rfl, SqL.of b15.e, at_of (j := i) (by simp) hie, _, _, rfl, rfl, by show 3 ≤ sizeLine; decide, fun q nq => ?_⟩
            obtain ⟨H16, e16, s16, hC16, hq16⟩ : ∃ H16, H16 = upd H15' q (.lst [.int (if (z : Nat) - (1 : Int) > 0 then (z : Nat) - (1 : Int) else 0), .int (z : Nat), .int ((z : Nat) + 1)]) ∧ Same H14 H16 ∧ H16 Cn = some (.lst (ys.map fun x => .int (x : Nat))) ∧ H16 q = some (.lst [.int (if (z : Nat) - (1 : Int) > 0 then (z : Nat) - (1 : Int) else 0), .int (z : Nat), .int ((z : Nat) + 1)]) :=
              ⟨_, rfl, s15.trans (Same.nw nq), by rw [upd_ne (ne_of_none hCn nq)]; exact hCn, upd_same⟩
            have ez : (if (z : Nat) - (1 : Int) > 0 then (z : Nat) - (1 : Int) else 0) = ((z - 1 : Nat) : Int) := by split <;> omega
            rw [ez] at hq16
            refine ⟨Cn, q, _, _, rfl, rfl, e16 ▸ hC16, e16 ▸ hq16, by rw [List.length_map]; show ys.length + 3 ≤ sizeLine; exact Nat.le_of_lt (small1e4 (by omega)), fun r nr => ?_⟩
            refine ⟨r, ys ++ [z - 1, z, z + 1], _, rfl, ?_, ?_, by rw [List.length_append]; simp only [List.length_cons, List.length_nil]; omega⟩
            · rw [← e16]
              rw [← e16] at nr
              exact s16.trans (Same.nw nr)
            · rw [upd_same, List.map_append]
              rfl
          · rintro σ H15 ⟨Cn, ys, v7', rfl, s15, hCn, ly⟩
            have b15 := b14.same s15
            refine ⟨_, rfl, Cn, rfl, ⟨_, SqL.of hCn⟩, for_it (walk_list (xs := ys.map fun x => V.int (x : Nat))) (fun i σ H' => ∃ v14, σ = [some (.ref a), some (.ref B), some (.int (1 + d1 : Nat)), some (.int (ix : Nat)), some (.ref p), some (.int (1 + d3 : Nat)), some (.int (3 + d4 : Nat)), v7', some (.int (S : Nat)), some (.ref L), some (.ref E), v11, some (.ref Cn), some (.int (d5 : Nat)), v14] ∧ Same H15 H') ⟨none, rfl, Same.refl _⟩ (fun i σ H' _ z => ?_) ?_ ?_⟩
            · obtain ⟨_, _, z⟩ := z
              exact z.seq (SqL.of hCn)
            · rintro i y σ H16 H16' hi ⟨v14, rfl, s16⟩ ⟨rfl, hy⟩
              rw [List.getElem?_map] at hy
              obtain ⟨x, hx, rfl⟩ := Option.map_eq_some_iff.mp hy
              have b16 := b15.same s16
              refine ⟨_, rfl, _, rfl, _, rfl, _, rfl, mkC p pd ix (1 + d1) (.ref fm) hs5 hix B j5, S, g, us, n, x, L, pv, _, rfl, b16.nd, by omega, b16.l, b16.p, fun H17 s17 => ⟨_, rfl, ?_⟩⟩
              exact t_no rfl ⟨_, rfl, s16.trans s17⟩
            · rintro σ H16 ⟨v14, rfl, s16⟩
              have b16 := b15.same s16
              refine ⟨_, rfl, p, _, pd, _, _, rfl, b16.nd.own.get 0 rfl, T.c_Node, T.n_Node_journal, rfl, g.j, g.jd, _, rfl, b16.nd.own.get 1 rfl, rfl, g.j, g.jd, g.jr, g.rows, S, _, _, rfl, b16.nd.own.nj, b16.nd.d.pays, by rw [List.length_map]; omega, fun L2 pv2 H17 nL2 s17 hL2 pL2 => ?_⟩
              have b17 := b16.same s17
              refine ⟨_, rfl, _, _, .lst (SqL.of hL2) pL2.dp, .lst (SqL.of b17.l) b17.p.dp, shaped_good (pays_good _), shaped_good (pays_good _), ?_⟩
              rw [eqv_yes (pays_good _)]
              exact k _
theorem ok_law {fd : FuncData} (T : Txt K mg) (F : Fn K d_law fd) : FnOk P w K mg base CX0 12 (d_law.ad K) fd ["_law_script"] (spLaw K) :=
  ok_of F (N := (["_law_script", "_law_box", "_law_size", "_law_index", "_law_node", "_law_early", "_law_late", "_law_k", "_law_synced", "_law_payloads", "_law_ends", "_law_payload", "_law_counts", "_law_shift", "_law_count"] : List Str)) (ps := ["_law_script"]) (by decide +kernel) (fun vs H Q E h => by obtain ⟨_, _, rfl, _⟩ := h; rfl) (b_law T)
end
end Ck
/-! HdRun -/
set_option maxHeartbeats 0
namespace Ck
open PySem PySem.Spec PyProof.Rows L2
theorem run (w : World) : HandSHeadRun.RunEq R qv hook ob 6000 loose w := by
  intro os
  kernel_rfl
end Ck
/-! End -/
set_option maxHeartbeats 0
open PySem PySem.W PySem.Calls PyProof.Rows
theorem PySem.Challenge.cw_crosskeep_k50_whole_crash_at_every_octet_holds : PySem.Challenge.rw_crosskeep_k50_whole_crash_at_every_octet.Holds := by
  w_on; o_law
  refine HandSHeadRun.head_any (r := Ck.R) (q := Ck.qv) (H := Ck.hook) (ob := Ck.ob) (M := 6000) (loose := Ck.loose) (d := HandSHeadRun.topDef Ck.R.prog 90) (kwd := []) Ck.ob_eq
    (by kernel_rfl) (fun s => by kernel_rfl) Ck.run (by kernel_rfl) (by kernel_rfl) (by kernel_rfl) (by rfl) (by first | assumption | decide +kernel) (by decide +kernel) ⟨rfl, rfl, rfl, rfl, rfl, by decide +kernel⟩ ?hw ?hc
  case hw => w_witness2
  case hc =>
    refine L2.walk_ofE (l := PySem.Challenge.rw_crosskeep_k50_whole_crash_at_every_octet) (n := 63) (k := 12) (x := "_law_script") (CX := L2.CX0) rfl (by decide) (by kernel_rfl) ⟨rfl, by decide, by decide⟩ ?F (fun _ _ _ _ z => z)
    intro w mg fa h Y G hmg0
    obtain ⟨K, KX, c⟩ := Y
    have T := Ck.Txt.of KX G c
    have hmg : mg ("law" : PySem.Str) = some (.ref fa) := by
      have e : (HandSHeadRun.topDef Ck.R.prog 90).name = ("law" : PySem.Str) := by kernel_rfl
      rw [← e]
      exact hmg0
    obtain ⟨fd, F⟩ := T.f_law
    have e := hmg.symm.trans T.g_law
    cases e
    have b := L2.FunD.bindsA (ps := ["_law_script"]) F fun _ _ _ _ _ _ us hl => match us, hl with | [_], _ => rfl
    exact ⟨K, fd, Ck.spLaw K, KX, fun s v => b s [v] rfl, fun H a ns hl _ hS => ⟨a, ns, rfl, hS, hl, fun _ => rfl⟩, fun base _ _ => Ck.ok_law T F⟩
