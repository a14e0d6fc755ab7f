/- A part of the proof: a layer of abstract values over the kit's walks, an evaluator over it, and walks of functions. -/
import Derived.Test.YtpopmiodjibljaaGreatDoorProg
import Derived.KernelRfl
import Derived.Shelf.GgSortFunc.RowK
import Derived.Sort.Grow
import Derived.Shelf.SlSortFuncK.WholeK
import Derived.Shelf.Lay
import Derived.Ground.GgsProg
import Derived.Ground.NamesProg
import Derived.Shelf.GgSortFunc.SmallK
import Derived.Shelf.GgSortFunc.Tiny
import Derived.Deep.QuietTactic
import Derived.Test.YtpopmiodjibljaaGreatDoorBlfC
set_option linter.unusedVariables false
set_option linter.unusedSimpArgs false
set_option maxRecDepth 100000

namespace Go
open Go.Abs
theorem I.{u} {α:Sort u} {a:α}:a=a:=rfl
abbrev J:=@AC.pln
abbrev O:=@AC.nilE
abbrev U:=@AOp.load
abbrev Y:=@AC.toCode
abbrev J1:=@AWp.condCase
abbrev J2:=@zac.one
abbrev J3:=@AC.toOps
abbrev J4:=@AOp.store
abbrev J5:=@AOps.pln
abbrev J6:=@AOps.guardCase
abbrev J7:=@AOp.callP
abbrev J8:=@AOps.nil
abbrev J9:=@AOp.boxD
abbrev Ja:=@TrG.of_body
abbrev Jb:=@AOp.alloc
abbrev Jc:=@AOp.callK
abbrev Jd:=@AC.wtd
abbrev Je:=@AOp.callH
abbrev Jf:=@AOp.box
abbrev Jg:=@AOp.callPG
abbrev Jh:=@AWp.loopM
abbrev Ji:=@zac.two
abbrev Jj:=@AC.toPl
abbrev Jk:=@zac.cellTmp2
abbrev Jl:=@AOp.buildSlice
abbrev Jm:=@AC.sim
abbrev Jn:=@AOp.callMid
abbrev Jo:=@AWp.know
abbrev Jp:=@AOps.perm
abbrev Jq:=@AOp.callG
end Go
namespace Go.Proofs.YtpopmiodjibljaaGreatDoor
open Go Go.Abs
abbrev tF:TI:=⟨.func,1,8,[.nilf]⟩
abbrev tI:TI:=⟨(.int .i64),1,8,[.int .i64 0]⟩
abbrev tC:TI:=⟨.string,1,16,[.str []]⟩
abbrev tN:TI:=⟨.iface,1,16,[.nili]⟩
abbrev tP (n:Nat):TI:=⟨(.pointer n),1,8,[.nilp]⟩
abbrev tS (n:Nat):TI:=⟨(.slice n),1,24,[.nils]⟩
def L:Lay:=[(1,tF),
(2,tI),
(3,tI),
(4,⟨.bool,1,1,[.bool false]⟩),
(5,⟨(.int .u8),1,1,[.int .u8 0]⟩),
(6,⟨(.int .u8),1,1,[.int .u8 0]⟩),
(7,⟨(.struct [(0,2),(1,3),(2,4),(3,6)]),4,24,[.int .i64 0,.int .i64 0,.bool false,.int .u8 0]⟩),
(8,⟨(.struct [(0,2),(1,3),(2,4),(3,6)]),4,24,[.int .i64 0,.int .i64 0,.bool false,.int .u8 0]⟩),
(9,tC),
(10,tC),
(11,tC),
(12,⟨(.int .u64),1,8,[.int .u64 0]⟩),
(13,⟨(.struct [(0,9),(1,12)]),2,24,[.str [],.int .u64 0]⟩),
(14,⟨(.struct [(0,9),(1,12)]),2,24,[.str [],.int .u64 0]⟩),
(15,tP 367),
(16,tP 370),
(17,tP 377),
(18,⟨(.struct [(0,17)]),1,8,[.nilp]⟩),
(19,⟨(.struct [(0,17)]),1,8,[.nilp]⟩),
(20,tN),
(21,⟨(.int .i32),1,4,[.int .i32 0]⟩),
(22,tS 166),
(23,tS 25),
(24,⟨(.struct [(0,3),(1,3),(2,3),(3,3),(4,9),(5,22),(6,23)]),7,96,[.int .i64 0,.int .i64 0,.int .i64 0,.int .i64 0,.str [],.nils,.nils]⟩),
(25,⟨(.struct [(0,3),(1,3),(2,3),(3,3),(4,9),(5,22),(6,23)]),7,96,[.int .i64 0,.int .i64 0,.int .i64 0,.int .i64 0,.str [],.nils,.nils]⟩),
(26,tF),
(27,tF),
(28,tI),
(30,tF),
(31,tF),
(32,⟨(.struct [(0,9),(1,9),(2,3)]),3,40,[.str [],.str [],.int .i64 0]⟩),
(33,⟨(.struct [(0,9),(1,9),(2,3)]),3,40,[.str [],.str [],.int .i64 0]⟩),
(34,tF),
(35,tS 98),
(36,⟨(.struct [(0,3),(1,3),(2,35)]),3,40,[.int .i64 0,.int .i64 0,.nils]⟩),
(37,⟨(.struct [(0,3),(1,3),(2,35)]),3,40,[.int .i64 0,.int .i64 0,.nils]⟩),
(38,⟨(.struct [(0,37),(3,4),(4,3)]),5,56,[.int .i64 0,.int .i64 0,.nils,.bool false,.int .i64 0]⟩),
(39,⟨(.struct [(0,37),(3,4),(4,3)]),5,56,[.int .i64 0,.int .i64 0,.nils,.bool false,.int .i64 0]⟩),
(41,tF),
(43,tF),
(45,tF),
(46,tF),
(47,tS 3),
(49,tF),
(51,tF),
(52,tF),
(53,tF),
(55,tF),
(57,tF),
(58,tF),
(59,tS 37),
(61,tF),
(63,tF),
(64,tF),
(66,tF),
(67,tF),
(68,tS 9),
(70,tF),
(71,tF),
(72,tF),
(73,tF),
(75,tF),
(77,tF),
(79,tF),
(80,⟨(.struct [(0,3),(1,3),(2,3)]),3,24,[.int .i64 0,.int .i64 0,.int .i64 0]⟩),
(81,⟨(.struct [(0,3),(1,3),(2,3)]),3,24,[.int .i64 0,.int .i64 0,.int .i64 0]⟩),
(82,tF),
(83,tF),
(85,tF),
(86,tF),
(87,tF),
(88,tF),
(89,tF),
(90,tF),
(91,tF),
(92,tF),
(93,tF),
(94,tS 5),
(95,tF),
(96,tF),
(97,tF),
(98,⟨(.array 2 3),2,16,[.int .i64 0,.int .i64 0]⟩),
(99,tF),
(100,tP 111),
(101,tF),
(102,tS 47),
(103,⟨(.int .u64),1,8,[.int .u64 0]⟩),
(104,tP 171),
(105,⟨(.array 10 98),20,160,[.int .i64 0,.int .i64 0,.int .i64 0,.int .i64 0,.int .i64 0,.int .i64 0,.int .i64 0,.int .i64 0,.int .i64 0,.int .i64 0,.int .i64 0,.int .i64 0,.int .i64 0,.int .i64 0,.int .i64 0,.int .i64 0,.int .i64 0,.int .i64 0,.int .i64 0,.int .i64 0]⟩),
(106,tP 258),
(107,⟨(.struct [(0,3),(1,3),(2,105),(22,106)]),23,184,[.int .i64 0,.int .i64 0,.int .i64 0,.int .i64 0,.int .i64 0,.int .i64 0,.int .i64 0,.int .i64 0,.int .i64 0,.int .i64 0,.int .i64 0,.int .i64 0,.int .i64 0,.int .i64 0,.int .i64 0,.int .i64 0,.int .i64 0,.int .i64 0,.int .i64 0,.int .i64 0,.int .i64 0,.int .i64 0,.nilp]⟩),
(108,⟨(.struct [(0,3),(1,3),(2,105),(22,106)]),23,184,[.int .i64 0,.int .i64 0,.int .i64 0,.int .i64 0,.int .i64 0,.int .i64 0,.int .i64 0,.int .i64 0,.int .i64 0,.int .i64 0,.int .i64 0,.int .i64 0,.int .i64 0,.int .i64 0,.int .i64 0,.int .i64 0,.int .i64 0,.int .i64 0,.int .i64 0,.int .i64 0,.int .i64 0,.int .i64 0,.nilp]⟩),
(109,tS 4),
(110,⟨(.struct [(0,25),(7,9),(8,47),(9,102),(10,3),(11,4),(12,103),(13,47),(14,104),(15,108),(38,109),(39,3),(40,3),(41,4),(42,3),(43,4)]),44,464,[.int .i64 0,.int .i64 0,.int .i64 0,.int .i64 0,.str [],.nils,.nils,.str [],.nils,.nils,.int .i64 0,.bool false,.int .u64 0,.nils,.nilp,.int .i64 0,.int .i64 0,.int .i64 0,.int .i64 0,.int .i64 0,.int .i64 0,.int .i64 0,.int .i64 0,.int .i64 0,.int .i64 0,.int .i64 0,.int .i64 0,.int .i64 0,.int .i64 0,.int .i64 0,.int .i64 0,.int .i64 0,.int .i64 0,.int .i64 0,.int .i64 0,.int .i64 0,.int .i64 0,.nilp,.nils,.int .i64 0,.int .i64 0,.bool false,.int .i64 0,.bool false]⟩),
(111,⟨(.struct [(0,25),(7,9),(8,47),(9,102),(10,3),(11,4),(12,103),(13,47),(14,104),(15,108),(38,109),(39,3),(40,3),(41,4),(42,3),(43,4)]),44,464,[.int .i64 0,.int .i64 0,.int .i64 0,.int .i64 0,.str [],.nils,.nils,.str [],.nils,.nils,.int .i64 0,.bool false,.int .u64 0,.nils,.nilp,.int .i64 0,.int .i64 0,.int .i64 0,.int .i64 0,.int .i64 0,.int .i64 0,.int .i64 0,.int .i64 0,.int .i64 0,.int .i64 0,.int .i64 0,.int .i64 0,.int .i64 0,.int .i64 0,.int .i64 0,.int .i64 0,.int .i64 0,.int .i64 0,.int .i64 0,.int .i64 0,.int .i64 0,.int .i64 0,.nilp,.nils,.int .i64 0,.int .i64 0,.bool false,.int .i64 0,.bool false]⟩),
(112,tF),
(113,tP 125),
(115,tF),
(116,tF),
(118,tF),
(119,tF),
(120,⟨(.map 3 25),1,8,[.nilm]⟩),
(121,⟨(.map 9 22),1,8,[.nilm]⟩),
(122,tF),
(123,tF),
(124,⟨(.struct [(0,25),(7,120),(8,121),(9,47),(10,4),(11,4),(12,4),(13,3),(14,47),(15,3),(16,3),(17,3),(18,123)]),19,208,[.int .i64 0,.int .i64 0,.int .i64 0,.int .i64 0,.str [],.nils,.nils,.nilm,.nilm,.nils,.bool false,.bool false,.bool false,.int .i64 0,.nils,.int .i64 0,.int .i64 0,.int .i64 0,.nilf]⟩),
(125,⟨(.struct [(0,25),(7,120),(8,121),(9,47),(10,4),(11,4),(12,4),(13,3),(14,47),(15,3),(16,3),(17,3),(18,123)]),19,208,[.int .i64 0,.int .i64 0,.int .i64 0,.int .i64 0,.str [],.nils,.nils,.nilm,.nilm,.nils,.bool false,.bool false,.bool false,.int .i64 0,.nils,.int .i64 0,.int .i64 0,.int .i64 0,.nilf]⟩),
(126,tF),
(127,tF),
(128,tF),
(129,tF),
(130,tF),
(131,tF),
(133,tF),
(134,tF),
(135,tF),
(136,tF),
(137,tF),
(138,tF),
(139,tP 147),
(140,tF),
(141,tF),
(142,⟨(.struct [(0,3)]),1,8,[.int .i64 0]⟩),
(143,⟨(.struct [(0,3)]),1,8,[.int .i64 0]⟩),
(145,tF),
(146,⟨(.struct [(0,94),(1,47),(2,3),(3,3),(4,68),(5,4)]),6,96,[.nils,.nils,.int .i64 0,.int .i64 0,.nils,.bool false]⟩),
(147,⟨(.struct [(0,94),(1,47),(2,3),(3,3),(4,68),(5,4)]),6,96,[.nils,.nils,.int .i64 0,.int .i64 0,.nils,.bool false]⟩),
(148,tF),
(149,tF),
(150,tF),
(151,tF),
(152,tF),
(153,tF),
(154,tF),
(155,⟨(.struct [(0,3),(1,3),(2,3)]),3,24,[.int .i64 0,.int .i64 0,.int .i64 0]⟩),
(156,⟨(.struct [(0,3),(1,3),(2,3)]),3,24,[.int .i64 0,.int .i64 0,.int .i64 0]⟩),
(157,tF),
(158,tF),
(159,tF),
(160,⟨(.array 7 9),7,112,[.str [],.str [],.str [],.str [],.str [],.str [],.str []]⟩),
(161,tF),
(162,⟨(.map 9 4),1,8,[.nilm]⟩),
(163,tF),
(164,tF),
(165,⟨(.struct [(0,3),(1,3)]),2,16,[.int .i64 0,.int .i64 0]⟩),
(166,⟨(.struct [(0,3),(1,3)]),2,16,[.int .i64 0,.int .i64 0]⟩),
(167,tF),
(168,tF),
(169,tF),
(170,⟨(.struct [(0,3),(1,25),(8,3),(9,3),(10,108),(33,104)]),34,312,[.int .i64 0,.int .i64 0,.int .i64 0,.int .i64 0,.int .i64 0,.str [],.nils,.nils,.int .i64 0,.int .i64 0,.int .i64 0,.int .i64 0,.int .i64 0,.int .i64 0,.int .i64 0,.int .i64 0,.int .i64 0,.int .i64 0,.int .i64 0,.int .i64 0,.int .i64 0,.int .i64 0,.int .i64 0,.int .i64 0,.int .i64 0,.int .i64 0,.int .i64 0,.int .i64 0,.int .i64 0,.int .i64 0,.int .i64 0,.int .i64 0,.nilp,.nilp]⟩),
(171,⟨(.struct [(0,3),(1,25),(8,3),(9,3),(10,108),(33,104)]),34,312,[.int .i64 0,.int .i64 0,.int .i64 0,.int .i64 0,.int .i64 0,.str [],.nils,.nils,.int .i64 0,.int .i64 0,.int .i64 0,.int .i64 0,.int .i64 0,.int .i64 0,.int .i64 0,.int .i64 0,.int .i64 0,.int .i64 0,.int .i64 0,.int .i64 0,.int .i64 0,.int .i64 0,.int .i64 0,.int .i64 0,.int .i64 0,.int .i64 0,.int .i64 0,.int .i64 0,.int .i64 0,.int .i64 0,.int .i64 0,.int .i64 0,.nilp,.nilp]⟩),
(172,tF),
(173,tF),
(174,⟨(.array 10 98),20,160,[.int .i64 0,.int .i64 0,.int .i64 0,.int .i64 0,.int .i64 0,.int .i64 0,.int .i64 0,.int .i64 0,.int .i64 0,.int .i64 0,.int .i64 0,.int .i64 0,.int .i64 0,.int .i64 0,.int .i64 0,.int .i64 0,.int .i64 0,.int .i64 0,.int .i64 0,.int .i64 0]⟩),
(175,tS 295),
(176,tF),
(177,tF),
(178,⟨(.struct [(0,3),(1,3),(2,174),(22,175),(23,3),(24,177)]),25,216,[.int .i64 0,.int .i64 0,.int .i64 0,.int .i64 0,.int .i64 0,.int .i64 0,.int .i64 0,.int .i64 0,.int .i64 0,.int .i64 0,.int .i64 0,.int .i64 0,.int .i64 0,.int .i64 0,.int .i64 0,.int .i64 0,.int .i64 0,.int .i64 0,.int .i64 0,.int .i64 0,.int .i64 0,.int .i64 0,.nils,.int .i64 0,.nilf]⟩),
(179,⟨(.struct [(0,3),(1,3),(2,174),(22,175),(23,3),(24,177)]),25,216,[.int .i64 0,.int .i64 0,.int .i64 0,.int .i64 0,.int .i64 0,.int .i64 0,.int .i64 0,.int .i64 0,.int .i64 0,.int .i64 0,.int .i64 0,.int .i64 0,.int .i64 0,.int .i64 0,.int .i64 0,.int .i64 0,.int .i64 0,.int .i64 0,.int .i64 0,.int .i64 0,.int .i64 0,.int .i64 0,.nils,.int .i64 0,.nilf]⟩),
(180,tF),
(181,tF),
(183,tF),
(184,tF),
(185,tF),
(186,tF),
(187,tF),
(188,tP 25),
(189,tP 191),
(190,⟨(.struct [(0,189),(1,94)]),2,32,[.nilp,.nils]⟩),
(191,⟨(.struct [(0,189),(1,94)]),2,32,[.nilp,.nils]⟩),
(192,tN),
(193,tN),
(195,tF),
(196,tF),
(197,tF),
(198,tF),
(199,tF),
(200,tF),
(201,tF),
(202,tF),
(203,tF),
(204,tF),
(205,tF),
(207,tF),
(208,tF),
(209,tF),
(210,tF),
(211,tF),
(212,tF),
(213,tF),
(214,tF),
(215,tF),
(216,tF),
(217,tF),
(218,tF),
(219,tF),
(221,tF),
(222,tF),
(223,tF),
(224,tP 5),
(225,tF),
(226,tI),
(228,tF),
(229,tF),
(230,tF),
(231,tF),
(232,tF),
(233,⟨(.int .u32),1,4,[.int .u32 0]⟩),
(234,tF),
(235,⟨(.int .u64),1,8,[.int .u64 0]⟩),
(236,tF),
(237,tF),
(238,tF),
(240,tF),
(241,tF),
(242,tF),
(243,tF),
(244,tF),
(246,⟨(.int .u64),1,8,[.int .u64 0]⟩),
(247,⟨(.struct [(0,17),(1,245),(2,246)]),3,24,[.nilp,.nilp,.int .u64 0]⟩),
(248,⟨(.struct [(0,17),(1,245),(2,246)]),3,24,[.nilp,.nilp,.int .u64 0]⟩),
(249,tF),
(250,tF),
(251,tF),
(252,tF),
(253,tF),
(254,⟨(.struct [(0,154),(1,250)]),2,16,[.nilf,.nilf]⟩),
(255,⟨(.struct [(0,154),(1,250)]),2,16,[.nilf,.nilf]⟩),
(256,tF),
(257,⟨(.struct [(0,3),(1,3),(2,106),(3,3)]),4,32,[.int .i64 0,.int .i64 0,.nilp,.int .i64 0]⟩),
(258,⟨(.struct [(0,3),(1,3),(2,106),(3,3)]),4,32,[.int .i64 0,.int .i64 0,.nilp,.int .i64 0]⟩),
(259,tF),
(260,tF),
(261,tF),
(262,tF),
(263,tF),
(264,tF),
(265,tF),
(266,⟨(.int .u64),1,8,[.int .u64 0]⟩),
(267,tF),
(268,tF),
(269,tF),
(270,tP 3),
(271,tF),
(272,tF),
(274,tF),
(275,⟨(.map 9 9),1,8,[.nilm]⟩),
(276,tF),
(277,tF),
(278,⟨(.struct [(0,17)]),1,8,[.nilp]⟩),
(279,⟨(.struct [(0,17)]),1,8,[.nilp]⟩),
(280,tP 379),
(281,tF),
(282,tI),
(284,tF),
(285,tF),
(286,tF),
(287,tF),
(288,tF),
(289,tF),
(290,tF),
(291,tF),
(293,tF),
(294,⟨(.struct [(0,3),(1,3)]),2,16,[.int .i64 0,.int .i64 0]⟩),
(295,⟨(.struct [(0,3),(1,3)]),2,16,[.int .i64 0,.int .i64 0]⟩),
(296,tF),
(297,tF),
(299,⟨(.struct [(0,5),(1,5)]),2,2,[.int .u8 0,.int .u8 0]⟩),
(300,⟨(.struct [(0,5),(1,5)]),2,2,[.int .u8 0,.int .u8 0]⟩),
(301,⟨(.array 16 300),32,32,[.int .u8 0,.int .u8 0,.int .u8 0,.int .u8 0,.int .u8 0,.int .u8 0,.int .u8 0,.int .u8 0,.int .u8 0,.int .u8 0,.int .u8 0,.int .u8 0,.int .u8 0,.int .u8 0,.int .u8 0,.int .u8 0,.int .u8 0,.int .u8 0,.int .u8 0,.int .u8 0,.int .u8 0,.int .u8 0,.int .u8 0,.int .u8 0,.int .u8 0,.int .u8 0,.int .u8 0,.int .u8 0,.int .u8 0,.int .u8 0,.int .u8 0,.int .u8 0]⟩),
(302,tP 266),
(303,tF),
(305,tF),
(306,⟨(.array 24 5),24,24,[.int .u8 0,.int .u8 0,.int .u8 0,.int .u8 0,.int .u8 0,.int .u8 0,.int .u8 0,.int .u8 0,.int .u8 0,.int .u8 0,.int .u8 0,.int .u8 0,.int .u8 0,.int .u8 0,.int .u8 0,.int .u8 0,.int .u8 0,.int .u8 0,.int .u8 0,.int .u8 0,.int .u8 0,.int .u8 0,.int .u8 0,.int .u8 0]⟩),
(307,tF),
(309,tF),
(310,tF),
(311,⟨(.int .u64),1,8,[.int .u64 0]⟩),
(312,tF),
(313,tF),
(315,tF),
(316,tF),
(317,tF),
(318,tF),
(320,tF),
(321,tF),
(322,tF),
(323,tF),
(324,tF),
(325,⟨(.array 20 235),20,160,[.int .u64 0,.int .u64 0,.int .u64 0,.int .u64 0,.int .u64 0,.int .u64 0,.int .u64 0,.int .u64 0,.int .u64 0,.int .u64 0,.int .u64 0,.int .u64 0,.int .u64 0,.int .u64 0,.int .u64 0,.int .u64 0,.int .u64 0,.int .u64 0,.int .u64 0,.int .u64 0]⟩),
(327,tF),
(328,⟨(.array 9 98),18,144,[.int .i64 0,.int .i64 0,.int .i64 0,.int .i64 0,.int .i64 0,.int .i64 0,.int .i64 0,.int .i64 0,.int .i64 0,.int .i64 0,.int .i64 0,.int .i64 0,.int .i64 0,.int .i64 0,.int .i64 0,.int .i64 0,.int .i64 0,.int .i64 0]⟩),
(329,⟨(.array 9 98),18,144,[.int .i64 0,.int .i64 0,.int .i64 0,.int .i64 0,.int .i64 0,.int .i64 0,.int .i64 0,.int .i64 0,.int .i64 0,.int .i64 0,.int .i64 0,.int .i64 0,.int .i64 0,.int .i64 0,.int .i64 0,.int .i64 0,.int .i64 0,.int .i64 0]⟩),
(330,⟨(.map 9 329),1,8,[.nilm]⟩),
(331,tF),
(332,tF),
(333,tF),
(334,tF),
(335,tP 311),
(336,tF),
(337,tF),
(338,⟨(.map 5 9),1,8,[.nilm]⟩),
(339,tF),
(340,tF),
(341,⟨(.array 32 5),32,32,[.int .u8 0,.int .u8 0,.int .u8 0,.int .u8 0,.int .u8 0,.int .u8 0,.int .u8 0,.int .u8 0,.int .u8 0,.int .u8 0,.int .u8 0,.int .u8 0,.int .u8 0,.int .u8 0,.int .u8 0,.int .u8 0,.int .u8 0,.int .u8 0,.int .u8 0,.int .u8 0,.int .u8 0,.int .u8 0,.int .u8 0,.int .u8 0,.int .u8 0,.int .u8 0,.int .u8 0,.int .u8 0,.int .u8 0,.int .u8 0,.int .u8 0,.int .u8 0]⟩),
(343,tF),
(344,tF),
(345,tF),
(346,tF),
(347,tF),
(348,tF),
(349,tF),
(350,tF),
(351,tF),
(352,tF),
(353,tF),
(354,tF),
(355,tF),
(357,tF),
(358,tS 365),
(359,tP 365),
(360,tF),
(361,tF),
(362,⟨(.array 3 21),3,12,[.int .i32 0,.int .i32 0,.int .i32 0]⟩),
(363,⟨(.array 3 21),3,12,[.int .i32 0,.int .i32 0,.int .i32 0]⟩),
(364,⟨(.struct [(0,233),(1,233),(2,363)]),5,20,[.int .u32 0,.int .u32 0,.int .i32 0,.int .i32 0,.int .i32 0]⟩),
(365,⟨(.struct [(0,233),(1,233),(2,363)]),5,20,[.int .u32 0,.int .u32 0,.int .i32 0,.int .i32 0,.int .i32 0]⟩),
(366,⟨(.struct [(0,17),(1,17),(2,17),(3,9)]),4,40,[.nilp,.nilp,.nilp,.str []]⟩),
(367,⟨(.struct [(0,17),(1,17),(2,17),(3,9)]),4,40,[.nilp,.nilp,.nilp,.str []]⟩),
(368,⟨(.array 0 16),0,0,[]⟩),
(369,⟨(.struct [(0,368)]),0,0,[]⟩),
(370,⟨(.struct [(0,368)]),0,0,[]⟩),
(371,⟨(.int .u8),1,1,[.int .u8 0]⟩),
(372,⟨(.int .u8),1,1,[.int .u8 0]⟩),
(373,tF),
(374,⟨(.int .i32),1,4,[.int .i32 0]⟩),
(375,⟨(.int .i32),1,4,[.int .i32 0]⟩),
(376,⟨(.struct [(0,12),(1,12),(2,233),(3,371),(4,5),(5,5),(6,372),(7,373),(8,224),(9,374),(10,375)]),11,48,[.int .u64 0,.int .u64 0,.int .u32 0,.int .u8 0,.int .u8 0,.int .u8 0,.int .u8 0,.nilf,.nilp,.int .i32 0,.int .i32 0]⟩),
(377,⟨(.struct [(0,12),(1,12),(2,233),(3,371),(4,5),(5,5),(6,372),(7,373),(8,224),(9,374),(10,375)]),11,48,[.int .u64 0,.int .u64 0,.int .u32 0,.int .u8 0,.int .u8 0,.int .u8 0,.int .u8 0,.nilf,.nilp,.int .i32 0,.int .i32 0]⟩),
(378,⟨(.struct [(0,9),(1,372)]),2,24,[.str [],.int .u8 0]⟩),
(379,⟨(.struct [(0,9),(1,372)]),2,24,[.str [],.int .u8 0]⟩)]
theorem okL:zag Tryz.prog L:=zag.of_check (by kernel_rfl)
theorem hmix:Tryz.prog.follows .mixedOrders=true:=by kernel_rfl
end Go.Proofs.YtpopmiodjibljaaGreatDoor
namespace Go.Abs
open Go
abbrev i64 (n:Int):A:=.int .i64 n
inductive Pat where
 |mk (op n min max:Int) (name:List UInt8) (set:List (Int×Int)) (l:List Pat)
 deriving Inhabited
namespace Pat
def op:Pat→Int|.mk a _ _ _ _ _ _=>a
def n:Pat→Int|.mk _ a _ _ _ _ _=>a
def min:Pat→Int|.mk _ _ a _ _ _ _=>a
def max:Pat→Int|.mk _ _ _ a _ _ _=>a
def name:Pat→List UInt8|.mk _ _ _ _ a _ _=>a
def set:Pat→List (Int×Int)|.mk _ _ _ _ _ a _=>a
def l:Pat→List Pat|.mk _ _ _ _ _ _ a=>a
end Pat
def zaf (s:Int×Int):List A:=[i64 s.1,i64 s.2]
mutual
def Pat.cells:Pat→List A
 |.mk op n mn mx nm st l=>[i64 op,i64 n,i64 mn,i64 mx,.str nm,.ds (st.map zaf),.ds (Pat.cellsL l)]
def Pat.cellsL:List Pat→List (List A)
 |[]=>[]
 |x::l=>x.cells::Pat.cellsL l
end
theorem Pat.cellsL_eq (l:List Pat):Pat.cellsL l=l.map Pat.cells:=by
 induction l with
 |nil=>rfl
 |cons x l ih=>simp [Pat.cellsL,ih]
def Pat.C (x:Pat):List A:=[i64 x.op,i64 x.n,i64 x.min,i64 x.max,.str x.name,.ds (x.set.map zaf),.ds (x.l.map Pat.cells)]
theorem Pat.cells_eq (x:Pat):x.cells=x.C:=by
 cases x;simp [Pat.cells,Pat.C,Pat.cellsL_eq,Pat.op,Pat.n,Pat.min,Pat.max,Pat.name,Pat.set,Pat.l]
theorem Pat.ind {M:Pat→Prop} (h:∀x:Pat,(∀y∈x.l,M y)→M x) (x:Pat):M x:=
 Pat.rec (motive_1:=M) (motive_2:=fun l=>∀y∈l,M y) (fun op n mn mx nm st l ih=>h (.mk op n mn mx nm st l) ih) (fun y hy=>by cases hy) (fun a l ha hl y hy=>by
  rcases List.mem_cons.1 hy with rfl|hy
  ·exact ha
  ·exact hl y hy) x
theorem getC {l:List Pat} {k:Nat} {y:Pat} (h:l[k]?=some y):(l.map Pat.cells)[((k:Nat):Int).toNat]?=some y.C:=by simp [h,Pat.cells_eq]
theorem getS {l:List (Int×Int)} {k:Nat} {y:Int×Int} (h:l[k]?=some y):(l.map zaf)[((k:Nat):Int).toNat]?=some (zaf y):=by simp [h]
theorem zaT {α:Type} {l:List α} {k:Nat} {y:α} (h:l[k]?=some y):l.drop k=y::l.drop (k+1):=by
 obtain ⟨hk,rfl⟩:=List.getElem?_eq_some_iff.1 h;exact List.drop_eq_getElem_cons hk
def rowM:Int→List (Int×Int)→Bool
 |_,[]=>true
 |nx,x::l=>!(decide (x.1<nx)||decide (x.2<x.1)||decide (x.2>1114111))&&rowM (x.2+2) l
theorem zdf {nx:Int} {x:Int×Int} {l:List (Int×Int)} (h:rowM nx (x::l)=true):nx≤x.1∧x.1≤x.2∧x.2≤1114111∧rowM (x.2+2) l=true:=by
 simp only [rowM,Bool.and_eq_true,Bool.not_eq_true',Bool.or_eq_false_iff,decide_eq_false_iff_not] at h;exact ⟨by omega,by omega,by omega,h.2⟩
theorem zdW {nx:Int} {x:Int×Int} {l:List (Int×Int)} (h:nx≤x.1∧x.1≤x.2∧x.2≤1114111∧rowM (x.2+2) l=true):rowM nx (x::l)=true:=by
 simp only [rowM,Bool.and_eq_true,Bool.not_eq_true',Bool.or_eq_false_iff,decide_eq_false_iff_not];exact ⟨⟨⟨by omega,by omega⟩,by omega⟩,h.2.2.2⟩
def inS (x:Int×Int) (n:Int):Bool:=decide (x.1≤n)&&decide (n≤x.2)
def inM (l:List (Int×Int)) (n:Int):Bool:=l.any fun x=>inS x n
theorem za8 (x:Int×Int) (l:List (Int×Int)) (n:Int):inM (x::l) n=(inS x n||inM l n):=rfl
theorem zbB (x:Int×Int) (n:Int):inS x n=true↔x.1≤n∧n≤x.2:=by simp [inS]
theorem zeq {n:Int}:∀{l:List (Int×Int)} {nx:Int},rowM nx l=true→inM l n=true→nx≤n∧n≤1114111
 |[],nx,_,h=>by cases h
 |x::l,nx,h,hn=>by
  obtain ⟨h1,h2,h3,h4⟩:=zdf h;rw [za8,Bool.or_eq_true] at hn;rcases hn with hn|hn
  ·rw [zbB] at hn;omega
  ·have:=zeq h4 hn;omega
theorem zlK {n nx:Int} {l:List (Int×Int)} (h:rowM nx l=true) (hn:n<nx):inM l n=false:=by
 cases e:inM l n with
 |false=>rfl
 |true=>have:=zeq h e;omega
theorem zrt:∀{l1 l2:List (Int×Int)} {nx:Int},rowM nx l1=true→rowM nx l2=true→(∀n,inM l1 n=inM l2 n)→l1=l2
 |[],[],_,_,_,_=>rfl
 |[],y::t,nx,h1,h2,h=>by
  have a:=zdf h2;have:=h y.1;rw [za8,(zbB y y.1).2 ⟨Int.le_refl _,a.2.1⟩] at this;cases this
 |x::t,[],nx,h1,h2,h=>by
  have a:=zdf h1;have:=h x.1;rw [za8,(zbB x x.1).2 ⟨Int.le_refl _,a.2.1⟩] at this;cases this
 |x::t1,y::t2,nx,h1,h2,h=>by
  have a:=zdf h1;have b:=zdf h2;have xin:inM (x::t1) x.1=true:=by rw [za8,(zbB x x.1).2 ⟨Int.le_refl _,a.2.1⟩];rfl
  have yin:inM (y::t2) y.1=true:=by rw [za8,(zbB y y.1).2 ⟨Int.le_refl _,b.2.1⟩];rfl
  have e1:x.1=y.1:=by
   have p:=zeq (zdW (nx:=y.1) ⟨Int.le_refl _,b.2⟩) ((h x.1).symm.trans xin);have q:=zeq (zdW (nx:=x.1) ⟨Int.le_refl _,a.2⟩) ((h y.1).trans yin);omega
  have e2:x.2=y.2:=by
   rcases Int.lt_trichotomy x.2 y.2 with hl|hl|hl
   ·have p:inM (y::t2) (x.2+1)=true:=by rw [za8,(zbB y (x.2+1)).2 ⟨by omega,by omega⟩];rfl
    rw [←h (x.2+1),za8,Bool.or_eq_true,zbB] at p;rcases p with p|p
    ·omega
    ·have:=zeq a.2.2.2 p;omega
   ·exact hl
   ·have p:inM (x::t1) (y.2+1)=true:=by rw [za8,(zbB x (y.2+1)).2 ⟨by omega,by omega⟩];rfl
    rw [h (y.2+1),za8,Bool.or_eq_true,zbB] at p;rcases p with p|p
    ·omega
    ·have:=zeq b.2.2.2 p;omega
  have e:x=y:=Prod.ext e1 e2;subst e;have:=zrt a.2.2.2 b.2.2.2 fun n=>by
   by_cases hn:n<x.2+2
   ·rw [zlK a.2.2.2 hn,zlK b.2.2.2 hn]
   ·have:=h n
    rw [za8,za8] at this;have hx:inS x n=false:=by
     cases e:inS x n with
     |false=>rfl
     |true=>rw [zbB] at e;omega
    rw [hx] at this;exact this
  rw [this]
def zb0 (y:Int×Int):List (Int×Int)→List (Int×Int)
 |[]=>[y]
 |x::l=>if x.1≤y.2+1 then zb0 (y.1,max y.2 x.2) l else y::zb0 x l
def zgd:List (Int×Int)→List (Int×Int)
 |[]=>[]
 |x::l=>zb0 x l
def okS' (x:Int×Int):Prop:=x.1≤x.2∧x.2≤1114111
def asc (l:List (Int×Int)):Prop:=l.Pairwise fun x y=>x.1≤y.1
theorem zei:∀{l:List (Int×Int)} {y:Int×Int} {nx:Int},nx≤y.1→okS' y→(∀x∈l,okS' x)→asc (y::l)→rowM nx (zb0 y l)=true
 |[],y,nx,h,hy,_,_=>zdW ⟨h,hy.1,hy.2,rfl⟩
 |x::l,y,nx,h,hy,hl,hs=>by
  have hx:=hl x List.mem_cons_self;unfold okS' at hx hy;obtain ⟨hs1,hs2⟩:=List.pairwise_cons.1 hs;have h1:=hs1 x List.mem_cons_self;simp only [zb0];split
  ·refine zei (by exact h) ⟨by simp only;omega,by simp only;omega⟩ (fun z hz=>hl z (List.mem_cons_of_mem _ hz)) (List.pairwise_cons.2 ⟨fun z hz=>hs1 z (List.mem_cons_of_mem _ hz),(List.pairwise_cons.1 hs2).2⟩)
  ·exact zdW ⟨h,hy.1,hy.2,zei (by omega) hx (fun z hz=>hl z (List.mem_cons_of_mem _ hz)) hs2⟩
theorem zfx (n:Int):∀{l:List (Int×Int)} {y:Int×Int},okS' y→(∀x∈l,okS' x)→asc (y::l)→inM (zb0 y l) n=(inS y n||inM l n)
 |[],y,_,_,_=>by simp [zb0,inM]
 |x::l,y,hy,hl,hs=>by
  have hx:=hl x List.mem_cons_self;unfold okS' at hx hy;obtain ⟨hs1,hs2⟩:=List.pairwise_cons.1 hs;have h1:=hs1 x List.mem_cons_self;simp only [zb0];split
  ·rename_i hc
   rw [zfx n (y:=(y.1,max y.2 x.2)) ⟨by simp only;omega,by simp only;omega⟩ (fun z hz=>hl z (List.mem_cons_of_mem _ hz)) (List.pairwise_cons.2 ⟨fun z hz=>hs1 z (List.mem_cons_of_mem _ hz),(List.pairwise_cons.1 hs2).2⟩),za8,←Bool.or_assoc]
   congr 1
   rw [Bool.eq_iff_iff,Bool.or_eq_true,zbB,zbB,zbB];simp only;omega
  ·rw [za8,zfx n hx (fun z hz=>hl z (List.mem_cons_of_mem _ hz)) hs2,za8]
theorem ziz {l:List (Int×Int)} (hl:∀x∈l,0≤x.1∧okS' x) (hs:asc l):rowM 0 (zgd l)=true:=by
 cases l with
 |nil=>rfl
 |cons x l=>exact zei (hl x List.mem_cons_self).1 (hl x List.mem_cons_self).2 (fun z hz=>(hl z (List.mem_cons_of_mem _ hz)).2) hs
theorem zkg {l:List (Int×Int)} (hl:∀x∈l,okS' x) (hs:asc l) (n:Int):inM (zgd l) n=inM l n:=by
 cases l with
 |nil=>rfl
 |cons x l=>exact zfx n (hl x List.mem_cons_self) (fun z hz=>hl z (List.mem_cons_of_mem _ hz)) hs
theorem zjI {l l':List (Int×Int)} (h:l.Perm l') (n:Int):inM l n=inM l' n:=by
 rw [Bool.eq_iff_iff];simp only [inM,List.any_eq_true];exact ⟨fun ⟨x,hx,hn⟩=>⟨x,h.mem_iff.1 hx,hn⟩,fun ⟨x,hx,hn⟩=>⟨x,h.mem_iff.2 hx,hn⟩⟩
def zrR (want:Int) (x y:Bool):Bool:=!((decide (want=0)&&(x||y))||(decide (want=1)&&(!x&&!y))||(decide (want=2)&&(!x||!y)))
def takes (a b:List (Int×Int)) (want p q:Int):Bool:=!(decide (p>q)||decide (p>1114111))&&zrR want (inM a p) (inM b p)
section
variable {a b:List (Int×Int)} {want:Int}
end
end Go.Abs
namespace Go.Proofs.YtpopmiodjibljaaGreatDoor
open Go Go.Abs
theorem ag {N:NN} {Q:Exit→Env→Heap→Prop} {H:Heap} (n:Nat) {f f':Foc} {k k':List Fr} {T T':Env} (h:stN L N true n f k T=some (f',k',T')) (c:AC Tryz.prog N L f' k' Q T' H):AC Tryz.prog N L f k Q T H:=AC.g n okL h c
section
variable {N:NN} {Q:Exit→Env→Heap→Prop} {H:Heap} {T:Env} {k:List Fr}
theorem ae {c:Code} (h:AC Tryz.prog N L (.code c) k Q T H):AWp Tryz.prog N c (kQ Tryz.prog N k Q) T H:=h.out
theorem ae0 {c:Code} (h:AC Tryz.prog N L (.code c) [] Q T H):AWp Tryz.prog N c Q T H:=h.out
theorem ab {all rest:List Oper} (h:AC Tryz.prog N L (.ops all rest) k Q T H):AOps Tryz.prog N all rest (kQ Tryz.prog N k Q) T H:=h.out
theorem ap {ops:Array Oper} {rest:List Oper} (h:AC Tryz.prog N L (.pl ops rest) k Q T H):Pl Tryz.prog N L ops (kQ Tryz.prog N k Q .normal) rest T H:=h.out
theorem ax {e:Exit} (h:AC Tryz.prog N L (.ex e) k Q T H):kQ Tryz.prog N k Q e T H:=h.out
end
def w64 (n:Int):Int:=IntKind.i64.wrap n
theorem zdG {n:Int} (h1:-9223372036854775808≤n) (h2:n≤9223372036854775807):w64 n=n:=zh2 h1 h2
theorem zaS {n:Int} (h:-9223372036854775808≤n∧n≤9223372036854775807):IntKind.i64.wrap n=n:=zh2 h.1 h.2
theorem zcE {α:Type} {l:List α} {k:Nat} {y:α} (h:l[k]?=some y):l.take (k+1)=l.take k++[y]:=by rw [List.take_add_one,h];rfl
def nC (c:Nat):List A:=[i64 (c:Int)]
def zC (c:Int):List A:=[i64 c]
def sC (s:List UInt8):List A:=[.str s]
theorem zje {α:Type} {r:Nat} {l:List α}:some r=none→l=[]:=fun h=>by cases h
def chM (c:Int):Bool:=decide (c≥0)&&(decide (c≤1114111)&&(decide (c<55296)||decide (c>57343)))
theorem zgh (c:Int):PTr Tryz.prog 137 [i64 c] (.bool (chM c)):=by
 refine PTr.of_body (N:=17) Tryz.func137 I I I ?_;refine ae0 (ag 10 I (J3 ?_));refine J6 I I I (fun h=>?_) (fun h=>?_)
 ·refine ab (ag 4 I (J3 ?_))
  refine J6 I I I (fun h=>?_) (fun h=>?_)
  ·refine ab (ag 3 I (J3 ?_))
   refine J6 I I I (fun h=>?_) (fun h=>?_)
   ·refine ab (ag 8 I (O ?_))
    refine zab (J2 I I) ?_;(simp_all [chM]<;>first|omega|(rw [Bool.eq_iff_iff];simp<;>omega))
   ·refine ab (ag 8 I (O ?_))
    refine zab (J2 I I) ?_;(simp_all [chM]<;>(omega))
  ·refine ab (ag 11 I (O ?_))
   refine zab (J2 I I) ?_;(simp_all [chM]<;>(omega))
 ·refine ab (ag 15 I (O ?_))
  refine zab (J2 I I) ?_;(simp_all [chM]<;>(omega))
def mxI (a b:Int):Int:=if b>a then b else a
mutual
/-- Nodes, groups and depth of a pattern. -/
def szP:Pat→Int×Int×Int
 |.mk op _ _ _ _ _ l=>let a:=szL l (1,if op=7 then 1 else 0,0);(a.1,a.2.1,w64 (a.2.2+1))
def szL:List Pat→Int×Int×Int→Int×Int×Int
 |[],a=>a
 |y::l,a=>szL l (w64 (a.1+(szP y).1),w64 (a.2.1+(szP y).2.1),mxI a.2.2 (szP y).2.2)
end
theorem zo5 (x:Pat):szP x=((szL x.l (1,if x.op=7 then 1 else 0,0)).1,(szL x.l (1,if x.op=7 then 1 else 0,0)).2.1,w64 ((szL x.l (1,if x.op=7 then 1 else 0,0)).2.2+1)):=by
 cases x;rw [szP];rfl
set_option maxRecDepth 100000 in
theorem ref12Size_tr (x:Pat):PTr Tryz.prog 48 [.agg x.C] (.agg [i64 (szP x).1,i64 (szP x).2.2,i64 (szP x).2.1]):=by
 induction x using Pat.ind with|h x IH=>_
 refine PTr.of_body (N:=47) Tryz.func48 I I I ?_;refine Jo (t:=0) rfl (zbo.agg (x:=.ds (x.l.map Pat.cells)) (by simp [Pat.C]) (zbo.ds _)) fun hlen=>?_;rw [List.length_map] at hlen;refine ae0 (ag 2 I (J (Jf I I (zaa I) rfl I (fun _ _=>(ab (J (Jb okL I I I (fun _ _=>(ab (ag 5 I (J (Jb okL I I I (fun _ _=>(ab (J (J4 okL I I I (zaa I) rfl I I .here I I I (ab (ag 6 I (J (U okL I (.tail _ (.tail _ (.head _))) I I I I (ab (ag 3 I (Y ?_)))))))))))))))))))))));rename_i r1 _ r2 _ r3 _;refine AWp.join (α:=Int) (fun _=>[(1,.ptr r1 7 0 0),(2,.ptr r2 3 0 0),(3,.ptr r3 3 0 0)])
  (fun g=>[(r3,.row 81 3 [[i64 1,i64 0,i64 g]]),(r2,.row 81 3 [[i64 0,i64 0,i64 0]]),(r1,.row 25 7 [x.C])])
  (fun g=>g=if x.op=7 then 1 else 0) ?_ fun R K hR=>?_
 ·intro g hg
  refine ae (ag 7 I (Y ?_));refine Jh (α:=Nat×Int×Int×Int) (fun a=>x.l.length - a.1) (fun a=>[(1,.ptr r1 7 0 0),(2,.ptr r2 3 0 0),(3,.ptr r3 3 0 0),(4,i64 a.1)])
   (fun a=>[(r3,.row 81 3 [[i64 a.2.1,i64 a.2.2.2,i64 a.2.2.1]]),(r2,.row 81 3 [[i64 0,i64 0,i64 0]]),(r1,.row 25 7 [x.C])])
   (fun a=>a.1≤x.l.length∧szL (x.l.drop a.1) a.2=szL x.l (1,if x.op=7 then 1 else 0,0)) (0,1,g,0) ⟨Nat.zero_le _,by rw [←hg];rfl⟩ ?_ (List.Perm.refl _) ?_
  ·simp only [za0]
   refine ⟨rfl,rfl,rfl,rfl,trivial⟩
  rintro ⟨k,m⟩ ⟨hk,hm⟩ ih;simp only at hk hm;refine ae0 (ag 5 rfl (J (U okL rfl (.tail _ (.tail _ (.head _))) rfl rfl rfl rfl (ab (ag 4 rfl (Y ?_))))))
  (refine J1 I (fun h=>?_) (fun h=>?_))
  ·have h:=of_decide_eq_true h
   simp only [List.length_map] at h;obtain ⟨y,hy⟩:∃y,x.l[k]?=some y:=⟨x.l[k],by simp [show k<x.l.length by omega]⟩
   rw [zaT hy,szL] at hm;refine ae (ag 7 I (J (U okL I (.tail _ (.tail _ (.head _))) I I I I (ab (ag 1 I (J3 ?_))))))
   (refine AOps.simple okL I (zai I I I I I ((by omega)) (getC hy) rfl) rfl ?_)
   refine ab (ag 1 I (J (J7 I I I (IH y (List.mem_of_getElem? hy)) (ab (J (Jb okL I I I (fun _ _=>(ab (J (J4 okL I I I (zaa I) rfl I I .here I I I (ab (ag 5 I (J (U okL I (.tail _ (.head _)) I I I I (ab (ag 1 I (J (U okL I (.head _) rfl I I I (ab (ag 2 I (J (J4 okL I I I (zaa I) rfl I I (.there .here) rfl I I (ab (ag 5 I (J (U okL I (.tail _ (.head _)) I I I I (ab (ag 1 I (J (U okL I (.head _) rfl I I I (ab (ag 2 I (J (J4 okL I I I (zaa I) rfl I I (.there .here) rfl I I (ab (ag 4 I (J (U okL I (.tail _ (.head _)) I I I I (ab (ag 1 I (J (U okL I (.head _) rfl I I I (ab (ag 2 I (J (J4 okL I I I (zaa I) rfl I I (.there .here) rfl I I (ab (ag 8 I (O (zap ?_))))))))))))))))))))))))))))))))))))))))))))))))));refine AIn.nextN 1 (ih (k+1,_) ⟨by omega,hm⟩ (by simp only;omega)) ?_ I
   simp only [za0];refine ⟨rfl,rfl,rfl,?_,trivial⟩;exact congrArg some (nxt (by omega) hlen)
  ·have h:=of_decide_eq_false h
   simp only [List.length_map] at h;rw [List.drop_eq_nil_of_le (by omega),szL] at hm;refine ae (ag 2 I (O (ae (ag 3 I (J (U okL I (.head _) rfl I I I (ab (ag 2 I (J (J4 okL I I I (zaa I) rfl I I .here I I I (ab (ag 4 I (J (U okL I (.head _) rfl I I I (ab (J (J4 okL I I I (zaa I) rfl I I (.there .here) rfl I I (ab (ag 3 I (O ?_))))))))))))))))))));refine zab (zac.cell okL I I (.tail _ (.head _)) I I I) ?_;rw [zo5,←hm];rfl
 (refine J1 I (fun h=>?_) (fun h=>?_))
 ·refine ae0 (ag 2 I (J (J4 okL I I I (zaa I) rfl I I .here I I I (ab (ag 1 I (O ?_))))))
  (refine K (1) (by rw [if_pos (of_decide_eq_true h)]) 0 _ _ ?_ rfl;repeat (first|exact trivial|refine ⟨rfl,?_⟩))
 ·refine ae0 (ag 1 I (O ?_))
  (refine K (0) (by rw [if_neg (of_decide_eq_false h)]) 0 _ _ ?_ rfl;repeat (first|exact trivial|refine ⟨rfl,?_⟩))
set_option maxRecDepth 100000 in
theorem measure_tr (x:Pat):PTr Tryz.prog 111 [.agg x.C] (.agg [i64 (szP x).1,i64 (szP x).2.1,i64 (szP x).2.2]):=by
 induction x using Pat.ind with|h x IH=>_
 refine PTr.of_body (N:=43) Tryz.func111 I I I ?_;refine Jo (t:=0) rfl (zbo.agg (x:=.ds (x.l.map Pat.cells)) (by simp [Pat.C]) (zbo.ds _)) fun hlen=>?_;rw [List.length_map] at hlen;refine ae0 (ag 2 I (J (Jf I I (zaa I) rfl I (fun _ _=>(ab (J (Jb okL I I I (fun _ _=>(ab (ag 5 I (J (Jb okL I I I (fun _ _=>(ab (J (J4 okL I I I (zaa I) rfl I I .here I I I (ab (ag 6 I (J (U okL I (.tail _ (.tail _ (.head _))) I I I I (ab (ag 3 I (Y ?_)))))))))))))))))))))));rename_i r1 _ r2 _ r3 _;refine AWp.join (α:=Int) (fun _=>[(1,.ptr r1 7 0 0),(2,.ptr r2 3 0 0),(3,.ptr r3 3 0 0)])
  (fun g=>[(r3,.row 156 3 [[i64 1,i64 g,i64 0]]),(r2,.row 156 3 [[i64 0,i64 0,i64 0]]),(r1,.row 25 7 [x.C])])
  (fun g=>g=if x.op=7 then 1 else 0) ?_ fun R K hR=>?_
 ·intro g hg
  refine ae (ag 4 I (J (U okL I (.tail _ (.tail _ (.head _))) I I I I (ab (ag 5 I (Y ?_))))));refine Jh (α:=Nat×Int×Int×Int) (fun a=>x.l.length - a.1) (fun a=>[(1,.ptr r1 7 0 0),(2,.ptr r2 3 0 0),(3,.ptr r3 3 0 0),(13,.ds (x.l.map Pat.cells)),(14,i64 (x.l.map Pat.cells).length),(15,i64 a.1)])
   (fun a=>[(r3,.row 156 3 [[i64 a.2.1,i64 a.2.2.1,i64 a.2.2.2]]),(r2,.row 156 3 [[i64 0,i64 0,i64 0]]),(r1,.row 25 7 [x.C])])
   (fun a=>a.1≤x.l.length∧szL (x.l.drop a.1) a.2=szL x.l (1,if x.op=7 then 1 else 0,0)) (0,1,g,0) ⟨Nat.zero_le _,by rw [←hg];rfl⟩ ?_ (List.Perm.refl _) ?_
  ·simp only [za0]
   refine ⟨rfl,rfl,rfl,rfl,rfl,rfl,trivial⟩
  rintro ⟨k,m⟩ ⟨hk,hm⟩ ih;simp only at hk hm;refine ae0 (ag 6 rfl (Y ?_))
  (refine J1 I (fun h=>?_) (fun h=>?_))
  ·have h:=of_decide_eq_true h
   simp only [List.length_map] at h;obtain ⟨y,hy⟩:∃y,x.l[k]?=some y:=⟨x.l[k],by simp [show k<x.l.length by omega]⟩
   rw [zaT hy,szL] at hm;refine ae (ag 6 I (J3 ?_))
   (refine AOps.simple okL I (zai I I I I I ((by omega)) (getC hy) rfl) rfl ?_)
   refine ab (ag 1 I (J (Jb okL I I I (fun _ _=>(ab (J (J4 okL I I I (zaa I) rfl I I .here I I I (ab (ag 4 I (J (U okL I (.head _) rfl I I I (ab (J (J7 I I I (IH y (List.mem_of_getElem? hy)) (ab (J (Jb okL I I I (fun _ _=>(ab (J (J4 okL I I I (zaa I) rfl I I .here I I I (ab (ag 4 I (J (U okL I (.tail _ (.tail _ (.head _))) I I I I (ab (ag 1 I (J (U okL I (.head _) rfl I I I (ab (ag 2 I (J (U okL I (.tail _ (.tail _ (.head _))) I I I I (ab (ag 1 I (J (U okL I (.head _) rfl I I I (ab (ag 2 I (J (U okL I (.tail _ (.tail _ (.head _))) I I I I (ab (ag 1 I (J (U okL I (.head _) rfl I I I (ab (ag 2 I (J (J4 okL I I I (zaa I) rfl I I (.there (.there .here)) I I I (ab (ag 7 I (O (zap ?_)))))))))))))))))))))))))))))))))))))))))))))))))))));refine AIn.nextN 2 (ih (k+1,_) ⟨by omega,hm⟩ (by simp only;omega)) ?_ I
   simp only [za0];refine ⟨rfl,rfl,rfl,rfl,rfl,?_,trivial⟩;exact congrArg some (nxt (by omega) hlen)
  ·have h:=of_decide_eq_false h
   simp only [List.length_map] at h;rw [List.drop_eq_nil_of_le (by omega),szL] at hm;refine ae (ag 2 I (O (ae (ag 3 I (J (U okL I (.head _) rfl I I I (ab (ag 2 I (J (J4 okL I I I (zaa I) rfl I I .here I I I (ab (ag 4 I (J (U okL I (.head _) rfl I I I (ab (J (J4 okL I I I (zaa I) rfl I I (.there .here) rfl I I (ab (ag 3 I (O ?_))))))))))))))))))));refine zab (zac.cell okL I I (.tail _ (.head _)) I I I) ?_;rw [zo5,←hm];rfl
 (refine J1 I (fun h=>?_) (fun h=>?_))
 ·refine ae0 (ag 2 I (J (J4 okL I I I (zaa I) rfl I I .here I I I (ab (ag 1 I (O ?_))))))
  (refine K (1) (by rw [if_pos (of_decide_eq_true h)]) 0 _ _ ?_ rfl;repeat (first|exact trivial|refine ⟨rfl,?_⟩))
 ·refine ae0 (ag 1 I (O ?_))
  (refine K (0) (by rw [if_neg (of_decide_eq_false h)]) 0 _ _ ?_ rfl;repeat (first|exact trivial|refine ⟨rfl,?_⟩))
theorem zbP (c:Int):PTr Tryz.prog 60 [i64 c] (.bool (chM c)):=by
 refine PTr.of_body (N:=17) Tryz.func60 I I I ?_;refine ae0 (ag 10 I (J3 ?_));refine J6 I I I (fun h=>?_) (fun h=>?_)
 ·refine ab (ag 4 I (J3 ?_))
  refine J6 I I I (fun h=>?_) (fun h=>?_)
  ·refine ab (ag 3 I (J3 ?_))
   refine J6 I I I (fun h=>?_) (fun h=>?_)
   ·refine ab (ag 8 I (O ?_))
    refine zab (J2 I I) ?_;(simp_all [chM]<;>first|omega|(rw [Bool.eq_iff_iff];simp<;>omega))
   ·refine ab (ag 8 I (O ?_))
    refine zab (J2 I I) ?_;(simp_all [chM]<;>(omega))
  ·refine ab (ag 11 I (O ?_))
   refine zab (J2 I I) ?_;(simp_all [chM]<;>(omega))
 ·refine ab (ag 15 I (O ?_))
  refine zab (J2 I I) ?_;(simp_all [chM]<;>(omega))
def wiM (n lo hi:Int):Bool:=decide (n≥lo)&&decide (n≤hi)
theorem zaC (n lo hi:Int):PTr Tryz.prog 211 [i64 n,i64 lo,i64 hi] (.bool (wiM n lo hi)):=by
 refine PTr.of_body (N:=15) Tryz.func211 I I I ?_;refine ae0 (ag 11 I (J3 ?_));refine J6 I I I (fun h=>?_) (fun h=>?_)
 ·refine ab (ag 8 I (O ?_))
  refine zab (J2 I I) ?_;(simp_all [wiM]<;>first|omega|(rw [Bool.eq_iff_iff];simp<;>omega))
 ·refine ab (ag 8 I (O ?_))
  refine zab (J2 I I) ?_;(simp_all [wiM]<;>(omega))
def ltM (c:Int):Bool:=decide (c≥97)&&decide (c≤122)||decide (c≥65)&&decide (c≤90)
theorem zgk (c:Int):PTr Tryz.prog 260 [.int .u8 c] (.bool (ltM c)):=by
 refine PTr.of_body (N:=17) Tryz.func260 I I I ?_;refine ae0 (ag 10 I (J3 ?_));refine J6 I I I (fun h=>?_) (fun h=>?_)
 ·refine ab (ag 4 I (J3 ?_))
  refine J6 I I I (fun h=>?_) (fun h=>?_)
  ·refine ab (ag 11 I (O ?_))
   refine zab (J2 I I) ?_;(simp_all [ltM]<;>first|omega|(rw [Bool.eq_iff_iff];simp<;>omega))
  ·refine ab (ag 3 I (J3 ?_))
   refine J6 I I I (fun h=>?_) (fun h=>?_)
   ·refine ab (ag 8 I (O ?_))
    refine zab (J2 I I) ?_;(simp_all [ltM]<;>(omega))
   ·refine ab (ag 8 I (O ?_))
    refine zab (J2 I I) ?_;(simp_all [ltM]<;>(omega))
 ·refine ab (ag 7 I (J3 ?_))
  refine J6 I I I (fun h=>?_) (fun h=>?_)
  ·refine ab (ag 8 I (O ?_))
   refine zab (J2 I I) ?_;(simp_all [ltM]<;>(omega))
  ·refine ab (ag 8 I (O ?_))
   refine zab (J2 I I) ?_;(simp_all [ltM]<;>(omega))
def zbt (n l:Int):Int:=if n=0∨l=0 then 0 else if n<0∨l<0 then -1 else w64 (n*l)
theorem zjH (n l:Int):PTr Tryz.prog 215 [i64 n,i64 l] (i64 (zbt n l)):=by
 refine PTr.of_body (N:=22) Tryz.func215 I I I ?_;refine ae0 (ag 12 I (J3 ?_));refine J6 I I I (fun h=>?_) (fun h=>?_)
 ·refine ab (ag 15 I (O ?_))
  refine zab (J2 I I) ?_;(simp_all [zbt,w64]<;>first|omega|(rw [Bool.eq_iff_iff];simp<;>omega))
 ·refine ab (ag 6 I (Y ?_))
  refine J1 I (fun h=>?_) (fun h=>?_)
  ·refine ae (ag 8 I (O ?_))
   refine zab (J2 I I) ?_;(simp_all [zbt,w64]<;>first|omega|(rw [Bool.eq_iff_iff];simp<;>omega))
  ·refine ae (ag 5 I (J3 ?_))
   refine J6 I I I (fun h=>?_) (fun h=>?_)
   ·refine ab (ag 15 I (O ?_))
    refine zab (J2 I I) ?_;(simp_all [zbt,w64]<;>first|omega|(rw [Bool.eq_iff_iff];simp<;>omega))
   ·refine ab (ag 6 I (Y ?_))
    refine J1 I (fun h=>?_) (fun h=>?_)
    ·refine ae (ag 8 I (O ?_))
     refine zab (J2 I I) ?_;(simp_all [zbt,w64]<;>first|omega|(rw [Bool.eq_iff_iff];simp<;>omega))
    ·refine ae (ag 12 I (O ?_))
     refine zab (J2 I I) ?_;(simp_all [zbt,w64]<;>(omega))
def zk2 (a b:Int):Int:=if a<0∨b<0 then -1 else w64 (a+b)
theorem zpW (a b:Int):PTr Tryz.prog 216 [i64 a,i64 b] (i64 (zk2 a b)):=by
 refine PTr.of_body (N:=14) Tryz.func216 I I I ?_;refine ae0 (ag 11 I (J3 ?_));refine J6 I I I (fun h=>?_) (fun h=>?_)
 ·refine ab (ag 13 I (O ?_))
  refine zab (J2 I I) ?_;(simp_all [zk2,w64]<;>first|omega|(rw [Bool.eq_iff_iff];simp<;>omega))
 ·refine ab (ag 5 I (Y ?_))
  refine J1 I (fun h=>?_) (fun h=>?_)
  ·refine ae (ag 7 I (O ?_))
   refine zab (J2 I I) ?_;(simp_all [zk2,w64]<;>first|omega|(rw [Bool.eq_iff_iff];simp<;>omega))
  ·refine ae (ag 11 I (O ?_))
   refine zab (J2 I I) ?_;(simp_all [zk2,w64]<;>(omega))
def zes (x y:Pat):Bool:=if x.op=4 then !decide (y.op=4)&&!decide (y.op=0) else if x.op=5 then !decide (y.op=5) else true
theorem zi0 (x y:Pat):PTr Tryz.prog 165 [.agg x.C,.agg y.C] (.bool (zes x y)):=by
 refine PTr.of_body (N:=22) Tryz.func165 I I I ?_;refine ae0 (ag 2 I (J (Jf I I (zaa I) rfl I (fun _ _=>(ab (J (Jf I I (zaa I) rfl I (fun _ _=>(ab (ag 7 I (J (U okL I (.tail _ (.head _)) I I I I (ab (ag 9 I (Y ?_)))))))))))))));refine J1 I (fun h=>?_) (fun h=>?_)
 ·refine ae (ag 3 I (J (U okL I (.head _) rfl I I I (ab (ag 2 I (J3 ?_))))))
  refine J6 I I I (fun h=>?_) (fun h=>?_)
  ·refine ab (ag 1 I (Jd I I I (U okL I (.head _) rfl I I I (ab (ag 8 I (O ?_))))))
   refine zab (J2 I I) ?_;(simp_all [zes]<;>((rw [Bool.eq_iff_iff];simp<;>omega)))
  ·refine ab (ag 10 I (O ?_))
   refine zab (J2 I I) ?_;(simp_all [zes]<;>first|omega|(rw [Bool.eq_iff_iff];simp<;>omega))
 ·refine ae (ag 6 I (Y ?_))
  refine J1 I (fun h=>?_) (fun h=>?_)
  ·refine ae (ag 3 I (J (U okL I (.head _) rfl I I I (ab (ag 7 I (O ?_))))))
   refine zab (J2 I I) ?_;(simp_all [zes]<;>((rw [Bool.eq_iff_iff];simp<;>omega)))
  ·refine ae (ag 9 I (O ?_))
   refine zab (J2 I I) ?_;(simp_all [zes]<;>first|omega|(rw [Bool.eq_iff_iff];simp<;>omega))
def zcr (op:Int):Int×Int:=if op=4∨op=5 then (2,60) else if op=6∨op=7∨op=8∨op=9 then (1,1) else if op=15 then (2,2) else (0,0)
def numM (x:Pat) (g:Int):Bool:=
 if x.op=1 then chM x.n else if x.op=3∨x.op=13 then wiM x.n 0 1 else if x.op=6∨x.op=16 then wiM x.n 0 2 else if x.op=7∨x.op=10∨x.op=15 then wiM x.n 1 g
 else if x.op=14 then wiM x.n 0 g else if x.op=9 then wiM x.n 0 3 else if x.op=17 then wiM x.n 0 9 else decide (x.n=0)
theorem zbG (n lo hi:Int):PTr Tryz.prog 114 [i64 n,i64 lo,i64 hi] (.bool (wiM n lo hi)):=by
 refine PTr.of_body (N:=15) Tryz.func114 I I I ?_;refine ae0 (ag 11 I (J3 ?_));refine J6 I I I (fun h=>?_) (fun h=>?_)
 ·refine ab (ag 8 I (O ?_))
  refine zab (J2 I I) ?_;(simp_all [wiM]<;>first|omega|(rw [Bool.eq_iff_iff];simp<;>omega))
 ·refine ab (ag 8 I (O ?_))
  refine zab (J2 I I) ?_;(simp_all [wiM]<;>(omega))
theorem zal {n lo hi:Int} {b:Bool} (h:wiM n lo hi=b):PTr Tryz.prog 114 [i64 n,i64 lo,i64 hi] (.bool b):=h▸zbG n lo hi
theorem hext:zc0 Tryz.prog (extC [240] [295]):=zpR (fun f hf=>by
  obtain rfl:=List.mem_singleton.1 hf;exact ⟨Tryz.f240,by kernel_rfl,by kernel_rfl,by kernel_rfl,by kernel_rfl,by kernel_rfl⟩) (fun f hf=>by
  obtain rfl:=List.mem_singleton.1 hf;exact ⟨Tryz.f295,by kernel_rfl,by kernel_rfl,by kernel_rfl,by kernel_rfl,by kernel_rfl⟩)
def zcV (c:Int):Int:=if wiM c 65 90=true then w64 (c+32) else if wiM c 192 222=true∧c≠215 then w64 (c+32) else if wiM c 913 937=true∧c≠930 then w64 (c+32) else if wiM c 1040 1071=true then w64 (c+32) else if c=7838 then 223 else if c=8490 then 107 else if c=8491 then 229 else c
theorem zr1 {c lo hi:Int} (h:wiM c lo hi=true):lo≤c∧c≤hi:=by
 unfold wiM at h;rw [Bool.and_eq_true,decide_eq_true_eq,decide_eq_true_eq] at h;exact h
theorem zoX (c:Int):PTr Tryz.prog 115 [i64 c] (i64 (zcV c)):=by
 refine PTr.of_body (N:=32) Tryz.func115 I I I ?_;cases h1:wiM c 65 90 with
 |true=>
  rw [show zcV c=w64 (c+32) from if_pos h1]
  refine ae0 (ag 11 I (J (J7 I I I (zal h1) (ab (ag 17 I (O ?_))))));refine zab (J2 I I) ?_;rfl
 |false=>
 have n1:¬wiM c 65 90=true:=by rw [h1];exact Bool.false_ne_true
 cases h2:(wiM c 192 222) with
 |true=>
  refine ae0 (ag 11 I (J (J7 I I I (zal h1) (ab (ag 7 I (J (J7 I I I (zal h2) (ab (ag 7 I (Y ?_))))))))))
  (refine J1 I (fun h=>?_) (fun h=>?_))
  ·have hc:c≠215:=by simpa using h
   rw [show zcV c=w64 (c+32) by rw [zcV,if_neg n1,if_pos ⟨h2,hc⟩]]
   refine ae (ag 13 I (O ?_));refine zab (J2 I I) ?_;rfl
  ·have hc:c=215:=by simpa using h
   subst hc;refine ae (ag 3 rfl (J (J7 rfl rfl rfl (zbG _ _ _) (ab (ag 10 rfl (J (J7 rfl rfl rfl (zbG _ _ _) (ab (ag 38 rfl (O ?_))))))))));refine zab (J2 rfl rfl) ?_;rfl
 |false=>
 have n2:¬(wiM c 192 222=true∧c≠215):=by rw [h2];exact fun h=>Bool.false_ne_true h.1
 cases h3:(wiM c 913 937) with
 |true=>
  refine ae0 (ag 11 I (J (J7 I I I (zal h1) (ab (ag 7 I (J (J7 I I I (zal h2) (ab (ag 11 I (J (J7 I I I (zal h3) (ab (ag 7 I (Y ?_))))))))))))))
  (refine J1 I (fun h=>?_) (fun h=>?_))
  ·have hc:c≠930:=by simpa using h
   rw [show zcV c=w64 (c+32) by rw [zcV,if_neg n1,if_neg n2,if_pos ⟨h3,hc⟩]]
   refine ae (ag 13 I (O ?_));refine zab (J2 I I) ?_;rfl
  ·have hc:c=930:=by simpa using h
   subst hc;refine ae (ag 2 rfl (J (J7 rfl rfl rfl (zbG _ _ _) (ab (ag 38 rfl (O ?_))))));refine zab (J2 rfl rfl) ?_;rfl
 |false=>
 have n3:¬(wiM c 913 937=true∧c≠930):=by rw [h3];exact fun h=>Bool.false_ne_true h.1
 cases h4:(wiM c 1040 1071) with
 |true=>
  rw [show zcV c=w64 (c+32) by rw [zcV,if_neg n1,if_neg n2,if_neg n3,if_pos h4]]
  refine ae0 (ag 11 I (J (J7 I I I (zal h1) (ab (ag 7 I (J (J7 I I I (zal h2) (ab (ag 11 I (J (J7 I I I (zal h3) (ab (ag 10 I (J (J7 I I I (zal h4) (ab (ag 14 I (O ?_))))))))))))))))));refine zab (J2 I I) ?_;rfl
 |false=>
 have n4:¬(wiM c 1040 1071=true):=by rw [h4];exact Bool.false_ne_true
 rw [show zcV c=if c=7838 then 223 else if c=8490 then 107 else if c=8491 then 229 else c by rw [zcV,if_neg n1,if_neg n2,if_neg n3,if_neg n4]]
 refine ae0 (ag 11 I (J (J7 I I I (zal h1) (ab (ag 7 I (J (J7 I I I (zal h2) (ab (ag 11 I (J (J7 I I I (zal h3) (ab (ag 10 I (J (J7 I I I (zal h4) (ab (ag 11 I (Y ?_))))))))))))))))))
 (refine J1 I (fun h=>?_) (fun h=>?_))
 ·have h:c=7838:=by simpa using h
  subst h;refine ae (ag 8 rfl (O ?_));refine zab (J2 rfl rfl) ?_;rfl
 have h:c≠7838:=by simpa using h
 rw [if_neg h];refine ae (ag 7 I (Y ?_))
 (refine J1 I (fun g=>?_) (fun g=>?_))
 ·have g:c=8490:=by simpa using g
  subst g;refine ae (ag 8 rfl (O ?_));refine zab (J2 rfl rfl) ?_;rfl
 have g:c≠8490:=by simpa using g
 rw [if_neg g];refine ae (ag 7 I (Y ?_))
 (refine J1 I (fun q=>?_) (fun q=>?_))
 ·have q:c=8491:=by simpa using q
  subst q;refine ae (ag 8 rfl (O ?_));refine zab (J2 rfl rfl) ?_;rfl
 have q:c≠8491:=by simpa using q
 rw [if_neg q];refine ae (ag 10 I (O ?_));refine zab (J2 I I) ?_;rfl
def ligs:List (List UInt8):=[[102,102],[102,105],[102,108],[102,102,105],[102,102,108],[115,116],[115,116]]
def zeB (c:Int):List UInt8:=if c=181 then [206,188] else if c=223∨c=7838 then [115,115] else if c=329 then [202,188,110] else if c=383 then [115] else if c=962 then [207,131] else
 if wiM c 64256 64262=true then ligs.getD (c - 64256).toNat [] else encL (IntKind.i32.wrap (zcV c))
theorem zcu (c:Int):PTr Tryz.prog 62 [i64 c] (.str (zeB c)):=by
 cases h1:wiM c 64256 64262 with
 |true=>
  have hc:=zr1 h1;have:c=64256∨c=64257∨c=64258∨c=64259∨c=64260∨c=64261∨c=64262:=by omega
  rcases this with rfl|rfl|rfl|rfl|rfl|rfl|rfl<;>exact PTr.runA (fuel:=1000) okL hmix hext zkp 100 rfl rfl (by kernel_rfl)
 |false=>
 have n1:¬wiM c 64256 64262=true:=by rw [h1];exact Bool.false_ne_true
 by_cases ha:c=181∨c=223∨c=7838∨c=329∨c=383∨c=962
 ·rcases ha with rfl|rfl|rfl|rfl|rfl|rfl<;>exact PTr.runA (fuel:=1000) okL hmix hext zkp 100 rfl rfl (by kernel_rfl)
 have a1:(c==181)=false:=by rw [beq_eq_false_iff_ne];omega
 have a2:(c==223)=false:=by rw [beq_eq_false_iff_ne];omega
 have a3:(c==7838)=false:=by rw [beq_eq_false_iff_ne];omega
 have a4:(c==329)=false:=by rw [beq_eq_false_iff_ne];omega
 have a5:(c==383)=false:=by rw [beq_eq_false_iff_ne];omega
 have a6:(c==962)=false:=by rw [beq_eq_false_iff_ne];omega
 refine PTr.of_body (N:=33) Tryz.func62 I I I ?_;rw [show zeB c=encL (IntKind.i32.wrap (zcV c)) by rw [zeB,if_neg (by omega),if_neg (by omega),if_neg (by omega),if_neg (by omega),if_neg (by omega),if_neg n1]]
 refine ae0 (ag 14 I (Y ?_));rw [a1];refine ae (ag 6 I (J3 ?_));rw [a2];refine ab (ag 6 I (Y ?_));rw [a3];refine ae (ag 8 I (Y ?_));rw [a4];refine ae (ag 8 I (Y ?_));rw [a5];refine ae (ag 8 I (Y ?_));rw [a6];refine ae (ag 4 I (J (J7 I I I (zal h1) (ab (ag 10 I (J (J7 I I I (zoX _) (ab (ag 6 I (O ?_))))))))));refine zab (J2 I I) ?_;rfl
def inP (c:Int) (x:Int×Int):Bool:=decide (c≥x.1)&&decide (c≤x.2)
def idxM (p:Int×Int→Bool) (l:List (Int×Int)):Int:=match l.findIdx? p with|some i=>(i:Int)|none=>-1
theorem zh6 (l:List (Int×Int)) (p:Int×Int→Bool) (f:FuncId) (cap:List A) (hl:l.length≤maxLen) (hp:∀x,x∈l→PTr Tryz.prog f ([.agg (zaf x)]++cap) (.bool (p x))):
  PTr Tryz.prog 169 [.ds (l.map zaf),.fn f [] cap] (i64 (idxM p l)):=by
 refine PTr.of_body (N:=19) Tryz.func169 I I I ?_;refine ae0 (ag 14 I (Y ?_));refine Jh (α:=Nat) (fun k=>l.length - k) (fun k=>[(0,.ds (l.map zaf)),(1,.fn f [] cap),(7,i64 (l.map zaf).length),(8,i64 k)]) (fun k=>[])
  (fun k=>k≤l.length∧∀i x,i<k→l[i]?=some x→p x=false) 0 ⟨Nat.zero_le _,fun i x h=>absurd h (Nat.not_lt_zero _)⟩ ?_ (List.Perm.refl _) ?_
 ·simp only [za0]
  refine ⟨rfl,rfl,rfl,rfl,trivial⟩
 rintro k ⟨hk,hm⟩ ih;refine ae0 (ag 6 rfl (Y ?_))
 (refine J1 I (fun h=>?_) (fun h=>?_))
 ·have h:=of_decide_eq_true h
  simp only [List.length_map] at h;obtain ⟨x,hx⟩:∃x,l[k]?=some x:=⟨l[k],by simp [show k<l.length by omega]⟩
  have nx:=nxt (k:=k) (n:=l.length) (by omega) hl;have hc:(l.map zaf)[((k:Nat):Int).toNat]?=some (zaf x):=by simp [hx]
  refine ae (ag 15 I (Jm okL (zai I I I I I (by omega) (hc) rfl) rfl (ag 1 I (J3 ?_))));refine J5 (Jg I I I (hp x (List.mem_of_getElem? hx)).g ?_)
  refine ab (ag 2 I (Y ?_));cases hpx:p x with
  |true=>
   have e:idxM p l=k:=by
    have:l.findIdx? p=some k:=List.findIdx?_eq_some_iff_getElem.2 ⟨by omega,by rw [List.getElem?_eq_getElem (by omega:k<l.length)] at hx;cases hx;exact hpx,fun j hj=>by
     have:=hm j l[j] hj (List.getElem?_eq_getElem (by omega));simp [this]⟩
    unfold idxM;rw [this]
   rw [e];refine ae (ag 10 I (O (ax (ag 2 I (O ?_)))));refine zab (J2 I I) ?_;rfl
  |false=>
   refine ae (ag 8 I (O (zap ?_)))
   (refine AIn.nextN 0 (ih (k+1) (⟨by omega,fun i z hi hz=>by rcases Nat.lt_succ_iff_lt_or_eq.1 hi with hi|rfl;exact hm i z hi hz;rw [hx] at hz;cases hz;exact hpx⟩) (by omega)) ?_ rfl;repeat (first|exact trivial|refine ⟨rfl,?_⟩|refine ⟨congrArg some nx,?_⟩))
 ·have h:=of_decide_eq_false h
  simp only [List.length_map] at h;have hkk:k=l.length:=by omega
  have e:idxM p l=-1:=by
   have:l.findIdx? p=none:=List.findIdx?_eq_none_iff.2 fun x hx=>by
    obtain ⟨i,hi⟩:=List.getElem?_of_mem hx;have hil:i<l.length:=by
     by_cases hil:i<l.length
     ·exact hil
     ·rw [List.getElem?_eq_none (by omega)] at hi;cases hi
    rw [hm i x (by omega) hi]
   unfold idxM;rw [this]
  rw [e];refine ae (ag 2 I (O (ae (ag 6 I (O ?_)))));refine zab (J2 I I) ?_;rfl
theorem zb3 (l:List (Int×Int)) (p:Int×Int→Bool) (f:FuncId) (cap:List A) (hl:l.length≤maxLen) (hp:∀x,x∈l→PTr Tryz.prog f ([.agg (zaf x)]++cap) (.bool (p x))):
  PTr Tryz.prog 121 [.ds (l.map zaf),.fn f [] cap] (.bool (l.any p)):=by
 refine PTr.of_body (N:=9) Tryz.func121 I I I ?_;refine ae0 (ag 9 I (J (J7 I I I (zh6 l p f cap hl hp) (ab (ag 5 I (O ?_))))));refine zab (J2 I I) ?_;have:l.any p=decide (idxM p l≥0):=by
  unfold idxM;cases h:l.findIdx? p with
  |none=>
   have:=List.findIdx?_eq_none_iff.1 h;simp only [];rw [show l.any p=false from by rw [List.any_eq_false];intro x hx;rw [this x hx];exact Bool.false_ne_true]
   rfl
  |some i=>
   obtain ⟨h1,h2,_⟩:=List.findIdx?_eq_some_iff_getElem.1 h;simp only [];rw [show l.any p=true from List.any_eq_true.2 ⟨l[i],List.getElem_mem _,h2⟩,decide_eq_true (by omega)]
 rw [this]
theorem znL (c:Int) (x:Int×Int):PTr Tryz.prog 122 ([.agg (zaf x)]++[.dp [i64 c]]) (.bool (inP c x)):=by
 refine PTr.of_body (N:=14) Tryz.func122 I I I ?_;unfold inP;refine ae0 (ag 2 I (J (J9 2 I I (zaa I) rfl (ab (ag 10 I (J3 ?_))))));by_cases h:c≥x.1
 ·rw [decide_eq_true h]
  refine ab (ag 9 I (O ?_));refine zab (J2 I I) ?_;rfl
 ·rw [decide_eq_false h]
  refine ab (ag 9 I (O ?_));refine zab (J2 I I) ?_;rfl
theorem zpE (l:List (Int×Int)) (hl:l.length≤maxLen) (c:Int):PTr Tryz.prog 64 [.ds (l.map zaf),i64 c] (.bool (l.any (inP c))):=by
 refine PTr.of_body (N:=8) Tryz.func64 I I I ?_;refine ae0 (ag 2 I (J (J9 3 I I (zaa I) rfl (ab (ag 7 I (J3 ?_))))));refine J5 (Jg I I I (zb3 l (inP c) _ _ hl fun x _=>znL c x).g ?_)
 refine ab (ag 4 I (O ?_));refine zab (J2 I I) ?_;rfl
theorem ziM (l:List (Int×Int)) (hst:l.length≤1000000):TrG [] Tryz.prog 118 [.ds (l.map zaf)] [] fun v H'=>∃g,(g=none→l=[])∧v=outV 2 g (l.map zaf).length∧H'=outH 166 2 g (l.map zaf):=by
 refine Ja (N:=8) Tryz.func118 I I I ?_;refine ae0 (ag 9 I (J3 ?_));refine J5 (AOp.eqNilDs okL I I I I fun b hb=>?_)
 refine ab (ag 2 I (Y ?_))
 (refine J1 I (fun h=>?_) (fun h=>?_))
 ·have h0:l=[]:=List.map_eq_nil_iff.1 (hb h)
  refine ae (ag 7 I (O ?_));refine zab (J2 I I) ?_;exact ⟨none,fun _=>h0,by rw [h0];rfl,by rw [h0];rfl⟩
 ·refine ae (ag 4 I (J (Jl okL I I I I I I I I I I I (fun _ _=>(ab (ag 1 I (J3 ?_)))))))
  rename_i rb _;refine J5 (AOp.appendG (g:=some rb) (elems:=[]) (news:=l.map zaf) (pre:=[]) okL rfl (fun h=>by cases h) rfl rfl (.ds _) rfl rfl rfl rfl (fun c hc=>by obtain ⟨y,_,rfl⟩:=List.mem_map.1 hc;rfl) (fun c hc=>by obtain ⟨y,_,rfl⟩:=List.mem_map.1 hc;rfl) (by simp only [List.length_map,List.length_nil,maxLen];omega) (by simp only [List.length_map,List.length_nil];omega) rfl fun g' hg'=>?_)
  rw [List.nil_append] at hg' ⊢;refine ab (ag 4 I (O ?_));refine zab (J2 I I) ?_;exact ⟨g',fun e=>List.map_eq_nil_iff.1 (hg' e),rfl,rfl⟩
def zcW (k:Nat):Int:=if k<8192 then k else if k=8192 then 8490 else if k=8193 then 8491 else 64256+((k:Int) - 8194)
theorem zf4 (f:FuncId) (cap:List A) (RA:Nat→Heap→Prop) (H:Heap) (h0:RA 0 H)
  (hs:∀k H,k<8201→RA k H→TrG [] Tryz.prog f ([i64 (zcW k)]++cap) H fun v H'=>RA (k+1) H'):TrG [] Tryz.prog 116 [.fn f [] cap] H fun v H'=>RA 8201 H':=by
 refine Ja (N:=22) Tryz.func116 I I I ?_;refine ae0 (ag 7 I (Y ?_));refine Jh (α:=Nat×Heap) (fun k=>8192 - k.1) (fun k=>[(0,.fn f [] cap),(4,i64 k.1)]) (fun k=>k.2)
  (fun k=>k.1≤8192∧RA k.1 k.2) (0,H) ⟨Nat.zero_le _,h0⟩ ?_ (List.Perm.refl _) ?_
 ·simp only [za0]
  refine ⟨rfl,rfl,trivial⟩
 rintro ⟨k,Hk⟩ ⟨hk,hm⟩ ih;simp only at hk hm;refine ae0 (ag 6 rfl (Y ?_))
 (refine J1 I (fun h=>?_) (fun h=>?_))
 ·have h:(k:Int)<8192:=of_decide_eq_true h
  have nx:=nxt (k:=k) (n:=8192) (by omega) (by decide);have hk1:zcW k=(k:Int):=if_pos (by omega);have st:=hs k Hk (by omega) hm;rw [hk1] at st;refine ae (ag 13 I (J3 ?_));refine J5 (Je I I I st fun v H' hr=>?_)
  refine ab (ag 7 I (O (zap ?_)))
  (refine AIn.nextN 0 (ih ((k+1,H')) (⟨by simp only;omega,hr⟩) (by omega)) ?_ rfl;repeat (first|exact trivial|refine ⟨rfl,?_⟩|refine ⟨congrArg some nx,?_⟩))
 have h:¬(k:Int)<8192:=of_decide_eq_false h;have hk8:k=8192:=by omega
 subst hk8;refine ae (ag 2 rfl (O (ae (ag 3 rfl (J3 ?_)))));refine J5 (Je rfl rfl rfl (hs 8192 Hk (by omega) hm) fun v H' hr=>?_)
 refine ab (ag 5 I (J3 ?_));refine J5 (Je I I I (hs 8193 H' (by omega) hr) fun v2 H2 hr2=>?_)
 refine ab (ag 8 I (Y ?_));refine Jh (α:=Nat×Heap) (fun k=>7 - k.1) (fun k=>[(0,.fn f [] cap),(3,i64 (64256+(k.1:Int)))]) (fun k=>k.2)
  (fun k=>k.1≤7∧RA (8194+k.1) k.2) (0,H2) ⟨Nat.zero_le _,hr2⟩ ?_ (List.Perm.refl _) ?_
 ·simp only [za0]
  refine ⟨rfl,rfl,trivial⟩
 rintro ⟨j,Hj⟩ ⟨hj,hmj⟩ ih;simp only at hj hmj;refine ae0 (ag 7 rfl (Y ?_))
 (refine J1 I (fun g=>?_) (fun g=>?_))
 ·have g:64256+(j:Int)≤64262:=of_decide_eq_true g
  have hj1:zcW (8194+j)=64256+(j:Int):=by
   unfold zcW;rw [if_neg (by omega),if_neg (by omega),if_neg (by omega)];omega
  have st:=hs (8194+j) Hj (by omega) hmj;rw [hj1] at st;have hwj:A.int .i64 (IntKind.i64.wrap (64256+(j:Int)+1))=.int .i64 (64256+((j+1:Nat):Int)):=by rw [zaS ⟨by omega,by omega⟩];congr 1
  refine ae (ag 7 I (J3 ?_));refine J5 (Je I I I st fun v3 H3 hr3=>?_)
  refine ab (ag 8 I (O (zap ?_)));rw [hwj]
  (refine AIn.nextN 0 (ih ((j+1,H3)) (⟨by simp only;omega,hr3⟩) (by omega)) ?_ rfl;repeat (first|exact trivial|refine ⟨rfl,?_⟩))
 ·have g:¬64256+(j:Int)≤64262:=of_decide_eq_false g
  have hj7:j=7:=by omega
  subst hj7;refine ae (ag 2 rfl (O (ax (ag 1 rfl (O ?_)))));refine zab (zac.none rfl) ?_;exact hmj
def mkE (k:List UInt8):A×A:=(.str k,.bool true)
def idxK (k:List UInt8):List (List UInt8)→Option Nat
 |[]=>none
 |x::l=>if (k==x)=true then some 0 else (idxK k l).map (·+1)
theorem zfX (k:List UInt8):∀ks,zbd (.str k) (ks.map mkE)=some ((idxK k ks).map fun i=>(i,.bool true))
 |[]=>rfl
 |x::l=>by
  have e:zbd (.str k) ((x::l).map mkE)=match some (k==x) with
   |some true=>some (some (0,.bool true))
   |some false=>match zbd (.str k) (l.map mkE) with
    |some (some (i,u))=>some (some (i+1,u))
    |some none=>some none
    |none=>none
   |none=>none:=rfl
  have e2:idxK k (x::l)=if (k==x)=true then some 0 else (idxK k l).map (·+1):=rfl
  rw [e,zfX k l,e2];cases h:(k==x) with
  |true=>rfl
  |false=>
   rw [if_neg Bool.false_ne_true];cases idxK k l<;>rfl
theorem zjY (k:List UInt8):∀(ks:List (List UInt8)) (i:Nat),idxK k ks=some i→ks.set i k=ks
 |[],i,h=>by cases h
 |x::l,i,h=>by
  unfold idxK at h;cases hk:(k==x) with
  |true=>
   rw [hk,if_pos I] at h;have:k=x:=by simpa using hk
   cases h;rw [this];rfl
  |false=>
   rw [hk,if_neg Bool.false_ne_true,Option.map_eq_some_iff] at h;obtain ⟨j,hj,rfl⟩:=h;rw [List.set_cons_succ,zjY k l j hj]
def addK (ks:List (List UInt8)) (k:List UInt8):List (List UInt8):=if (idxK k ks).isSome=true then ks else ks++[k]
theorem zo0 (ks:List (List UInt8)) (k:List UInt8):putM (ks.map mkE) (.str k) (.bool true)=some ((addK ks k).map mkE):=by
 unfold putM addK;rw [zfX];cases h:idxK k ks with
 |none=>simp [mkE]
 |some i=>
  simp only [Option.map_some,Option.isSome_some,if_true];rw [show ((A.str k,A.bool true):A×A)=mkE k from rfl,←List.map_set,zjY k ks i h]
def zqO (l:List (Int×Int)) (ks:List (List UInt8)) (c:Int):List (List UInt8):=if l.any (inP c)=true then addK ks (zeB c) else ks
abbrev zh7 (rm:Nat):Blk:=.row 162 1 [[.map rm]]
def zq2 (o:Oper):Nat:=match o.op with|.load 162 _=>1|.call .. =>1|.lookup .. =>1|.mapUpdate .. =>2|_=>0
theorem zjn (l:List (Int×Int)) (hl:l.length≤maxLen) (rm r3:Nat) (ks:List (List UInt8)) (c:Int):
  TrG [] Tryz.prog 117 ([i64 c]++[.dp [.ds (l.map zaf)],.ptr r3 1 0 0]) [(r3,zh7 rm),(rm,.map (ks.map mkE))] fun v H'=>H'=[(r3,zh7 rm),(rm,.map ((zqO l ks c).map mkE))]:=by
 refine Ja (N:=10) Tryz.func117 I I I ?_;unfold zqO;refine ae0 (ag 4 I (J (J7 I I I (zpE l hl _) (ab (ag 2 I (Y ?_))))));cases h:l.any (inP c) with
 |false=>
  refine ae (ag 2 I (O ?_));refine zda (zac.none I) ?_;rfl
 |true=>
  refine ae (ag 1 I (Y ?_));refine Flex.AWp.draw zq2 (fun _=>default) okL hmix (by kernel_rfl) ?_
  (repeat (first|refine Flex.Plan.pure I I I ?_|refine Flex.Plan.quiet I I (.inl I) (U okL I (.head _) rfl I I I (J8 (Flex.Qn_n ⟨rfl,rfl⟩))) ?_))
  refine Flex.Plan.quiet rfl rfl (.inl rfl) (Jg rfl rfl rfl (zcu _).g (J8 (Flex.Qn_n ⟨rfl,rfl⟩))) ?_;refine Flex.Plan.eff (R:=fun v H'=>v=.tup []∧H'=[(r3,zh7 rm),(rm,.map ((addK ks (zeB c)).map mkE))]) rfl rfl rfl ⟨_,_,rfl,rfl⟩ (AOp.mapUpdate okL rfl rfl rfl rfl rfl rfl rfl (zo0 _ _) (.there .here) rfl (J8 (Flex.Qn_n ⟨rfl,rfl⟩))) ?_;rintro v H' ⟨rfl,rfl⟩;refine Flex.Plan.nil ?_;refine ax (O ?_)
  refine zda (zac.none I) ?_;rfl
def zjM (g:Option Nat) (n:Nat):List A:=[outV 2 g n]
def zjk (ks:List (List UInt8)) (out:List (Int×Int)) (c:Int):List (Int×Int):=if (idxK (zeB c) ks).isSome=true then out++[(c,c)] else out
theorem zfE (rm r3:Nat) (ks:List (List UInt8)) (r4:Nat) (g:Option Nat) (out:List (Int×Int)) (hg:g=none→out=[]) (ho:out.length≤1000000) (c:Int):
  TrG [] Tryz.prog 119 ([i64 c]++[.ptr r3 1 0 0,.ptr r4 1 0 0]) ((r4,.row 22 1 [zjM g out.length])::(r3,zh7 rm)::(rm,.map (ks.map mkE))::outH 166 2 g (out.map zaf))
   fun v H'=>∃g',(g'=none→zjk ks out c=[])∧H'=(r4,.row 22 1 [zjM g' (zjk ks out c).length])::(r3,zh7 rm)::(rm,.map (ks.map mkE))::outH 166 2 g' ((zjk ks out c).map zaf):=by
 refine Ja (N:=14) Tryz.func119 I I I ?_;unfold zjk;refine ae0 (ag 1 I (Y ?_));refine Flex.AWp.draw zq2 (fun _=>default) okL hmix (by kernel_rfl) ?_
 (repeat (first|refine Flex.Plan.pure I I I ?_|refine Flex.Plan.quiet I I (.inl I) (U okL I (.tail _ (.head _)) I I I I (J8 (Flex.Qn_n ⟨rfl,rfl⟩))) ?_))
 refine Flex.Plan.quiet I I (.inl I) (Jg I I I (zcu _).g (J8 (Flex.Qn_n ⟨rfl,rfl⟩))) ?_;refine Flex.Plan.quiet I I (.inl I) (AOp.lookup okL I (.tail _ (.tail _ (.head _))) I I I I I I (zfX _ _) rfl (J8 (Flex.Qn_n ⟨rfl,rfl⟩))) ?_;refine Flex.Plan.nil ?_;cases h:idxK (zeB c) ks with
 |none=>
  refine ae (ag 2 I (O ?_));refine zda (zac.none I) ?_;exact ⟨g,hg,rfl⟩
 |some i=>
  refine ae (ag 2 I (J (U okL I (.head _) rfl I I I (ab (ag 3 I (J (Jl okL I I I I I I I I I I I (fun _ _=>(ab (J3 ?_))))))))));refine J5 (AOp.pushM zaf g out (c,c) [_,_,_] okL hg I I I I I I I I I (by omega) rfl I fun r'=>?_)
  refine ab (J (J4 okL I I I (zaa I) rfl I I .here I I I (ab (ag 1 I (O ?_)))));refine zda (zac.none I) ?_;exact ⟨some r',(fun h=>nomatch h),rfl⟩
end Go.Proofs.YtpopmiodjibljaaGreatDoor
namespace Go.Abs
open Go Go.Sort
def zcb (x:Int×Int):List Value:=[.int .i64 x.1,.int .i64 x.2]
theorem zkB {fr:Nat→Prop} {H:Heap} {w:World} {r e:Nat} {l:List (Int×Int)} (h:zdL w (own fr H) r (.row e 2 (l.map zaf))):
  ∃c:Array Value,w.heap[r]?=some (.cells c e (0,0))∧l.length*2≤c.size∧∀i (hi:i<l.length),c[i*2]?=some (.int .i64 l[i].1)∧c[i*2+1]?=some (.int .i64 l[i].2)∧inR .i64 l[i].1∧inR .i64 l[i].2:=by
 obtain ⟨c,h1,h2,h3,h4⟩:=h;refine ⟨c,h1,by simpa using h2,fun i hi=>?_⟩
 obtain ⟨v,a1,a2,_⟩:=h4 i (by simpa using hi) 0 (by simp [zaf]);obtain ⟨u,b1,b2,_⟩:=h4 i (by simpa using hi) 1 (by simp [zaf]);simp only [List.getElem_map,zaf,List.getElem_cons_zero,List.getElem_cons_succ] at a2 b2;cases a2 with
 |int _ _ ha=>
 cases b2 with
 |int _ _ hb=>
 exact ⟨a1,b1,ha,hb⟩
theorem zmf (d:Array (Int×Int)) (i:Nat) (hi:i<d.size):(flatK zcb 2 d)[i*2]! =.int .i64 d[i].1∧(flatK zcb 2 d)[i*2+1]! =.int .i64 d[i].2:=by
 have e1:i*2 / 2=i:=by omega
 have e2:i*2%2=0:=by omega
 have e3:(i*2+1) / 2=i:=by omega
 have e4:(i*2+1)%2=1:=by omega
 constructor
 ·rw [get_flatK _ _ _ _ (by omega),e1,e2,getElem!_pos d i hi];rfl
 ·rw [get_flatK _ _ _ _ (by omega),e3,e4,getElem!_pos d i hi];rfl
theorem zfq {fr:Nat→Prop} {H:Heap} {w:World} {r e:Nat} {l:List (Int×Int)} (h:zdL w (own fr H) r (.row e 2 (l.map zaf))):HoldsK zcb 2 w r 0 l.toArray:=by
 obtain ⟨c,h1,h2,h3⟩:=zkB h;intro j hj;rw [size_flatK] at hj;simp only [List.size_toArray] at hj;have hc:w.cell? ⟨r,0+j,none⟩=c[j]?:=by
  rw [Nat.zero_add];simp only [World.cell?,h1];rfl
 have hf:w.frozen? ⟨r,0+j,none⟩=false:=by
  simp only [World.frozen?,h1];simp
 refine ⟨?_,hf⟩;rw [hc];have hi:j / 2<l.length:=by omega
 have hk:=h3 (j / 2) hi;have hfl:=zmf l.toArray (j / 2) (by simpa using hi);simp only [List.getElem_toArray] at hfl;rcases Nat.mod_two_eq_zero_or_one j with h0|h0
 ·have e:j / 2*2=j:=by omega
  rw [e] at hk hfl;rw [hfl.1];exact hk.1
 ·have e:j / 2*2+1=j:=by omega
  rw [e] at hk hfl;rw [hfl.2];exact hk.2.1
theorem ziN {fr:Nat→Prop} {w:World} {r e n:Nat} {l l':List (Int×Int)} {os:Array Obj} (s:Sim fr [(r,.row e 2 (l.map zaf))] w) (hp:l'.Perm l):
  Sim fr [(r,.row e 2 (l'.map zaf))] (grow (putRowK zcb 2 (Sort.ahead w n) r 0 l'.toArray) os)∧Ext [(r,.row e 2 (l.map zaf))] w [(r,.row e 2 (l'.map zaf))] (grow (putRowK zcb 2 (Sort.ahead w n) r 0 l'.toArray) os):=by
 have hlen:=hp.length_eq;obtain ⟨c,h1,h2,h3⟩:=zkB (s.ok _ List.mem_cons_self);have hlt:r<w.heap.size:=(Array.getElem?_eq_some_iff.1 h1).1;have hheap:∀k,k<w.heap.size→(grow (putRowK zcb 2 (Sort.ahead w n) r 0 l'.toArray) os).heap[k]?=if r=k then some (.cells (putCells id 0 (flatK zcb 2 l'.toArray) c) e (0,0)) else w.heap[k]?:=fun k hk=>by
  simp only [grow,putRowK,putRow,mapBlock,Sort.ahead];rw [Array.getElem?_append_left (by simpa using hk),Array.getElem?_modify];split
  ·rename_i hrk
   subst hrk;rw [h1];rfl
  ·rfl
 have hsize:w.heap.size≤(grow (putRowK zcb 2 (Sort.ahead w n) r 0 l'.toArray) os).heap.size:=by
  simp [grow,putRowK,putRow,mapBlock,Sort.ahead]
 have hcs:(putCells id 0 (flatK zcb 2 l'.toArray) c).size=c.size:=by simp [putCells]
 have hcell:∀t,t<l'.length*2→(putCells id 0 (flatK zcb 2 l'.toArray) c)[t]?=some ((flatK zcb 2 l'.toArray)[t]!):=fun t ht=>by
  simp only [putCells,Array.getElem?_mapIdx];rw [Array.getElem?_eq_getElem (show t<c.size by omega)]
  simp only [Option.map_some,Nat.zero_add,Nat.sub_zero,id];rw [if_pos ⟨Nat.zero_le _,by rw [size_flatK];simpa using ht⟩]
 have hrange:∀x∈l',inR .i64 x.1∧inR .i64 x.2:=fun x hx=>by
  obtain ⟨i,hi,rfl⟩:=List.mem_iff_getElem.1 (hp.mem_iff.1 hx);exact (h3 i hi).2.2
 refine ⟨⟨s.nodup,s.apart,fun k hk=>Nat.lt_of_lt_of_le (s.old k hk) hsize,fun p hp'=>?_⟩,⟨rfl,rfl,rfl,hsize,fun k hk hn=>?_,fun k hk=>.inl hk,fun k hk c' T' f h=>?_⟩⟩
 ·rw [List.mem_singleton.1 hp']
  refine ⟨putCells id 0 (flatK zcb 2 l'.toArray) c,?_,by rw [hcs];simp;omega,fun i hi=>by simp [zaf],fun i hi j hj=>?_⟩
  ·rw [hheap r hlt,if_pos I]
  ·have hi':i<l'.length:=by simpa using hi
   have hfl:=zmf l'.toArray i (by simpa using hi');simp only [List.getElem_toArray] at hfl;have hr:=hrange l'[i] (List.getElem_mem _);simp only [List.getElem_map,zaf,List.length_cons,List.length_nil] at hj ⊢
   match j,hj with
   |0,_=>exact ⟨_,by rw [Nat.add_zero,hcell _ (by omega),hfl.1],.int _ _ hr.1,rfl⟩
   |1,_=>exact ⟨_,by rw [hcell _ (by omega),hfl.2],.int _ _ hr.2,rfl⟩
 ·rw [hheap k hk,if_neg (fun e=>hn (by subst e;simp [keys]))]
 ·rw [hheap k hk] at h
  split at h
  ·rename_i hrk
   subst hrk;cases h;exact ⟨c,_,h1,hcs.symm⟩
  ·exact ⟨c',f,h,rfl⟩
end Go.Abs
namespace Go.Proofs.YtpopmiodjibljaaGreatDoor
open Go Go.Abs Go.Lib Go.Sort Go.Shelf Go.RowKit
shelf_lay LaysGg.n6 Ggs 6 at Tryz as Tryz.sortSl
noncomputable def svT:TypeInfo:=(Tryz.prog.info? 22).get (by kernel_rfl)
noncomputable def svE:TypeInfo:=(Tryz.prog.info? 166).get (by kernel_rfl)
theorem svK (n:Nat) (h2:2≤n):Lib.swapperK n svE 25=9:=by
 have a:svE.hasPointers=false:=by kernel_rfl
 have b:svE.bytes=16:=by kernel_rfl
 have c:(n==0)=false:=by simp;omega
 have d:(n==1)=false:=by simp;omega
 simp [Lib.swapperK,a,b,c,d]
def zhi (x y:Int×Int):Bool:=decide (x.1<y.1)
theorem zm9:SWO zhi where
 irrefl x:=by simp [zhi]
 trans x y z h1 h2:=by simp [zhi] at*;omega
 ntrans x y z h1 h2:=by simp [zhi] at*;omega
set_option maxHeartbeats 2000000 in
theorem lessSp (blk off c Bs size:Nat) (W:World) (G:Nat→Int) (hs:W.cell? ⟨Bs,0,none⟩=some (.slice (some ⟨blk,off,none⟩) size c))
  (hc:∀t,t<size→W.cell? ⟨blk,off+t*2,none⟩=some (.int .i64 (G t))) (i j:Nat) (hi:i<size) (hj:j<size) (_hsz:size<4611686018427387904):
  Calls Tryz.prog 168 #[.int .i64 i,.int .i64 j,.pointer (some ⟨Bs,0,none⟩)] W fun e w'=>e=.returned (.bool (decide (G i<G j)))∧∃q,w'=W.drewN q:=by
 have ci:=hc i hi;have cj:=hc j hj
 go_enter Tryz.func168,Tryz.ntmps168
 go_wp2
 go_quiet (fail)
 go_wp2
 go_ret
 exact ⟨rfl,nq,rfl⟩
theorem zmb:zcF Tryz.prog 167:=⟨Tryz.f167,by kernel_rfl,by kernel_rfl,by kernel_rfl⟩
theorem zpO (blk off c Bs c1:Nat) (d:Array (Int×Int)) (h2:2≤d.size) (hsz:d.size<4611686018427387904) (w:World) (hH:HoldsK zcb 2 w blk off d) (hblk:blk<w.heap.size)
  (hBs:w.cell? ⟨Bs,0,none⟩=some (.slice (some ⟨blk,off,none⟩) d.size c1)) (hB1:Bs<w.heap.size) (hB2:Bs≠blk):
  Calls Tryz.prog 167 #[.iface 22 (.slice (some ⟨blk,off,none⟩) d.size c),.func (.func 168) #[] #[.pointer (some ⟨Bs,0,none⟩)]] w fun e w'=>
   e=.returned (.tuple #[])∧∃d' n os,PermIn 0 d.size d d'∧SortedIn zhi 0 d.size d'∧w'=grow (putRowK zcb 2 (Sort.ahead w n) blk off d') os:=by
 have hless:LessReadsK Tryz.prog 168 #[.pointer (some ⟨Bs,0,none⟩)] zcb 2 zhi blk off d.size w:=by
  intro m os dk hs i j hi hj;have e:sortWorldK zcb 2 w blk off m dk os=putRowK zcb 2 (grow (Sort.ahead w m) os) blk off dk:=by
   unfold sortWorldK;rw [putRowK_grow _ _ (Sort.ahead w m) _ blk off _ hblk]
  have hHg:HoldsK zcb 2 (grow (Sort.ahead w m) os) blk off d:=holdsK_grow _ _ _ _ blk off d hblk (holdsK_ahead _ _ _ _ _ _ _ hH);refine lessSp blk off c1 Bs d.size _ (fun t=>dk[t]!.1) ?_ (fun t ht=>?_) i j hi hj (by omega)
  ·rw [e,cell?_putRowK_other _ _ _ blk off dk _ (by exact hB2),cell?_grow _ _ _ (by exact hB1)];exact hBs
  ·rw [e];exact ((holdsK_putRowK _ _ _ blk off d dk hHg hs).cell (i:=t) (c:=0) (by omega) (by omega)).1
 exact Any.sort_Slice_cells_sorted Tryz.sortSl 22 166 svT svE (by kernel_rfl) (by kernel_rfl) (by kernel_rfl) (by kernel_rfl) 25 (fun _=>by kernel_rfl) zcb 2 (fun _=>rfl) (by kernel_rfl) (fun _=>by kernel_rfl)
  (fun x v hv=>by simp [zcb] at hv;rcases hv with rfl|rfl<;>rfl) zhi zm9 168 _
  (enters_of Tryz.func168 (by kernel_rfl) rfl) blk off c d h2 hsz 269 (by rw [svK _ h2];kernel_rfl) false
  (fun args W=>run_callFunc_extern Tryz.func269 (by kernel_rfl) (by kernel_rfl) (by kernel_rfl) (e:=Extern.ReflectliteSwapper.swap false) (by kernel_rfl) args W) w hless hH hblk
theorem zkh (p:Option Addr) (n c:Nat) (h1:n≤1) (w:World) (lb:Array Value):
  Calls Tryz.prog 167 #[.iface 22 (.slice p n c),.func (.func 168) #[] lb] w fun e w'=>e=.returned (.tuple #[])∧∃os,w'=grow w os:=by
 have hK:Lib.swapperK n svE 25=n+1:=by
  rcases Nat.eq_zero_or_pos n with h|h
  ·subst h;simp [Lib.swapperK]
  ·obtain rfl:n=1:=by omega
   simp [Lib.swapperK]
 exact Any.sort_Slice_tiny Tryz.sortSl 22 166 svT svE (by kernel_rfl) (by kernel_rfl) (by kernel_rfl) (by kernel_rfl) 25 (fun _=>by kernel_rfl) p n c h1 (261+n) (by
  rw [hK];rcases Nat.eq_zero_or_pos n with h|h
  ·subst h;kernel_rfl
  ·obtain rfl:n=1:=by omega
   kernel_rfl) _ _ _ w
theorem zrH {l:List (Int×Int)} {d':Array (Int×Int)} (p1:l.length=d'.size) (hs:SortedIn zhi 0 l.length d'):asc d'.toList:=by
 refine List.pairwise_iff_getElem.2 fun i j hi hj hij=>?_;have hi':i<d'.size:=by simpa using hi
 have hj':j<d'.size:=by simpa using hj
 have:=hs i j (Nat.zero_le _) hij (by omega);rw [zhi,getElem!_pos d' i hi',getElem!_pos d' j hj'] at this;have:=of_decide_eq_false this;simp only [Array.getElem_toList];omega
theorem zlI (r r1:Nat) (l:List (Int×Int)) (hl:l.length≤1000000):
  Tr Tryz.prog 167 [.iface 22 (.os r 2 0 l.length),.fn 168 [] [.ptr r1 1 0 0]] ([(r,.row 166 2 (l.map zaf))]++[(r1,.row 22 1 [[.os r 2 0 l.length]])])
   fun v H'=>v=.tup []∧∃l':List (Int×Int),l'.Perm l∧asc l'∧H'=[(r,.row 166 2 (l'.map zaf))]++[(r1,.row 22 1 [[.os r 2 0 l.length]])]:=by
 refine ⟨zmb,fun fr w vs s hr=>?_⟩;have s1:=s.split;have hrow:zdL w (own (fun k=>fr k∨k∈keys [(r1,Blk.row 22 1 [[A.os r 2 0 l.length]])]) [(r,.row 166 2 (l.map zaf))]) r (.row 166 2 (l.map zaf)):=s1.ok _ List.mem_cons_self;have hblk:r<w.heap.size:=hrow.lt;have hcell:=s.ok (r1,.row 22 1 [[.os r 2 0 l.length]]) (by simp);obtain ⟨cc,e1,e2,e3,e4⟩:=hcell;obtain ⟨v1,f1,f2,_⟩:=e4 0 (by simp) 0 (by simp);simp only [List.getElem_cons_zero] at f2;have hne:r1≠r:=by
  have:=s.nodup;simp [keys] at this;exact fun e=>this e.symm
 have hB1:r1<w.heap.size:=(Array.getElem?_eq_some_iff.1 e1).1;cases hr with
 |cons h1 ht=>
 cases ht with
 |cons h2 ht=>
 cases ht;obtain ⟨fs,cs,rfl,q1,q2⟩:=h2.fn_inv;have g1:fs=#[]:=by
  generalize hq:fs.toList=q at q1
  cases q1;have:=congrArg List.toArray hq;simpa using this
 have g2:cs=#[.pointer (some ⟨r1,0,none⟩)]:=by
  generalize hq:cs.toList=q at q2
  cases q2 with
  |cons k1 k2=>
  cases k2;cases k1;have:=congrArg List.toArray hq;simpa using this
 subst g1 g2;cases h1 with
 |iface _ _ _ h1=>
 cases h1 with
 |os _ _ _ _ cap hrr hcap hmax hroom=>
 cases f2 with
 |os _ _ _ _ cap1 hrr1 hcap1 hmax1 hroom1=>
 have hBs:w.cell? ⟨r1,0,none⟩=some (.slice (some ⟨r,0,none⟩) l.length cap1):=by
  have:w.cell? ⟨r1,0,none⟩=cc[0]?:=by
   simp only [World.cell?,e1];rfl
  rw [this];simpa using f1
 simp only [Nat.zero_mul];have fin:∀(w':World),(∃l':List (Int×Int),l'.Perm l∧asc l'∧∃n os,w'=grow (putRowK zcb 2 (Sort.ahead w n) r 0 l'.toArray) os)→∃r' H' v,(Ending.returned (Value.tuple #[]))=.returned v∧(r'=.tup []∧∃l':List (Int×Int),l'.Perm l∧asc l'∧H'=[(r,Blk.row 166 2 (l'.map zaf))]++[(r1,.row 22 1 [[.os r 2 0 l.length]])])∧Sim fr H' w'∧Rep w' (own fr H') r' v∧Ext ([(r,Blk.row 166 2 (l.map zaf))]++[(r1,.row 22 1 [[.os r 2 0 l.length]])]) w H' w':=by
  rintro w' ⟨l',hp,ha,n,os,rfl⟩;obtain ⟨s',x'⟩:=ziN (n:=n) (os:=os) s1 hp;exact ⟨.tup [],_,_,rfl,⟨rfl,l',hp,ha,rfl⟩,Sim.join s s' x',Rep.tup_of .nil,x'.frame⟩
 by_cases hn:2≤l.length
 ·have hc:=zpO r 0 cap r1 cap1 l.toArray (by simpa using hn) (by simp;omega) w (zfq hrow) hblk (by simpa using hBs) hB1 hne
  simp only [List.size_toArray] at hc;refine hc.mono ?_;rintro e w' ⟨rfl,d',n,os,hp,hs,rfl⟩;obtain ⟨p1,_,p3⟩:=hp;simp only [List.size_toArray] at p1;have e1:(d'.extract 0 l.length).toList=d'.toList:=by simp [←p1]
  have e2:(l.toArray.extract 0 l.length).toList=l:=by simp
  rw [e1,e2] at p3;exact fin _ ⟨d'.toList,p3,zrH p1.symm hs,n,os,by simp⟩
 ·have hc:=zkh (some ⟨r,0,none⟩) l.length cap (by omega) w #[.pointer (some ⟨r1,0,none⟩)]
  refine hc.mono ?_;rintro e w' ⟨rfl,os,rfl⟩;refine fin _ ⟨l,List.Perm.refl _,?_,0,os,?_⟩
  ·match l,hn with
   |[],_=>exact List.Pairwise.nil
   |[x],_=>exact List.pairwise_singleton _ _
   |_::_::_,hn=>exact absurd (by simp) hn
  ·have:putRowK zcb 2 (Sort.ahead w 0) r 0 l.toArray=w:=by
    show putRow id w r 0 (flatK zcb 2 l.toArray)=w
    exact putRow_self _ _ r 0 _ (zfq hrow)
   rw [this]
theorem zrU {fr:Nat→Prop} {w:World} (s:Sim fr [] w) (os:Array Obj):Sim fr [] (grow w os)∧Ext [] w [] (grow w os):=by
 have hs:w.heap.size≤(grow w os).heap.size:=by simp [grow]
 have hh:∀k,k<w.heap.size→(grow w os).heap[k]?=w.heap[k]?:=fun k hk=>by
  simp only [grow];rw [Array.getElem?_append_left hk]
 refine ⟨⟨List.nodup_nil,fun k hk=>(by cases hk),fun k hk=>Nat.lt_of_lt_of_le (s.old k hk) hs,fun p hp=>(by cases hp)⟩,⟨rfl,rfl,rfl,hs,fun k hk _=>hh k hk,fun k hk=>(by cases hk),fun k hk c T f h=>?_⟩⟩;rw [hh k hk] at h;exact ⟨c,f,h,rfl⟩
theorem zkU (r1:Nat) (b:Blk):Tr Tryz.prog 167 [.iface 22 .nils,.fn 168 [] [.ptr r1 1 0 0]] [(r1,b)] fun v H'=>v=.tup []∧H'=[(r1,b)]:=by
 refine ⟨zmb,fun fr w vs s hr=>?_⟩;have s0:Sim fr ([]++[(r1,b)]) w:=s;have s1:=s0.split;cases hr with
 |cons h1 ht=>
 cases ht with
 |cons h2 ht=>
 cases ht;obtain ⟨fs,cs,rfl,q1,q2⟩:=h2.fn_inv;have g1:fs=#[]:=by
  generalize hq:fs.toList=q at q1
  cases q1;have:=congrArg List.toArray hq;simpa using this
 subst g1;cases h1 with
 |iface _ _ _ h1=>
 cases h1;have hc:=zkh none 0 0 (by omega) w cs;refine hc.mono ?_;rintro e w' ⟨rfl,os,rfl⟩;obtain ⟨s',x'⟩:=zrU s1 os;exact ⟨.tup [],_,_,rfl,⟨rfl,rfl⟩,Sim.join s0 s' x',Rep.tup_of .nil,x'.frame⟩
end Go.Proofs.YtpopmiodjibljaaGreatDoor
namespace Go.Abs
open Go
def ziu (o rest:List (Int×Int)):List (Int×Int):=match o.getLast? with
 |none=>zgd rest
 |some y=>o.dropLast++zb0 y rest
theorem zcs (pre:List (Int×Int)) (y:Int×Int) (rest:List (Int×Int)):ziu (pre++[y]) rest=pre++zb0 y rest:=by
 simp [ziu]
theorem zmn (o:List (Int×Int)):ziu o []=o:=by
 rcases List.eq_nil_or_concat o with rfl|⟨pre,y,rfl⟩
 ·rfl
 ·rw [List.concat_eq_append,zcs];rfl
theorem zkW {pre:List (Int×Int)} {y x:Int×Int} {rest:List (Int×Int)} (h:x.1≤y.2+1):ziu (pre++[y]) (x::rest)=ziu (pre++[(y.1,max y.2 x.2)]) rest:=by
 rw [zcs,zcs,zb0,if_pos h]
theorem zja {pre:List (Int×Int)} {y x:Int×Int} {rest:List (Int×Int)} (h:¬x.1≤y.2+1):ziu (pre++[y]) (x::rest)=ziu (pre++[y]++[x]) rest:=by
 rw [zcs,zcs,zb0,if_neg h,List.append_assoc];rfl
end Go.Abs
namespace Go.Proofs.YtpopmiodjibljaaGreatDoor
open Go Go.Abs
def srtS (l:List (Int×Int)):List (Int×Int):=l.mergeSort fun x y=>decide (x.1≤y.1)
theorem zf0 (l:List (Int×Int)):(srtS l).Perm l:=List.mergeSort_perm _ _
theorem zke (l:List (Int×Int)):asc (srtS l):=by
 have:=List.pairwise_mergeSort (le:=fun x y:Int×Int=>decide (x.1≤y.1)) (by intro a b c h1 h2;simp at*;omega) (by intro a b;simp;omega) l;exact this.imp fun h=>by simpa using h
theorem zmq {l l':List (Int×Int)} (hp:l'.Perm l) (ha:asc l') (hok:∀x∈l,0≤x.1∧okS' x):zgd l'=zgd (srtS l):=by
 have hok1:∀x∈l',0≤x.1∧okS' x:=fun x hx=>hok x (hp.mem_iff.1 hx);have hok2:∀x∈srtS l,0≤x.1∧okS' x:=fun x hx=>hok x ((zf0 l).mem_iff.1 hx);refine zrt (ziz hok1 ha) (ziz hok2 (zke l)) fun n=>?_;rw [zkg (fun x hx=>(hok1 x hx).2) ha,zkg (fun x hx=>(hok2 x hx).2) (zke l),zjI hp,zjI (zf0 l)]
def zrh (o:Oper):Nat:=match o.op with|.load .. =>1|.store .. =>2|_=>0
theorem zdv (l0:List (Int×Int)) (hok:∀x∈l0,0≤x.1∧okS' x) (hl0:l0.length≤1000000):PTr Tryz.prog 120 [.ds (l0.map zaf)] (.ds ((zgd (srtS l0)).map zaf)):=by
 refine PTr.of_body (N:=55) Tryz.func120 I I I ?_;refine ae0 (ag 2 I (J (Jf I I (zaa I) rfl I (fun _ _=>(ab (ag 5 I (J (U okL I (.head _) rfl I I I (ab (J3 ?_))))))))));rename_i r1 _;refine J5 (Jc [_] rfl I I I (ziM l0 hl0) fun v H' hv=>?_)
 obtain ⟨g,hg,rfl,rfl⟩:=hv;cases g with
 |none=>
  have h0:=hg rfl;subst h0;refine ab (J (J4 okL rfl rfl rfl (zaa rfl) rfl rfl rfl .here rfl rfl rfl (ab (ag 4 rfl (J (U okL rfl (.head _) rfl rfl rfl rfl (ab (ag 2 rfl (J3 ?_)))))))));refine J5 (Je rfl rfl rfl (Tr.g (zkU r1 _)) fun v H' hv=>?_)
  obtain ⟨rfl,rfl⟩:=hv;refine ab (ag 10 rfl (J (U okL rfl (.head _) rfl rfl rfl rfl (ab (ag 5 rfl (Y ?_))))));refine AWp.freezeM (f:=zaf) (g:=none) (l:=[]) (pre:=[(r1,_)]) (t:=3) (sz:=2) (e:=166) rfl rfl (fun _=>rfl) ?_;refine Jh (α:=Unit) (fun _=>0) (fun _=>[(14,i64 0),(15,i64 0),(3,.ds [])]) (fun _=>[(r1,_)]) (fun _=>True) () trivial ?_ (List.Perm.refl _) ?_
  ·simp only [za0]
   refine ⟨rfl,rfl,rfl,trivial⟩
  rintro _ _ ih;refine ae0 (ag 9 rfl (O (ae (ag 7 rfl (O ?_)))));refine zab (J2 rfl rfl) ?_;have:srtS []=[]:=by simp [srtS]
  rw [this];rfl
 |some r=>
  refine ab (J (J4 okL I I I (zaa I) rfl I I .here I I I (ab (ag 4 I (J (U okL I (.head _) rfl I I I (ab (ag 2 I (J3 ?_)))))))));have st:=zlI r r1 l0 hl0;have e0:l0.length=(l0.map zaf).length:=(List.length_map ..).symm;rw [e0] at st;refine J5 (Jq (F:=[]) I I I (by rw [List.append_nil];exact List.Perm.swap _ _ _) (Tr.g st) fun v H' hv=>?_)
  obtain ⟨rfl,l,hl,hla,rfl⟩:=hv;have hll:=hl.length_eq;have hok1:∀x∈l,0≤x.1∧okS' x:=fun x hx=>hok x (hl.mem_iff.1 hx);have hjoin:=zmq hl hla hok;have hln:l.length≤1000000:=by rw [hll];exact hl0
  rw [←hjoin,List.append_nil];have elen:(l0.map zaf).length=l.length:=by rw [List.length_map,hll]
  rw [elen];refine ab (ag 10 I (J (U okL I (.tail _ (.head _)) I I I I (ab (ag 5 I (Y ?_))))));refine AWp.perm (List.Perm.swap _ _ _) ?_;refine AWp.freezeM (t:=13) (f:=zaf) (g:=some r) (l:=l) (pre:=[(r1,_)]) (sz:=2) (e:=166) rfl I (fun h=>nomatch h) ?_;refine Jh (α:=Nat×Option Nat×List (Int×Int)) (fun s=>l.length - s.1) (fun s=>[(13,.ds (l.map zaf)),(14,i64 l.length),(15,i64 s.1),(3,outV 2 s.2.1 s.2.2.length)]) (fun s=>(r1,.row 22 1 [[.os r 2 0 l.length]])::outH 166 2 s.2.1 (s.2.2.map zaf))
   (fun s=>s.1≤l.length∧(s.2.1=none→s.2.2=[])∧ziu s.2.2 (l.drop s.1)=zgd l∧s.2.2.length≤s.1∧∀z∈s.2.2,0≤z.1∧okS' z) (0,none,[]) ⟨Nat.zero_le _,fun _=>rfl,rfl,Nat.le_refl _,fun z hz=>(by cases hz)⟩ ?_ (List.Perm.refl _) ?_
  ·simp only [za0]
   refine ⟨rfl,rfl,rfl,rfl,trivial⟩
  rintro ⟨k,g3,o⟩ ⟨hk,hg3,hv,hol,hoo⟩ ih;simp only at hk hg3 hv hol hoo;refine ae0 (ag 6 rfl (Y ?_))
  (refine J1 I (fun h=>?_) (fun h=>?_))
  ·have h:(k:Int)<l.length:=of_decide_eq_true h
   obtain ⟨x,hx⟩:∃x,l[k]?=some x:=⟨l[k],by simp [show k<l.length by omega]⟩
   have nx:=nxt (k:=k) (n:=l.length) (by omega) (by unfold maxLen;omega);have hxo:=hok1 x (List.mem_of_getElem? hx);rw [zaT hx] at hv;refine ae (ag 6 rfl (Jm okL (zai rfl rfl rfl rfl rfl (by omega) (getS hx) rfl) rfl (ag 1 rfl (J (Jb okL rfl rfl rfl (fun _ _=>(ab (J (J4 okL rfl rfl rfl (zaa rfl) rfl rfl rfl .here rfl rfl rfl (ab (ag 6 rfl (J3 ?_))))))))))));rename_i r6 _;rcases List.eq_nil_or_concat o with rfl|⟨pre,y,rfl⟩
   ·cases g3 with
    |none=>
     refine ab (ag 5 I (AC.drawn okL hmix (by kernel_rfl) (ag 21 I (J (U okL I (.head _) rfl I I I (ab (J (Jl okL I I I I I I I I I I I (fun _ _=>(ab (J3 ?_)))))))))));refine J5 (AOp.pushL zaf none [] [x] [(r6,.row 166 2 [zaf x]),(r1,_)] okL (fun _=>rfl) rfl I I (by simp) rfl I I I (fun a _=>rfl) (fun a _=>rfl) (by simp) rfl I fun r' _=>?_)
     refine ab (ag 8 I (O (zap ?_)))
     (refine AIn.nextN 1 (ih ((k+1,some r',[]++[x])) (⟨by simp only;omega,fun h=>(by cases h),hv,by simp,fun z hz=>(by simp at hz;subst hz;exact hxo)⟩) (by omega)) ?_ rfl;repeat (first|exact trivial|refine ⟨rfl,?_⟩|refine ⟨congrArg some nx,?_⟩))
    |some r3=>
     refine ab (ag 5 I (AC.drawn okL hmix (by kernel_rfl) (ag 21 I (J (U okL I (.head _) rfl I I I (ab (J (Jl okL I I I I I I I I I I I (fun _ _=>(ab (J3 ?_)))))))))));refine J5 (AOp.pushL zaf (some r3) [] [x] [(r6,.row 166 2 [zaf x]),(r1,_)] okL (fun h=>by cases h) rfl I I (by simp) rfl I I I (fun a _=>rfl) (fun a _=>rfl) (by simp) rfl I fun r' _=>?_)
     refine ab (ag 8 I (O (zap ?_)))
     (refine AIn.nextN 1 (ih ((k+1,some r',[]++[x])) (⟨by simp only;omega,fun h=>(by cases h),hv,by simp,fun z hz=>(by simp at hz;subst hz;exact hxo)⟩) (by omega)) ?_ rfl;repeat (first|exact trivial|refine ⟨rfl,?_⟩|refine ⟨congrArg some nx,?_⟩))
   ·rw [List.concat_eq_append] at*
    cases g3 with
    |none=>exact absurd (hg3 rfl) (by simp)
    |some r3=>
     have hy:=hoo y (by simp);unfold okS' at hy hxo;have hpl:(pre++[y]).length=pre.length+1:=by simp
     have hwl:IntKind.i64.wrap (((pre++[y]).length:Int) - 1)=(pre.length:Int):=by rw [zaS ⟨by omega,by omega⟩];omega
     have hw3:IntKind.i64.wrap (y.2+1)=y.2+1:=zaS ⟨by omega,by omega⟩
     have hpos:decide (((pre++[y]).length:Int)>0)=true:=decide_eq_true (by omega);refine ab (ag 5 I (Y ?_));refine Flex.AWp.draw zrh (fun _=>default) okL hmix (by kernel_rfl) ?_
     (repeat (refine Flex.Plan.pure I I I ?_))
     have m1:((pre++[y]).map zaf)[0+((pre.length:Nat):Int).toNat]?=some (zaf y):=by simp
     rw [hpos]
     (repeat (first|refine Flex.Plan.pure I I I ?_|refine Flex.Plan.quiet I I (.inl I) (U okL I (.head _) rfl I I I (J8 (Flex.Qn_n ⟨rfl,rfl⟩))) ?_))
     rw [hwl]
     (repeat (first|refine Flex.Plan.pure I I I ?_|refine Flex.Plan.pure I I (zhd I I I I I (by omega) (by simp only;omega) rfl) ?_))
     refine Flex.Plan.quiet I I (.inl I) (U okL I (.tail _ (.tail _ (.head _))) m1 I I I (J8 (Flex.Qn_n ⟨rfl,rfl⟩))) ?_
     (repeat (refine Flex.Plan.pure I I I ?_))
     rw [hw3]
     (repeat (first|refine Flex.Plan.pure I I I ?_|refine Flex.Plan.quiet I I (.inl I) (U okL I (.head _) rfl I I I (J8 (Flex.Qn_n ⟨rfl,rfl⟩))) ?_|refine Flex.Plan.quiet I I (.inl I) (U okL I (.tail _ (.head _)) I I I I (J8 (Flex.Qn_n ⟨rfl,rfl⟩))) ?_|refine Flex.Plan.quiet I I (.inl I) (U okL I (.tail _ (.tail _ (.head _))) I I I I (J8 (Flex.Qn_n ⟨rfl,rfl⟩))) ?_|refine Flex.Plan.quiet I I (.inl I) (U okL I (.tail _ (.tail _ (.tail _ (.head _)))) I I I I (J8 (Flex.Qn_n ⟨rfl,rfl⟩))) ?_|refine Flex.Plan.quiet I I (.inl I) (U okL I (.tail _ (.tail _ (.tail _ (.tail _ (.head _))))) I I I I (J8 (Flex.Qn_n ⟨rfl,rfl⟩))) ?_|refine Flex.Plan.quiet I I (.inl I) (U okL I (.tail _ (.tail _ (.tail _ (.tail _ (.tail _ (.head _)))))) I I I I (J8 (Flex.Qn_n ⟨rfl,rfl⟩))) ?_|refine Flex.Plan.eff1 I I I (J4 okL I I I (zaa I) rfl I I .here I I I (J8 (Flex.Qn_n ⟨rfl,rfl⟩))) ?_|refine Flex.Plan.eff1 I I I (J4 okL I I I (zaa I) rfl I I (.there .here) rfl I I (J8 (Flex.Qn_n ⟨rfl,rfl⟩))) ?_|refine Flex.Plan.eff1 I I I (J4 okL I I I (zaa I) rfl I I (.there (.there .here)) I I I (J8 (Flex.Qn_n ⟨rfl,rfl⟩))) ?_|refine Flex.Plan.eff1 I I I (J4 okL I I I (zaa I) rfl I I (.there (.there (.there .here))) I I I (J8 (Flex.Qn_n ⟨rfl,rfl⟩))) ?_|refine Flex.Plan.eff1 I I I (J4 okL I I I (zaa I) rfl I I (.there (.there (.there (.there .here)))) I I I (J8 (Flex.Qn_n ⟨rfl,rfl⟩))) ?_|refine Flex.Plan.eff1 I I I (J4 okL I I I (zaa I) rfl I I (.there (.there (.there (.there (.there .here))))) I I I (J8 (Flex.Qn_n ⟨rfl,rfl⟩))) ?_))
     refine Flex.Plan.nil ?_;refine ae (Y ?_)
     (refine J1 I (fun g4=>?_) (fun g4=>?_))
     ·have g4:x.1≤y.2+1:=of_decide_eq_true g4
      rw [zkW g4] at hv;refine ae (ag 1 I (Y ?_));refine Flex.AWp.draw zrh (fun _=>default) okL hmix (by kernel_rfl) ?_
      (repeat (refine Flex.Plan.pure I I I ?_))
      rw [hwl]
      (repeat (first|refine Flex.Plan.pure I I I ?_|refine Flex.Plan.pure I I (zhd I I I I I (by omega) (by simp only;omega) rfl) ?_))
      refine Flex.Plan.quiet I I (.inl I) (U okL I (.tail _ (.tail _ (.head _))) m1 I I I (J8 (Flex.Qn_n ⟨rfl,rfl⟩))) ?_
      (repeat (first|refine Flex.Plan.pure I I I ?_|refine Flex.Plan.pure I I (zhd I I I I I (by omega) (by simp only;omega) rfl) ?_|refine Flex.Plan.quiet I I (.inl I) (U okL I (.head _) rfl I I I (J8 (Flex.Qn_n ⟨rfl,rfl⟩))) ?_))
      refine Flex.Plan.eff1 I I I (J4 okL I I I (zaa I) rfl I I (.there (.there .here)) m1 I I (J8 (Flex.Qn_n ⟨rfl,rfl⟩))) ?_;refine Flex.Plan.nil ?_;have hmx:(if x.2>y.2 then x.2 else y.2)=max y.2 x.2:=by omega
      refine ae (ag 8 I (O (zap ?_)));refine AIn.nextN 1 (ih (k+1,some r3,pre++[(y.1,max y.2 x.2)]) ⟨by simp only;omega,fun h=>(by cases h),hv,by simp at hol ⊢;omega,fun z hz=>(by
       rcases List.mem_append.1 hz with h|h
       ·exact hoo z (List.mem_append.2 (.inl h))
       ·rw [List.mem_singleton.1 h];unfold okS';simp only;omega)⟩ (by simp only;omega)) ?_ ?_
      ·refine ⟨rfl,rfl,congrArg some nx,?_,trivial⟩
       show some (A.os r3 2 0 (pre++[y]).length)=some (A.os r3 2 0 (pre++[(y.1,max y.2 x.2)]).length)
       simp
      ·show [(r1,Blk.row 22 1 [[.os r 2 0 l.length]]),(r3,Blk.row 166 2 (((pre++[y]).map zaf).set (0+((pre.length:Nat):Int).toNat) (zaf (y.1,if x.2>y.2 then x.2 else y.2))))]=[(r1,Blk.row 22 1 [[.os r 2 0 l.length]]),(r3,Blk.row 166 2 ((pre++[(y.1,max y.2 x.2)]).map zaf))]
       rw [hmx];simp [List.set_append]
     ·have g4:¬x.1≤y.2+1:=of_decide_eq_false g4
      rw [zja g4] at hv;refine ae (ag 4 I (J (U okL I (.head _) rfl I I I (ab (J (Jl okL I I I I I I I I I I I (fun _ _=>(ab (J3 ?_)))))))));refine J5 (AOp.pushL zaf (some r3) (pre++[y]) [x] [(r6,.row 166 2 [zaf x]),(r1,_)] okL (fun h=>by cases h) rfl I I (by simp) rfl I I I (fun a _=>rfl) (fun a _=>rfl) (by simp at hol ⊢;omega) rfl I fun r' _=>?_)
      refine ab (ag 8 I (O (zap ?_)))
      (refine AIn.nextN 1 (ih ((k+1,some r',pre++[y]++[x])) (⟨by simp only;omega,fun h=>(by cases h),hv,by simp at hol ⊢;omega,fun z hz=>(by rcases List.mem_append.1 hz with h|h;exact hoo z h;rw [List.mem_singleton.1 h];exact hxo)⟩) (by omega)) ?_ rfl;repeat (first|exact trivial|refine ⟨rfl,?_⟩|refine ⟨congrArg some nx,?_⟩))
  ·have h:¬(k:Int)<l.length:=of_decide_eq_false h
   rw [List.drop_eq_nil_of_le (by omega),zmn] at hv;refine AWp.freezeM (f:=zaf) (g:=g3) (l:=o) (pre:=[(r1,_)]) (t:=3) (sz:=2) (e:=166) rfl I hg3 ?_;refine ae (ag 2 I (O (ae (ag 7 I (O ?_)))));refine zab (J2 I I) ?_;rw [hv]
def zeW (l:List (Int×Int)):Nat→List (List UInt8)
 |0=>[]
 |k+1=>zqO l (zeW l k) (zcW k)
def outK (l:List (Int×Int)):Nat→List (Int×Int)
 |0=>l
 |k+1=>zjk (zeW l 8201) (outK l k) (zcW k)
theorem zdA (l:List (Int×Int)):∀k,(outK l k).length≤l.length+k
 |0=>Nat.le_refl _
 |k+1=>by
  have:=zdA l k;unfold outK zjk;split<;>simp<;>omega
theorem zma (k:Nat) (h:k<8201):0≤zcW k∧zcW k≤1114111:=by
 unfold zcW;split
 ·omega
 ·split
  ·omega
  ·split<;>omega
theorem zf2 {l:List (Int×Int)} (h:∀x∈l,0≤x.1∧okS' x):∀k,k≤8201→∀x∈outK l k,0≤x.1∧okS' x
 |0,_=>h
 |k+1,hk=>fun x hx=>by
  have ih:=zf2 h k (by omega);have hf:=zma k (by omega);unfold outK zjk at hx;split at hx
  ·rcases List.mem_append.1 hx with hx|hx
   ·exact ih x hx
   ·rw [List.mem_singleton.1 hx]
    exact ⟨hf.1,Int.le_refl _,hf.2⟩
  ·exact ih x hx
def widL (l:List (Int×Int)):List (Int×Int):=zgd (srtS (outK l 8201))
theorem zlp (l:List (Int×Int)) (hok:∀x∈l,0≤x.1∧okS' x) (hl:l.length≤100000):PTr Tryz.prog 63 [.ds (l.map zaf)] (.ds ((widL l).map zaf)):=by
 refine PTr.of_body (N:=14) Tryz.func63 I I I ?_;refine ae0 (ag 2 I (J (J9 1 I I (zaa I) rfl (ab (ag 5 I (J3 ?_))))));refine J5 (AOp.makeMap I fun rm _=>?_)
 refine ab (J (Jb okL I I I (fun _ _=>(ab (J (J4 okL I I I (zaa I) rfl I I .here I I I (ab (ag 5 I (J3 ?_)))))))));rename_i r3 _;refine J5 (Je I I I (zf4 _ _ (fun k H=>H=[(r3,zh7 rm),(rm,.map ((zeW l k).map mkE))]) _ I (fun k H _ hH=>by
  subst hH;exact zjn l (by unfold maxLen;omega) rm r3 (zeW l k) (zcW k))) fun v H' hv=>?_)
 subst hv;refine ab (ag 5 rfl (J3 ?_));refine J5 (Jc [_,_] rfl rfl rfl (by rw [List.append_nil]) (ziM l (by omega)) fun v H' hr=>?_)
 obtain ⟨g,hg,rfl,rfl⟩:=hr;rw [List.length_map];cases g with
 |none=>
  refine ab (J (Jb okL I I I (fun _ _=>(ab (J (J4 okL I I I (zaa I) rfl I I .here I I I (ab (ag 5 I (J3 ?_)))))))));rename_i r4 _;refine J5 (Je I I I (zf4 _ _ (fun k H=>∃g,(g=none→outK l k=[])∧H=(r4,.row 22 1 [zjM g (outK l k).length])::(r3,zh7 rm)::(rm,.map ((zeW l 8201).map mkE))::outH 166 2 g ((outK l k).map zaf)) _ ⟨none,hg,rfl⟩ (fun k H hk hH=>by
   obtain ⟨g,hg,rfl⟩:=hH;exact zfE rm r3 (zeW l 8201) r4 g (outK l k) hg (by have:=zdA l k;omega) (zcW k))) fun v H' hv=>?_)
  obtain ⟨g',hg',rfl⟩:=hv;have hol:=zdA l 8201;cases g' with
  |none=>
   refine ab (ag 4 I (J (U okL I (.head _) rfl I I I (ab (J3 ?_)))));refine AOps.freezeM (f:=zaf) (g:=none) (l:=outK l 8201) (pre:=[_,_,_]) (t:=12) (sz:=2) (e:=166) rfl I hg' ?_;refine ab (J (J7 I I I (zdv (outK l 8201) (zf2 hok 8201 (Nat.le_refl _)) (by omega)) (ab (ag 4 I (O ?_)))));refine zab (J2 I I) ?_;rfl
  |some r'=>
   refine ab (ag 4 I (J (U okL I (.head _) rfl I I I (ab (J3 ?_)))));refine AOps.freezeM (f:=zaf) (g:=some r') (l:=outK l 8201) (pre:=[_,_,_]) (t:=12) (sz:=2) (e:=166) rfl I hg' ?_;refine ab (J (J7 I I I (zdv (outK l 8201) (zf2 hok 8201 (Nat.le_refl _)) (by omega)) (ab (ag 4 I (O ?_)))));refine zab (J2 I I) ?_;rfl
 |some r=>
  refine ab (J (Jb okL I I I (fun _ _=>(ab (J (J4 okL I I I (zaa I) rfl I I .here I I I (ab (ag 5 I (J3 ?_)))))))));rename_i r4 _;refine J5 (Je I I I (zf4 _ _ (fun k H=>∃g,(g=none→outK l k=[])∧H=(r4,.row 22 1 [zjM g (outK l k).length])::(r3,zh7 rm)::(rm,.map ((zeW l 8201).map mkE))::outH 166 2 g ((outK l k).map zaf)) _ ⟨some r,hg,rfl⟩ (fun k H hk hH=>by
   obtain ⟨g,hg,rfl⟩:=hH;exact zfE rm r3 (zeW l 8201) r4 g (outK l k) hg (by have:=zdA l k;omega) (zcW k))) fun v H' hv=>?_)
  obtain ⟨g',hg',rfl⟩:=hv;have hol:=zdA l 8201;cases g' with
  |none=>
   refine ab (ag 4 I (J (U okL I (.head _) rfl I I I (ab (J3 ?_)))));refine AOps.freezeM (f:=zaf) (g:=none) (l:=outK l 8201) (pre:=[_,_,_]) (t:=12) (sz:=2) (e:=166) rfl I hg' ?_;refine ab (J (J7 I I I (zdv (outK l 8201) (zf2 hok 8201 (Nat.le_refl _)) (by omega)) (ab (ag 4 I (O ?_)))));refine zab (J2 I I) ?_;rfl
  |some r'=>
   refine ab (ag 4 I (J (U okL I (.head _) rfl I I I (ab (J3 ?_)))));refine AOps.freezeM (f:=zaf) (g:=some r') (l:=outK l 8201) (pre:=[_,_,_]) (t:=12) (sz:=2) (e:=166) rfl I hg' ?_;refine ab (J (J7 I I I (zdv (outK l 8201) (zf2 hok 8201 (Nat.le_refl _)) (by omega)) (ab (ag 4 I (O ?_)))));refine zab (J2 I I) ?_;rfl
end Go.Proofs.YtpopmiodjibljaaGreatDoor
namespace Go.Bk
open Go Go.Abs
structure Sg where
 at_:Int
 keep:Int
 caps:List (Int×Int)
 calls:List (Int×Int)
inductive Fm where
 |cat (x:Pat) (n:Nat)
 |turn (x:Pat) (many fr:Int)
 |group (x:Pat) (fr:Int)
 |call (s:Sg)
 |stop (want:Int)
 |fin
structure Wk where
 p:Nat
 r:Nat
 codes:List Int
 acc:List Int
inductive BOut where
 |no
 |yes (s:Sg)
 |cut (n:Nat)
 |tired
inductive Task where
 |try_ (x:Pat) (s:Sg) (k:List Fm)
 |go (k:List Fm) (s:Sg)
 |alts (l:List Pat) (s:Sg) (k:List Fm)
 |turn (x:Pat) (many:Int) (s:Sg) (k:List Fm)
abbrev BRes:=Option (BOut×Wk)
structure Bk where
 takes:Pat→Int→Bool
 holds:Pat→Int→Bool
 copied:Int×Int→Int→Int
 bit:Int→Bool
 least:Pat→Int
 body:Int→Pat
 stop:List Int→Bool
 tau:Nat→Nat→Bool
def barr:List Fm→List Fm
 |[]=>[]
 |.call s::k=>.call s::k
 |.stop w::k=>.stop w::k
 |.fin::k=>.fin::k
 |.cat _ _::k=>barr k
 |.turn _ _ _::k=>barr k
 |.group _ _::k=>barr k
def lvl:List Fm→Nat
 |[]=>0
 |.call _::k=>lvl k+1
 |.stop _::k=>lvl k+1
 |.fin::k=>lvl k+1
 |.cat _ _::k=>lvl k
 |.turn _ _ _::k=>lvl k
 |.group _ _::k=>lvl k
def fstL (l:List Pat):Pat:=l.headD default
def sndL (l:List Pat):Pat:=(l.drop 1).headD default
def capN (s:Sg) (n:Int):Int×Int:=s.caps.getD n.toNat (-1,-1)
inductive Tm where
 |ret (r:BOut×Wk)
 |ask (t:Task) (w:Wk) (f:BOut×Wk→Tm)
def Tm.eval (rec:Task→Wk→BRes):Tm→BRes
 |.ret r=>some r
 |.ask t w f=>(rec t w).bind fun r=>(f r).eval rec
def Tm.last (t:Task) (w:Wk):Tm:=.ask t w .ret
section
variable (B:Bk)
def thenS (k:List Fm) (s:Sg):BOut×Wk→Tm
 |(.yes e,w)=>.last (.go k {e with calls:=s.calls}) w
 |(.tired,w)=>.ret (.tired,w)
 |(_,w)=>.ret (.no,w)
def zbl (x:Pat) (k:List Fm) (s:Sg):BOut×Wk→Tm
 |(.tired,w)=>.ret (.tired,w)
 |(.yes e,w)=>if x.n%2=0 then .last (.go k {s with caps:=e.caps}) w else .ret (.no,w)
 |(_,w)=>if x.n%2=0 then .ret (.no,w) else .last (.go k s) w
def zef (k:List Fm):BOut×Wk→Tm
 |(.cut j,w)=>if j=lvl k+1 then .ret (.no,w) else .ret (.cut j,w)
 |(o,w)=>.ret (o,w)
def zhn (k:List Fm):BOut×Wk→Tm
 |(.no,w)=>.ret (.cut (lvl k),w)
 |(o,w)=>.ret (o,w)
def zeD (f:Wk→Tm):BOut×Wk→Tm
 |(.no,w)=>f w
 |(o,w)=>.ret (o,w)
def catS (x:Pat) (n:Nat) (s:Sg) (k:List Fm) (w:Wk):Tm:=
 match x.l[n]? with
 |some y=>.last (.try_ y s (.cat x (n+1)::k)) w
 |none=>.last (.go k s) w
def zcn (x:Pat) (many:Int) (s:Sg) (k:List Fm) (w:Wk):Tm:=
 if x.n=1 then
  (if many≥x.min then
   .ask (.go k s) w (zeD fun w=>if x.max<0∨many<x.max then .last (.try_ (fstL x.l) s (.turn x many s.at_::k)) w else .ret (.no,w))
   else (if x.max<0∨many<x.max then .last (.try_ (fstL x.l) s (.turn x many s.at_::k)) w else .ret (.no,w)))
 else
  (if x.max<0∨many<x.max then
   .ask (.try_ (fstL x.l) s (.turn x many s.at_::k)) w (zeD fun w=>if many≥x.min then .last (.go k s) w else .ret (.no,w))
   else (if many≥x.min then .last (.go k s) w else .ret (.no,w)))
def zcP (x:Pat):Pat:=.mk x.op 0 x.min x.max x.name x.set x.l
def zbY (x:Pat) (w:Wk):Wk:=if w.codes.length<100 then {w with codes:=w.codes++[x.n]} else w
def zcU (x:Pat) (s:Sg):Int:=if x.n>1 then s.at_ - B.least (fstL x.l) else s.at_
def ze3 (x:Pat) (s:Sg):Int:=if x.n>1 then s.at_ else -1
def zaU (x:Pat) (s:Sg) (k:List Fm) (w:Wk):Tm:=
 if x.op=1∨x.op=2∨x.op=3 then (if B.takes x s.at_=true then .last (.go k {s with at_:=s.at_+1}) w else .ret (.no,w))
 else if x.op=4 then catS x 0 s k w
 else if x.op=5 then .last (.alts x.l s k) w
 else if x.op=6 then (if x.n=2 then .ask (.turn (zcP x) 0 s [.stop (-1)]) w (thenS k s) else .last (.turn x 0 s k) w)
 else if x.op=7 then .last (.try_ (fstL x.l) s (.group x s.at_::k)) w
 else if x.op=8 then
  (if (fstL x.l).op=6 then
   (if B.tau (w.p+1) w.r=true then .ret (.tired,{w with p:=w.p+1})
    else .ask (.turn (fstL x.l) 0 s [.stop (-1)]) {w with p:=w.p+1} (thenS k s))
   else .ask (.try_ (fstL x.l) s [.stop (-1)]) w (thenS k s))
 else if x.op=9 then
  (if zcU B x s<0 then zbl x k s (.no,w) else .ask (.try_ (fstL x.l) {s with at_:=zcU B x s} [.stop (ze3 x s)]) w (zbl x k s))
 else if x.op=10 then (if B.copied (capN s x.n) s.at_<0 then .ret (.no,w) else .last (.go k {s with at_:=s.at_+B.copied (capN s x.n) s.at_}) w)
 else if x.op=11∨x.op=12∨x.op=13 then (if B.holds x s.at_=true then .last (.go k s) w else .ret (.no,w))
 else if x.op=14 then
  (if (x.n,s.at_)∈s.calls∨s.calls.length≥20 then .ret (.no,w)
   else .ask (.try_ (B.body x.n) {s with calls:=(x.n,s.at_)::s.calls} (.call s::k)) w (zef k))
 else if x.op=15 then (if (capN s x.n).1≥0 then .last (.try_ (fstL x.l) s k) w else .last (.try_ (sndL x.l) s k) w)
 else if x.op=16 then
  (if x.n=0 then .ret (.no,w) else if x.n=1 then .last (.go (barr k) s) w else .ask (.go k s) w (zhn k))
 else if x.op=17 then (if B.bit x.n=true then .last (.go k s) (zbY x w) else .ret (.no,zbY x w))
 else if x.op=18 then .last (.go k {s with keep:=s.at_}) w
 else .last (.go k s) w
def goS (s:Sg) (w:Wk):List Fm→Tm
 |[]=>.ret (.no,w)
 |.cat x n::k=>catS x n s k w
 |.turn x many fr::k=>if many≥x.min∧s.at_=fr then .ret (.no,w) else .last (.turn x (many+1) s k) w
 |.group x fr::k=>.last (.go k {s with caps:=s.caps.set x.n.toNat (fr,s.at_)}) w
 |.call o::k=>.last (.go k {o with at_:=s.at_}) w
 |.stop want::_=>if want≥0∧want≠s.at_ then .ret (.no,w) else .ret (.yes s,w)
 |.fin::_=>if B.stop (w.acc++[s.at_])=true then .ret (.yes s,{w with acc:=w.acc++[s.at_]}) else .ret (.no,{w with acc:=w.acc++[s.at_]})
def zl8 (s:Sg) (k:List Fm) (w:Wk):List Pat→Tm
 |[]=>.ret (.no,w)
 |y::l=>.ask (.try_ y s k) w (zeD (.last (.alts l s k)))
def tick (w:Wk):Wk:={w with p:=w.p+1,r:=w.r+1}
def runS (t:Task) (w:Wk):Tm:=
 match t with
 |.try_ x s k=>if B.tau (w.p+1) (w.r+1)=true then .ret (.tired,tick w) else zaU B x s k (tick w)
 |.go k s=>goS B s w k
 |.alts l s k=>zl8 s k w l
 |.turn x many s k=>zcn x many s k w
end
def brun (B:Bk):Nat→Task→Wk→BRes
 |0,_,_=>none
 |n+1,t,w=>(runS B t w).eval (brun B n)
structure Lat (R:Wk→Wk→Prop):Prop where
 refl:∀a:Wk,R a a
 code:∀(x:Pat) (a:Wk),R a (zbY x a)
 fin:∀(a:Wk) (l:List Int),R a {a with acc:=l}
 trans:∀a b c:Wk,R a b→R b c→R a c
theorem zmv (x:Pat) (w:Wk):(zbY x w).p=w.p∧(zbY x w).r=w.r:=by unfold zbY;split<;>exact ⟨rfl,rfl⟩
def Wk.le (a b:Wk):Prop:=a.r≤b.r∧a.p≤b.p∧b.r+a.p≤b.p+a.r∧b.p+2*a.r≤a.p+2*b.r
def Wk.lw (a b:Wk):Prop:=a.r≤b.r∧a.p≤b.p∧b.r+a.p≤b.p+a.r
theorem zeK:Lat Wk.le:=⟨fun a=>by unfold Wk.le;omega,fun x a=>by have:=zmv x a;unfold Wk.le;omega,fun a l=>by unfold Wk.le;simp only;omega,fun a b c h1 h2=>by unfold Wk.le at*;omega⟩
theorem zjD:Lat Wk.lw:=⟨fun a=>by unfold Wk.lw;omega,fun x a=>by have:=zmv x a;unfold Wk.lw;omega,fun a l=>by unfold Wk.lw;simp only;omega,fun a b c h1 h2=>by unfold Wk.lw at*;omega⟩
inductive Tm.Good (R:Wk→Wk→Prop):Wk→Tm→Prop
 |ret {w0:Wk} (o:BOut) (w:Wk) (h:R w0 w):Tm.Good R w0 (.ret (o,w))
 |ask {w0:Wk} (t:Task) (w:Wk) (f:BOut×Wk→Tm) (h:R w0 w) (ht:∀w1,f (.tired,w1)=.ret (.tired,w1)) (hf:∀o w1,R w w1→Tm.Good R w1 (f (o,w1))):Tm.Good R w0 (.ask t w f)
section
variable {R:Wk→Wk→Prop} (hR:Lat R)
include hR
theorem Tm.Good.last {w0:Wk} (t:Task) (w:Wk) (h:R w0 w):Tm.Good R w0 (.last t w):=.ask t w _ h (fun _=>rfl) fun o w1 h1=>.ret o w1 (hR.refl w1)
theorem zen (k:List Fm) (s:Sg) (o:BOut) (w:Wk):Tm.Good R w (thenS k s (o,w)):=by
 cases o<;>first|exact .last hR _ _ (hR.refl _)|exact .ret _ _ (hR.refl _)
theorem zgM (x:Pat) (k:List Fm) (s:Sg) (o:BOut) (w:Wk):Tm.Good R w (zbl x k s (o,w)):=by
 cases o<;>simp only [zbl]<;>(try split)<;>first|exact .last hR _ _ (hR.refl _)|exact .ret _ _ (hR.refl _)
theorem zk5 (k:List Fm) (o:BOut) (w:Wk):Tm.Good R w (zef k (o,w)):=by
 cases o<;>simp only [zef]<;>(try split)<;>first|exact .last hR _ _ (hR.refl _)|exact .ret _ _ (hR.refl _)
theorem zld (k:List Fm) (o:BOut) (w:Wk):Tm.Good R w (zhn k (o,w)):=by
 cases o<;>exact .ret _ _ (hR.refl _)
theorem zeo (f:Wk→Tm) (hf:∀w,Tm.Good R w (f w)) (o:BOut) (w:Wk):Tm.Good R w (zeD f (o,w)):=by
 cases o<;>first|exact hf w|exact .ret _ _ (hR.refl _)
theorem Tm.Good.mono {a b:Wk} {t:Tm} (h:R a b) (g:Tm.Good R b t):Tm.Good R a t:=by
 cases g with
 |ret o w h1=>exact .ret o w (hR.trans _ _ _ h h1)
 |ask t w f h1 ht hf=>exact .ask t w f (hR.trans _ _ _ h h1) ht hf
theorem zhJ (x:Pat) (n:Nat) (s:Sg) (k:List Fm) (w:Wk):Tm.Good R w (catS x n s k w):=by
 unfold catS;split<;>exact .last hR _ _ (hR.refl _)
theorem zls (x:Pat) (m:Int) (s:Sg) (k:List Fm) (w:Wk):Tm.Good R w (zcn x m s k w):=by
 unfold zcn;split<;>split
 ·refine .ask _ _ _ (hR.refl _) (fun _=>rfl) fun o w1 h1=>zeo hR _ (fun w=>?_) o w1
  split<;>first|exact .last hR _ _ (hR.refl _)|exact .ret _ _ (hR.refl _)
 ·split<;>first|exact .last hR _ _ (hR.refl _)|exact .ret _ _ (hR.refl _)
 ·refine .ask _ _ _ (hR.refl _) (fun _=>rfl) fun o w1 h1=>zeo hR _ (fun w=>?_) o w1
  split<;>first|exact .last hR _ _ (hR.refl _)|exact .ret _ _ (hR.refl _)
 ·split<;>first|exact .last hR _ _ (hR.refl _)|exact .ret _ _ (hR.refl _)
theorem zj0 (x:Pat) (w:Wk):R w (zbY x w):=hR.code x w
theorem zlz (s:Sg) (k:List Fm) (w:Wk) (l:List Pat):Tm.Good R w (zl8 s k w l):=by
 cases l with
 |nil=>exact .ret _ _ (hR.refl _)
 |cons y l=>exact .ask _ _ _ (hR.refl _) (fun _=>rfl) fun o w1 h1=>zeo hR _ (fun w=>.last hR _ _ (hR.refl _)) o w1
theorem znQ (B:Bk) (s:Sg) (w:Wk) (k:List Fm):Tm.Good R w (goS B s w k):=by
 cases k with
 |nil=>exact .ret _ _ (hR.refl _)
 |cons f k=>
  cases f with
  |cat x n=>exact zhJ hR x n s k w
  |turn x many fr=>simp only [goS];split<;>first|exact .last hR _ _ (hR.refl _)|exact .ret _ _ (hR.refl _)
  |group x fr=>exact .last hR _ _ (hR.refl _)
  |call o=>exact .last hR _ _ (hR.refl _)
  |stop want=>simp only [goS];split<;>exact .ret _ _ (hR.refl _)
  |fin=>simp only [goS];split<;>exact .ret _ _ (hR.fin _ _)
theorem zeu (B:Bk) (x:Pat) (s:Sg) (k:List Fm) {w0 w:Wk} (h1:R w0 w) (h2:R w0 {w with p:=w.p+1}):Tm.Good R w0 (zaU B x s k w):=by
 have hl:∀t,Tm.Good R w0 (.last t w):=fun t=>.last hR t _ h1;have hr:∀o,Tm.Good R w0 (.ret (o,w)):=fun o=>.ret o _ h1;have it:∀{c:Prop} [Decidable c] {a b:Tm},(c→Tm.Good R w0 a)→(¬c→Tm.Good R w0 b)→Tm.Good R w0 (if c then a else b):=fun ha hb=>by
  split<;>rename_i h
  ·exact ha h
  ·exact hb h
 unfold zaU;refine it (fun _=>it (fun _=>hl _) fun _=>hr _) fun _=>?_;refine it (fun _=>(zhJ hR x 0 s k _).mono hR h1) fun _=>?_;refine it (fun _=>hl _) fun _=>?_;refine it (fun _=>it (fun _=>.ask _ _ _ h1 (fun _=>rfl) fun o w1 _=>zen hR k s o w1) fun _=>hl _) fun _=>?_;refine it (fun _=>hl _) fun _=>?_;refine it (fun _=>it (fun _=>it (fun _=>.ret _ _ h2) fun _=>.ask _ _ _ h2 (fun _=>rfl) fun o w1 _=>zen hR k s o w1) fun _=>.ask _ _ _ h1 (fun _=>rfl) fun o w1 _=>zen hR k s o w1) fun _=>?_;refine it (fun _=>it (fun _=>(zgM hR x k s .no _).mono hR h1) fun _=>.ask _ _ _ h1 (fun _=>rfl) fun o w1 _=>zgM hR x k s o w1) fun _=>?_;refine it (fun _=>it (fun _=>hr _) fun _=>hl _) fun _=>?_;refine it (fun _=>it (fun _=>hl _) fun _=>hr _) fun _=>?_;refine it (fun _=>it (fun _=>hr _) fun _=>.ask _ _ _ h1 (fun _=>rfl) fun o w1 _=>zk5 hR k o w1) fun _=>?_;refine it (fun _=>it (fun _=>hl _) fun _=>hl _) fun _=>?_;refine it (fun _=>it (fun _=>hr _) fun _=>it (fun _=>hl _) fun _=>.ask _ _ _ h1 (fun _=>rfl) fun o w1 _=>zld hR k o w1) fun _=>?_;refine it (fun _=>it (fun _=>.last hR _ _ (hR.trans _ _ _ h1 (zj0 hR x _))) fun _=>.ret _ _ (hR.trans _ _ _ h1 (zj0 hR x _))) fun _=>?_;exact it (fun _=>hl _) fun _=>hl _
theorem zie (B:Bk) (ht:∀w,R w (tick w)) (ht2:∀w,R w {tick w with p:=(tick w).p+1}) (t:Task) (w:Wk):Tm.Good R w (runS B t w):=by
 cases t with
 |try_ x s k=>
  simp only [runS];split
  ·exact .ret _ _ (ht w)
  ·exact zeu hR B x s k (ht w) (ht2 w)
 |go k s=>exact znQ hR B s w k
 |alts l s k=>exact zlz hR s k w l
 |turn x m s k=>exact zls hR x m s k w
theorem zgC {rec:Task→Wk→BRes} (h:∀t w o w',rec t w=some (o,w')→R w w'):∀{t:Tm} {w:Wk} {o:BOut} {w':Wk},Tm.Good R w t→t.eval rec=some (o,w')→R w w':=by
 intro t
 induction t with
 |ret r=>
  intro w o w' g e;cases g with
  |ret o1 w1 h1=>simp only [Tm.eval,Option.some.injEq,Prod.mk.injEq] at e;rw [←e.2];exact h1
 |ask t w1 f ih=>
  intro w o w' g e;cases g with
  |ask _ _ _ h1 ht hf=>
   simp only [Tm.eval,Option.bind_eq_some_iff] at e;obtain ⟨⟨o2,w2⟩,e1,e2⟩:=e;have h2:=h _ _ _ _ e1;exact hR.trans _ _ _ (hR.trans _ _ _ h1 h2) (ih _ (hf o2 w2 h2) e2)
end
theorem zmd (w:Wk):Wk.le w (tick w):=by unfold Wk.le tick;simp;omega
theorem zjO (w:Wk):Wk.le w {tick w with p:=(tick w).p+1}:=by unfold Wk.le tick;simp;omega
theorem znn (B:Bk) (t:Task) (w:Wk):Tm.Good Wk.le w (runS B t w):=zie zeK B zmd zjO t w
theorem zbI (B:Bk):∀(n:Nat) (t:Task) (w:Wk) (o:BOut) (w':Wk),brun B n t w=some (o,w')→Wk.le w w'
 |0,t,w,o,w',h=>by cases h
 |n+1,t,w,o,w',h=>zgC zeK (zbI B n) (znn B t w) h
theorem ziq:Lat fun a b=>a.codes.length≤100→b.codes.length≤100:=⟨fun a h=>h,fun x a h=>by unfold zbY;split;(show (a.codes++[x.n]).length≤100;rw [List.length_append,List.length_singleton];omega);exact h,fun a l h=>h,fun a b c h k g=>k (h g)⟩
theorem zh9 (B:Bk):∀(n:Nat) (t:Task) (w:Wk) (o:BOut) (w':Wk),brun B n t w=some (o,w')→w.codes.length≤100→w'.codes.length≤100
 |0,t,w,o,w',h=>by cases h
 |n+1,t,w,o,w',h=>zgC ziq (zh9 B n) (zie ziq B (fun w h=>h) (fun w h=>h) t w) h
theorem ziH {rec rec':Task→Wk→BRes} (h:∀t w r,rec t w=some r→rec' t w=some r):∀{t:Tm} {r:BOut×Wk},t.eval rec=some r→t.eval rec'=some r:=by
 intro t
 induction t with
 |ret q=>intro r e;exact e
 |ask t w1 f ih=>
  intro r e;simp only [Tm.eval,Option.bind_eq_some_iff] at e ⊢;obtain ⟨q,e1,e2⟩:=e;exact ⟨q,h _ _ _ e1,ih q e2⟩
theorem zko (B:Bk):∀(n:Nat) (t:Task) (w:Wk) (r:BOut×Wk),brun B n t w=some r→brun B (n+1) t w=some r
 |0,_,_,_,h=>by cases h
 |n+1,t,w,r,h=>ziH (zko B n) h
theorem zgD (B:Bk) {n m:Nat} (hnm:n≤m) {t:Task} {w:Wk} {r:BOut×Wk} (h:brun B n t w=some r):brun B m t w=some r:=by
 induction hnm with
 |refl=>exact h
 |step _ ih=>exact zko B _ t w r ih
def Ends (B:Bk) (t:Task) (w:Wk):Prop:=∃n r,brun B n t w=some r
inductive EndsTm (B:Bk):Tm→Prop
 |ret (r:BOut×Wk):EndsTm B (.ret r)
 |ask (t:Task) (w:Wk) (f:BOut×Wk→Tm) (h:Ends B t w) (hf:∀n o w1,brun B n t w=some (o,w1)→EndsTm B (f (o,w1))):EndsTm B (.ask t w f)
theorem EndsTm.out {B:Bk} {t:Tm} (h:EndsTm B t):∃n r,t.eval (brun B n)=some r:=by
 induction h with
 |ret r=>exact ⟨0,r,rfl⟩
 |ask t w f h hf ih=>
  obtain ⟨n,⟨o,w1⟩,e⟩:=h;obtain ⟨m,r,e2⟩:=ih n o w1 e;refine ⟨max n m,r,?_⟩;simp only [Tm.eval,Option.bind_eq_some_iff];exact ⟨(o,w1),zgD B (Nat.le_max_left _ _) e,ziH (fun t w r h=>zgD B (Nat.le_max_right _ _) h) e2⟩
theorem Ends.of {B:Bk} {t:Task} {w:Wk} (h:EndsTm B (runS B t w)):Ends B t w:=by
 obtain ⟨n,r,e⟩:=h.out;exact ⟨n+1,r,e⟩
theorem EndsTm.all {B:Bk}:∀{t:Tm} {w0:Wk},Tm.Good Wk.lw w0 t→(∀t w1,Wk.lw w0 w1→Ends B t w1)→EndsTm B t:=by
 intro t
 induction t with
 |ret r=>intro w0 _ _;exact .ret r
 |ask t w1 f ih=>
  intro w0 g h;cases g with
  |ask _ _ _ h1 ht hf=>
   refine .ask t w1 f (h t w1 h1) fun n o w2 e=>?_;have h2:Wk.lw w1 w2:=by have:=zbI B n t w1 o w2 e;unfold Wk.le at this;unfold Wk.lw;omega
   exact ih _ (hf o w2 h2) fun t w3 h3=>h t w3 (zjD.trans _ _ _ h1 (zjD.trans _ _ _ h2 h3))
theorem zoh (B:Bk) (N:Nat) (hN:∀p r,r≤p→N<r→B.tau p r=true):∀(m:Nat) (w:Wk),N+1 - w.r≤m→w.r≤w.p→∀t,Ends B t w:=by
 intro m
 induction m with
 |zero=>exact fun w h1 h2 t=>ends_lev B N hN 0 (fun w hw=>absurd hw (by omega)) w h1 h2 t
 |succ m ih=>exact fun w h1 h2 t=>ends_lev B N hN (m+1) (fun w hw hp t=>ih w (by omega) hp t) w h1 h2 t
where
 ends_lev (B:Bk) (N:Nat) (hN:∀p r,r≤p→N<r→B.tau p r=true) (m:Nat) (ih:∀w:Wk,N+1 - w.r<m→w.r≤w.p→∀t,Ends B t w) (w:Wk) (h1:N+1 - w.r≤m) (h2:w.r≤w.p) (t:Task):Ends B t w:=by
  have ht:∀(w:Wk),N+1 - w.r≤m→w.r≤w.p→∀x s k,Ends B (.try_ x s k) w:=by
   intro w h1 h2 x s k;refine .of ?_
   show EndsTm B (if B.tau (w.p+1) (w.r+1)=true then .ret (.tired,tick w) else zaU B x s k (tick w))
   split
   ·exact .ret _
   ·rename_i hτ
    have hr:¬N<w.r+1:=fun h=>hτ (hN _ _ (by omega) h);refine EndsTm.all (w0:=tick w) (zeu zjD B x s k (zjD.refl _) (by unfold Wk.lw;simp only;omega)) fun t w1 h3=>?_;unfold Wk.lw tick at h3;simp only at h3;exact ih w1 (by omega) (by omega) t
  have up:∀{w w1:Wk} {n:Nat} {t:Task} {o:BOut},brun B n t w=some (o,w1)→N+1 - w.r≤m→w.r≤w.p→N+1 - w1.r≤m∧w1.r≤w1.p:=by
   intro w w1 n t o e a b;have:=zbI B n t w o w1 e;unfold Wk.le at this;omega
  have last:∀{t:Task} {w:Wk},Ends B t w→EndsTm B (.last t w):=fun h=>.ask _ _ _ h fun _ _ _ _=>.ret _;have hk:∀(k:List Fm) (w:Wk),N+1 - w.r≤m→w.r≤w.p→(∀s,Ends B (.go k s) w)∧∀x many s,Ends B (.turn x many s k) w:=by
   intro k;have turns:∀k:List Fm,(∀(w:Wk),N+1 - w.r≤m→w.r≤w.p→∀s,Ends B (.go k s) w)→∀(w:Wk),N+1 - w.r≤m→w.r≤w.p→∀x many s,Ends B (.turn x many s k) w:=by
    intro k hg w h1 h2 x many s;refine .of ?_
    show EndsTm B (zcn x many s k w)
    unfold zcn;split<;>split
    ·refine .ask _ _ _ (hg w h1 h2 s) fun n o w1 e=>?_
     obtain ⟨a,b⟩:=up e h1 h2;cases o<;>try exact .ret _
     show EndsTm B (if x.max<0∨many<x.max then _ else _)
     split
     ·exact last (ht w1 a b _ _ _)
     ·exact .ret _
    ·split
     ·exact last (ht w h1 h2 _ _ _)
     ·exact .ret _
    ·refine .ask _ _ _ (ht w h1 h2 _ _ _) fun n o w1 e=>?_
     obtain ⟨a,b⟩:=up e h1 h2;cases o<;>try exact .ret _
     show EndsTm B (if many≥x.min then _ else _)
     split
     ·exact last (hg w1 a b _)
     ·exact .ret _
    ·split
     ·exact last (hg w h1 h2 _)
     ·exact .ret _
   induction k with
   |nil=>
    have hg:∀(w:Wk),N+1 - w.r≤m→w.r≤w.p→∀s,Ends B (.go [] s) w:=fun w _ _ s=>.of (.ret _);exact fun w h1 h2=>⟨hg w h1 h2,turns [] hg w h1 h2⟩
   |cons f k ihk=>
    have hg:∀(w:Wk),N+1 - w.r≤m→w.r≤w.p→∀s,Ends B (.go (f::k) s) w:=by
     intro w h1 h2 s;refine .of ?_;cases f with
     |cat x n=>
      show EndsTm B (catS x n s k w)
      unfold catS;split
      ·exact last (ht w h1 h2 _ _ _)
      ·exact last ((ihk w h1 h2).1 s)
     |turn x many fr=>
      show EndsTm B (if many≥x.min∧s.at_=fr then _ else _)
      split
      ·exact .ret _
      ·exact last ((ihk w h1 h2).2 _ _ _)
     |group x fr=>exact last ((ihk w h1 h2).1 _)
     |call o=>exact last ((ihk w h1 h2).1 _)
     |stop want=>
      show EndsTm B (if want≥0∧want≠s.at_ then _ else _)
      split<;>exact .ret _
     |fin=>
      show EndsTm B (if B.stop (w.acc++[s.at_])=true then _ else _)
      split<;>exact .ret _
    exact fun w h1 h2=>⟨hg w h1 h2,turns (f::k) hg w h1 h2⟩
  cases t with
  |try_ x s k=>exact ht w h1 h2 x s k
  |go k s=>exact (hk k w h1 h2).1 s
  |turn x many s k=>exact (hk k w h1 h2).2 x many s
  |alts l s k=>
   induction l generalizing w with
   |nil=>exact .of (.ret _)
   |cons y l ihl=>
    refine .of (.ask _ _ _ (ht w h1 h2 _ _ _) fun n o w1 e=>?_)
    obtain ⟨a,b⟩:=up e h1 h2;cases o<;>try exact .ret _
    exact last (ihl w1 a b)
def Bk.quota (B:Bk) (tau:Nat→Nat→Bool):Bk:={B with tau:=tau}
theorem znx (B:Bk) (tau:Nat→Nat→Bool) (x:Pat) (s:Sg):zcU (B.quota tau) x s=zcU B x s:=rfl
theorem zob (B:Bk) (tau:Nat→Nat→Bool) (x:Pat) (s:Sg) (k:List Fm) (w:Wk) (h:¬(x.op=8∧(fstL x.l).op=6)):zaU (B.quota tau) x s k w=zaU B x s k w:=by
 unfold zaU;rw [znx];by_cases h8:x.op=8
 ·have h6:¬(fstL x.l).op=6:=fun h6=>h ⟨h8,h6⟩
  simp only [h8,h6,if_false];rfl
 ·simp only [h8,if_false]
  rfl
theorem znu (B:Bk) (x:Pat) (s:Sg) (k:List Fm) (w:Wk) (h8:x.op=8) (h6:(fstL x.l).op=6):zaU B x s k w=if B.tau (w.p+1) w.r=true then .ret (.tired,{w with p:=w.p+1})
    else .ask (.turn (fstL x.l) 0 s [.stop (-1)]) {w with p:=w.p+1} (thenS k s):=by
 unfold zaU;simp [h8,h6]
def Inv (w:Wk):Prop:=w.r≤w.p
theorem Inv.up {w w':Wk} (h:Inv w) (g:Wk.le w w'):Inv w':=by unfold Inv Wk.le at*;omega
theorem zly {rec rec':Task→Wk→BRes} (hg:∀t w o w',rec t w=some (o,w')→Wk.le w w') (h:∀t w o w',Inv w→rec t w=some (o,w')→o≠ .tired→rec' t w=some (o,w')):∀{t:Tm} {w0:Wk} {o:BOut} {w':Wk},Inv w0→Tm.Good Wk.le w0 t→t.eval rec=some (o,w')→o≠ .tired→t.eval rec'=some (o,w'):=by
 intro t
 induction t with
 |ret r=>intro w0 o w' i g e ho;exact e
 |ask t w1 f ih=>
  intro w0 o w' i g e ho;cases g with
  |ask _ _ _ h1 ht hf=>
   simp only [Tm.eval,Option.bind_eq_some_iff] at e ⊢;obtain ⟨⟨o2,w2⟩,e1,e2⟩:=e;have h2:o2≠ .tired:=by
    rintro rfl;rw [ht w2] at e2;simp only [Tm.eval,Option.some.injEq,Prod.mk.injEq] at e2;exact ho e2.1.symm
   have hl:=hg _ _ _ _ e1;exact ⟨(o2,w2),h _ _ _ _ (i.up h1) e1 h2,ih _ ((i.up h1).up hl) (hf o2 w2 hl) e2 ho⟩
theorem zif (B:Bk) (tau:Nat→Nat→Bool) (hτ:∀p r,r≤p→tau p r=true→B.tau p r=true):∀(n:Nat) (t:Task) (w:Wk) (o:BOut) (w':Wk),Inv w→brun B n t w=some (o,w')→o≠ .tired→brun (B.quota tau) n t w=some (o,w')
 |0,_,_,_,_,_,h,_=>by cases h
 |n+1,t,w,o,w',i,h,ho=>by
  have rest:∀{T:Tm} {w0:Wk},Inv w0→Tm.Good Wk.le w0 T→T.eval (brun B n)=some (o,w')→T.eval (brun (B.quota tau) n)=some (o,w'):=fun i g e=>zly (zbI B n) (zif B tau hτ n) i g e ho;have g:=znn B t w;cases t with
  |go k s=>
   show (goS (B.quota tau) s w k).eval _=_
   rw [show goS (B.quota tau) s w k=goS B s w k by cases k with|nil=>rfl|cons f k=>cases f<;>rfl]
   exact rest i g h
  |alts l s k=>exact rest i g h
  |turn x m s k=>exact rest i g h
  |try_ x s k=>
   change (if B.tau (w.p+1) (w.r+1)=true then Tm.ret (.tired,tick w) else zaU B x s k (tick w)).eval _=_ at h
   show (if tau (w.p+1) (w.r+1)=true then Tm.ret (.tired,tick w) else zaU (B.quota tau) x s k (tick w)).eval _=_
   by_cases h1:B.tau (w.p+1) (w.r+1)=true
   ·rw [if_pos h1] at h
    simp only [Tm.eval,Option.some.injEq,Prod.mk.injEq] at h;exact absurd h.1.symm ho
   have h2:¬tau (w.p+1) (w.r+1)=true:=fun h=>h1 (hτ _ _ (by unfold Inv at i;omega) h);rw [if_neg h1] at h;rw [if_neg h2];have g2:Tm.Good Wk.le w (zaU B x s k (tick w)):=zeu zeK B x s k (zmd w) (zjO w);by_cases h86:x.op=8∧(fstL x.l).op=6
   ·rw [znu _ _ _ _ _ h86.1 h86.2] at h g2 ⊢
    by_cases h3:B.tau ((tick w).p+1) (tick w).r=true
    ·rw [if_pos h3] at h
     simp only [Tm.eval,Option.some.injEq,Prod.mk.injEq] at h;exact absurd h.1.symm ho
    have h4:¬tau ((tick w).p+1) (tick w).r=true:=fun h=>h3 (hτ _ _ (by unfold Inv at i;unfold tick;simp only;omega) h);rw [if_neg h3] at h g2;rw [if_neg (by exact h4)];exact rest i g2 h
   ·rw [zob _ _ _ _ _ _ h86]
    exact rest i g2 h
def tauP (p r:Nat):Bool:=decide (p>20000)
end Go.Bk
namespace Go.Proofs.YtpopmiodjibljaaGreatDoor
open Go Go.Abs
def zdn (x:Pat):Bool:=decide ((szP x).1>60)||(decide ((szP x).2.2>12)||decide ((szP x).2.1>9))
def lenS (op:Int) (first:Bool) (a b:Int×Int):Int×Int:=
 if first then b else if op=4 then (w64 (a.1+b.1),zk2 a.2 b.2) else (if b.1<a.1 then b.1 else a.1,if a.2≥0∧(b.2<0∨b.2>a.2) then b.2 else a.2)
mutual
def lenP:Pat→Int×Int
 |.mk op _ mn mx _ _ l=>
  if op=1∨op=2∨op=3 then (1,1) else if op=10∨op=14 then (0,-1) else if op=9 then (0,0)
  else if op=6 then (zbt mn (lenH l).1,zbt mx (lenH l).2) else lenL op l true (0,0)
def lenH:List Pat→Int×Int
 |[]=>(0,0)
 |y::_=>lenP y
def lenL:Int→List Pat→Bool→Int×Int→Int×Int
 |_,[],_,a=>a
 |op,y::l,f,a=>lenL op l false (lenS op f a (lenP y))
end
theorem zbj (x:Pat):lenP x=if x.op=1∨x.op=2∨x.op=3 then (1,1) else if x.op=10∨x.op=14 then (0,-1) else if x.op=9 then (0,0)
  else if x.op=6 then (zbt x.min (lenH x.l).1,zbt x.max (lenH x.l).2) else lenL x.op x.l true (0,0):=by cases x;rw [lenP];rfl
inductive Sh:Pat→Prop
 |mk (x:Pat) (h:x.op=5∨x.op=6∨x.op=7∨x.op=8∨x.op=15→x.l≠[]) (t:∀y∈x.l,Sh y):Sh x
theorem Sh.tl {x:Pat} (h:Sh x):∀y∈x.l,Sh y:=by cases h;assumption
theorem Sh.hd {x:Pat} (h:Sh x):x.op=5∨x.op=6∨x.op=7∨x.op=8∨x.op=15→x.l≠[]:=by cases h;assumption
theorem zq1 {x:Pat} {a:Int×Int} (h:x.op=6) (hH:lenH x.l=a):lenP x=(zbt x.min a.1,zbt x.max a.2):=by rw [zbj,hH];simp [h]
theorem zoD {x:Pat}:A.ds (x.l.map Pat.cells)∈x.C:=by simp [Pat.C]
set_option maxHeartbeats 2000000 in
theorem lengths_tr (x:Pat) (hs:Sh x):PTr Tryz.prog 166 [.agg x.C] (.tup [i64 (lenP x).1,i64 (lenP x).2]):=by
 induction x using Pat.ind with|h x IH=>_
 refine PTr.of_body (N:=87) Tryz.func166 I I I ?_;refine Jo (t:=0) rfl (zbo.agg zoD (zbo.ds _)) fun hlen=>?_;rw [List.length_map] at hlen;refine ae0 (ag 2 I (J (Jf I I (zaa I) rfl I (fun _ _=>(ab (ag 8 I (J (U okL I (.head _) rfl I I I (ab (ag 2 I (Y ?_)))))))))));rename_i r _;refine AWp.join (α:=Unit) (fun _=>[(1,.ptr r 7 0 0)]) (fun _=>[(r,.row 25 7 [x.C])]) (fun _=>lenP x=lenL x.op x.l true (0,0)) ?_ fun R K hR=>?_
 ·rintro _ hl
  refine ae (ag 10 I (J (U okL I (.head _) rfl I I I (ab (ag 5 I (Y ?_))))));refine Jh (α:=Nat×Int×Int) (fun a=>x.l.length - a.1) (fun a=>[(1,.ptr r 7 0 0),(6,i64 a.2.1),(7,i64 a.2.2),(42,.ds (x.l.map Pat.cells)),(43,i64 (x.l.map Pat.cells).length),(44,i64 a.1)]) (fun _=>[(r,.row 25 7 [x.C])])
   (fun a=>a.1≤x.l.length∧lenL x.op (x.l.drop a.1) (decide ((a.1:Int)=0)) a.2=lenP x) (0,0,0) ⟨Nat.zero_le _,hl.symm⟩ ?_ (List.Perm.refl _) ?_
  ·simp only [za0]
   refine ⟨rfl,rfl,rfl,rfl,rfl,rfl,trivial⟩
  rintro ⟨k,m⟩ ⟨hk,hm⟩ ih;simp only at hk hm;refine ae0 (ag 6 rfl (Y ?_))
  (refine J1 I (fun h=>?_) (fun h=>?_))
  ·have h:=of_decide_eq_true h
   simp only [List.length_map] at h;obtain ⟨y,hy⟩:∃y,x.l[k]?=some y:=⟨x.l[k],by simp [show k<x.l.length by omega]⟩
   have nx:=nxt (k:=k) (n:=x.l.length) (by omega) hlen;rw [zaT hy,lenL] at hm;have hk1:decide (((k+1:Nat):Int)=0)=false:=decide_eq_false (by omega);have hc:=IH y (List.mem_of_getElem? hy) (hs.tl y (List.mem_of_getElem? hy));refine ae (ag 7 I (Jm okL (zai I I I I I (by omega) (getC hy) rfl) rfl (ag 1 I (J (Jb okL I I I (fun _ _=>(ab (ag 1 I (J (J4 okL I I I (zaa I) rfl I I .here I I I (ab (ag 4 I (J (U okL I (.head _) rfl I I I (ab (J (J7 I I I (hc) (ab (ag 15 I (Y ?_))))))))))))))))))));refine J1 I (fun h=>?_) (fun h=>?_)
   ·refine ae (ag 13 I (O (zap ?_)))
    (refine AIn.nextN 1 (ih ((k+1,lenS x.op (decide ((k:Int)=0)) m (lenP y))) (⟨by omega,by simp only [hk1];exact hm⟩) (by omega)) ?_ rfl;repeat (first|exact trivial|refine ⟨rfl,?_⟩|refine ⟨congrArg some nx,?_⟩|refine ⟨congrArg (fun v=>some (A.int .i64 v)) (by clear ih IH hc hm;simp_all [lenS,w64]<;>omega),?_⟩))
   ·refine ae (ag 3 I (J (U okL I (.tail _ (.head _)) I I I I (ab (ag 4 I (Y ?_))))))
    refine J1 I (fun h=>?_) (fun h=>?_)
    ·refine ae (ag 6 I (J (J7 I I I (zpW _ _) (ab (ag 10 I (O (zap ?_)))))))
     (refine AIn.nextN 1 (ih ((k+1,lenS x.op (decide ((k:Int)=0)) m (lenP y))) (⟨by omega,by simp only [hk1];exact hm⟩) (by omega)) ?_ rfl;repeat (first|exact trivial|refine ⟨rfl,?_⟩|refine ⟨congrArg some nx,?_⟩|refine ⟨congrArg (fun v=>some (A.int .i64 v)) (by clear ih IH hc hm;simp_all [lenS,w64]<;>omega),?_⟩))
    ·refine ae (ag 13 I (J3 ?_))
     refine J6 I I I (fun h=>?_) (fun h=>?_)
     ·refine ab (ag 3 I (J3 ?_))
      refine J6 I I I (fun h=>?_) (fun h=>?_)
      ·refine ab (ag 19 I (O (zap ?_)))
       (refine AIn.nextN 1 (ih ((k+1,lenS x.op (decide ((k:Int)=0)) m (lenP y))) (⟨by omega,by simp only [hk1];exact hm⟩) (by omega)) ?_ rfl;repeat (first|exact trivial|refine ⟨rfl,?_⟩|refine ⟨congrArg some nx,?_⟩|refine ⟨congrArg (fun v=>some (A.int .i64 v)) (by clear ih IH hc hm;simp_all [lenS,w64]<;>omega),?_⟩))
      ·refine ab (ag 7 I (Y ?_))
       refine J1 I (fun h=>?_) (fun h=>?_)
       ·refine ae (ag 11 I (O (zap ?_)))
        (refine AIn.nextN 1 (ih ((k+1,lenS x.op (decide ((k:Int)=0)) m (lenP y))) (⟨by omega,by simp only [hk1];exact hm⟩) (by omega)) ?_ rfl;repeat (first|exact trivial|refine ⟨rfl,?_⟩|refine ⟨congrArg some nx,?_⟩|refine ⟨congrArg (fun v=>some (A.int .i64 v)) (by clear ih IH hc hm;simp_all [lenS,w64]<;>omega),?_⟩))
       ·refine ae (ag 8 I (O (zap ?_)))
        (refine AIn.nextN 1 (ih ((k+1,lenS x.op (decide ((k:Int)=0)) m (lenP y))) (⟨by omega,by simp only [hk1];exact hm⟩) (by omega)) ?_ rfl;repeat (first|exact trivial|refine ⟨rfl,?_⟩|refine ⟨congrArg some nx,?_⟩|refine ⟨congrArg (fun v=>some (A.int .i64 v)) (by clear ih IH hc hm;simp_all [lenS,w64]<;>omega),?_⟩))
     ·refine ab (ag 19 I (O (zap ?_)))
      (refine AIn.nextN 1 (ih ((k+1,lenS x.op (decide ((k:Int)=0)) m (lenP y))) (⟨by omega,by simp only [hk1];exact hm⟩) (by omega)) ?_ rfl;repeat (first|exact trivial|refine ⟨rfl,?_⟩|refine ⟨congrArg some nx,?_⟩|refine ⟨congrArg (fun v=>some (A.int .i64 v)) (by clear ih IH hc hm;simp_all [lenS,w64]<;>omega),?_⟩))
  ·have h:=of_decide_eq_false h
   simp only [List.length_map] at h;rw [List.drop_eq_nil_of_le (by omega),lenL] at hm;refine ae (ag 2 I (O (ae (ag 9 I (O ?_)))));refine zab (Ji I I I) ?_;rw [←hm]
 ·have hR':=hR .ret
  cases hxl:x.l with
  |nil=>
   refine ae0 (ag 8 I (Y ?_));refine J1 I (fun h=>?_) (fun h=>?_)
   ·refine ae (ag 11 I (O ?_))
    (refine hR _ _ _ (by intro h;cases h) ?_;refine zab (Ji I I I) ?_;clear K hR hR' IH;rw [zbj];simp_all;done)
   ·refine ae (ag 6 I (Y ?_))
    refine J1 I (fun h=>?_) (fun h=>?_)
    ·refine ae (ag 11 I (O ?_))
     (refine hR _ _ _ (by intro h;cases h) ?_;refine zab (Ji I I I) ?_;clear K hR hR' IH;rw [zbj];simp_all;done)
    ·refine ae (ag 5 I (Y ?_))
     refine J1 I (fun h=>?_) (fun h=>?_)
     ·refine ae (ag 8 I (O ?_))
      (refine hR _ _ _ (by intro h;cases h) ?_;refine zab (Ji I I I) ?_;clear K hR hR' IH;rw [zbj];simp_all;done)
     ·refine ae (ag 7 I (Y ?_))
      refine J1 I (fun h=>?_) (fun h=>?_)
      ·refine ae (ag 11 I (O ?_))
       (refine hR _ _ _ (by intro h;cases h) ?_;refine zab (Ji I I I) ?_;clear K hR hR' IH;rw [zbj];simp_all;done)
      ·refine ae (ag 5 I (Y ?_))
       refine J1 I (fun h=>?_) (fun h=>?_)
       ·refine ae (ag 8 I (O ?_))
        (refine hR _ _ _ (by intro h;cases h) ?_;refine zab (Ji I I I) ?_;clear K hR hR' IH;rw [zbj];simp_all;done)
       ·refine ae (ag 6 I (Y ?_))
        refine J1 I (fun h=>?_) (fun h=>?_)
        ·refine ae (ag 8 I (O ?_))
         (refine hR _ _ _ (by intro h;cases h) ?_;refine zab (Ji I I I) ?_;clear K hR hR' IH;rw [zbj];simp_all;done)
        ·refine ae (ag 6 I (Y ?_))
         refine J1 I (fun h=>?_) (fun h=>?_)
         ·refine ae (ag 3 I (J (U okL I (.head _) rfl I I I (ab (J3 (ab (J3 ?_)))))))
          (exfalso;exact hs.hd (by simp_all) hxl)
         ·refine ae (ag 2 I (O ?_))
          (refine K () ?_ 0 _ _ ⟨rfl,trivial⟩ rfl;clear K hR hR' IH;rw [zbj];simp_all;done)
  |cons y0 l0=>
   have hy0:y0∈x.l:=by rw [hxl];exact List.mem_cons_self
   have hc:=IH y0 hy0 (hs.tl y0 hy0);have hH:lenH x.l=lenP y0:=by rw [hxl];rfl
   have hg:x.l[0]?=some y0:=by rw [hxl];rfl
   refine ae0 (ag 8 I (Y ?_));refine J1 I (fun h=>?_) (fun h=>?_)
   ·refine ae (ag 11 I (O ?_))
    (refine hR _ _ _ (by intro h;cases h) ?_;refine zab (Ji I I I) ?_;clear K hR hR' IH hc;rw [zbj];simp_all;done)
   ·refine ae (ag 6 I (Y ?_))
    refine J1 I (fun h=>?_) (fun h=>?_)
    ·refine ae (ag 11 I (O ?_))
     (refine hR _ _ _ (by intro h;cases h) ?_;refine zab (Ji I I I) ?_;clear K hR hR' IH hc;rw [zbj];simp_all;done)
    ·refine ae (ag 5 I (Y ?_))
     refine J1 I (fun h=>?_) (fun h=>?_)
     ·refine ae (ag 8 I (O ?_))
      (refine hR _ _ _ (by intro h;cases h) ?_;refine zab (Ji I I I) ?_;clear K hR hR' IH hc;rw [zbj];simp_all;done)
     ·refine ae (ag 7 I (Y ?_))
      refine J1 I (fun h=>?_) (fun h=>?_)
      ·refine ae (ag 11 I (O ?_))
       (refine hR _ _ _ (by intro h;cases h) ?_;refine zab (Ji I I I) ?_;clear K hR hR' IH hc;rw [zbj];simp_all;done)
      ·refine ae (ag 5 I (Y ?_))
       refine J1 I (fun h=>?_) (fun h=>?_)
       ·refine ae (ag 8 I (O ?_))
        (refine hR _ _ _ (by intro h;cases h) ?_;refine zab (Ji I I I) ?_;clear K hR hR' IH hc;rw [zbj];simp_all;done)
       ·refine ae (ag 6 I (Y ?_))
        refine J1 I (fun h=>?_) (fun h=>?_)
        ·refine ae (ag 8 I (O ?_))
         (refine hR _ _ _ (by intro h;cases h) ?_;refine zab (Ji I I I) ?_;clear K hR hR' IH hc;rw [zbj];simp_all;done)
        ·refine ae (ag 6 I (Y ?_))
         refine J1 I (fun h=>?_) (fun h=>?_)
         ·refine ae (ag 3 I (J (U okL I (.head _) rfl I I I (ab (Jm okL (zai I I I I I (Int.le_refl _) (getC hg) rfl) rfl (ag 1 I (J (J7 I I I (hc) (ab (ag 8 I (AC.drawn okL hmix (by kernel_rfl) (ag 1 I (Jj (Pl.quiet I I I (U okL I (.head _) rfl I I I (J8 (Qn_n ⟨rfl,rfl⟩))) (ap (ag 1 I (Jj (Pl.quiet I I I (J7 I I I (zjH _ _) (J8 (Qn_n ⟨rfl,rfl⟩))) (ap (ag 1 I (Jj (Pl.quiet I I I (U okL I (.head _) rfl I I I (J8 (Qn_n ⟨rfl,rfl⟩))) (ap (ag 1 I (Jj (Pl.quiet I I I (J7 I I I (zjH _ _) (J8 (Qn_n ⟨rfl,rfl⟩))) (ap (ag 6 I (O ?_)))))))))))))))))))))))))))))
          (refine hR _ _ _ (by intro h;cases h) ?_;refine zab (Ji I I I) ?_;rw [zq1 (by simpa using h) hH];done)
         ·refine ae (ag 2 I (O ?_))
          (refine K () ?_ 0 _ _ ⟨rfl,trivial⟩ rfl;clear K hR hR' IH hc;rw [zbj];simp_all;done)
def zjy (a b:Int×Int):Int×Int:=(w64 (a.1+b.1),if b.2<0∨a.2<0 then -1 else w64 (a.2+b.2))
def altS (a b:Int×Int):Int×Int:=(if b.1<a.1 then b.1 else a.1,if b.2<0∨a.2<0 then -1 else if b.2>a.2 then b.2 else a.2)
mutual
def spanP:Pat→Int×Int
 |.mk op _ mn mx _ _ l=>
  if op=1∨op=2∨op=3 then (1,1) else if op=7∨op=8 then zd3 l else if op=10∨op=14 then (0,-1)
  else if op=6 then (if (zd3 l).2=0 then (0,0) else if (zd3 l).2<0∨mx<0 then (w64 ((zd3 l).1*mn),-1) else (w64 ((zd3 l).1*mn),w64 ((zd3 l).2*mx)))
  else if op=4 then zeM l (0,0) else if op=5∨op=15 then zqz l else (0,0)
def zd3:List Pat→Int×Int
 |[]=>(0,0)
 |y::_=>spanP y
def zeM:List Pat→Int×Int→Int×Int
 |[],a=>a
 |y::l,a=>zeM l (zjy a (spanP y))
def zlu:List Pat→Int×Int→Int×Int
 |[],a=>a
 |y::l,a=>zlu l (altS a (spanP y))
def zqz:List Pat→Int×Int
 |[]=>(0,0)
 |y::l=>zlu l (spanP y)
end
theorem zoe (x:Pat):spanP x=if x.op=1∨x.op=2∨x.op=3 then (1,1) else if x.op=7∨x.op=8 then zd3 x.l else if x.op=10∨x.op=14 then (0,-1)
  else if x.op=6 then (if (zd3 x.l).2=0 then (0,0) else if (zd3 x.l).2<0∨x.max<0 then (w64 ((zd3 x.l).1*x.min),-1) else (w64 ((zd3 x.l).1*x.min),w64 ((zd3 x.l).2*x.max)))
  else if x.op=4 then zeM x.l (0,0) else if x.op=5∨x.op=15 then zqz x.l else (0,0):=by cases x;rw [spanP];rfl
end Go.Proofs.YtpopmiodjibljaaGreatDoor
namespace Go.Bk
open Go Go.Abs
def zhW (g:Int) (x:Pat):Prop:=
 (x.op=4∨x.op=5→2≤x.l.length∧x.l.length≤60)∧(x.op=6∨x.op=7∨x.op=8∨x.op=9→∃y,x.l=[y])∧(x.op=15→∃y z,x.l=[y,z])∧
 (x.op=7∨x.op=10∨x.op=15→1≤x.n∧x.n≤g)∧(x.op=14→0≤x.n∧x.n≤g)∧
 (x.op=6→0≤x.n∧x.n≤2∧0≤x.min∧x.min≤20∧(x.max=-1∨1≤x.max∧x.min≤x.max∧x.max≤20))∧
 (x.op=17→0≤x.n∧x.n≤9)∧(x.op=9→0≤x.n∧x.n≤3)∧(x.op=16→0≤x.n∧x.n≤2)∧(x.op=13∨x.op=3→0≤x.n∧x.n≤1)
def chQ (c:Int):Prop:=0≤c∧c≤1114111∧(c<55296∨c>57343)
def SetQ (l:List (Int×Int)):Prop:=(∀x∈l,chQ x.1∧chQ x.2∧x.1≤x.2)∧l≠[]∧l.length≤40
def LenQ (x:Pat):Prop:=Go.Proofs.YtpopmiodjibljaaGreatDoor.Sh x∧0≤(Go.Proofs.YtpopmiodjibljaaGreatDoor.lenP x).1∧(Go.Proofs.YtpopmiodjibljaaGreatDoor.lenP x).1≤1000000000000000000∧Go.Proofs.YtpopmiodjibljaaGreatDoor.spanP x=Go.Proofs.YtpopmiodjibljaaGreatDoor.lenP x
inductive Vd (g:Int):Pat→Prop
 |mk (x:Pat) (ho:0≤x.op∧x.op≤18) (hs:zhW g x) (hc:∀y∈x.l,Vd g y) (h3:x.op=3→SetQ x.set) (h1:x.op=1→chQ x.n) (hl:LenQ x):Vd g x
theorem Vd.op {g:Int} {x:Pat} (h:Vd g x):0≤x.op∧x.op≤18:=by cases h;assumption
theorem Vd.shape {g:Int} {x:Pat} (h:Vd g x):zhW g x:=by cases h;assumption
theorem Vd.sub {g:Int} {x y:Pat} (h:Vd g x) (hy:y∈x.l):Vd g y:=by cases h with|mk _ _ _ hc _ _ _=>exact hc y hy
theorem Vd.set {g:Int} {x:Pat} (h:Vd g x) (h3:x.op=3):SetQ x.set:=by cases h with|mk _ _ _ _ k _ _=>exact k h3
theorem Vd.len {g:Int} {x:Pat} (h:Vd g x):LenQ x:=by cases h with|mk _ _ _ _ _ _ k=>exact k
structure SOk (N:Nat) (s:Sg):Prop where
 at0:0≤s.at_
 atN:s.at_≤N
 kp:0≤s.keep∧s.keep≤N
 len:s.caps.length=10
 cap:∀c∈s.caps,(c.1=-1∧c.2=-1)∨(0≤c.1∧c.1≤c.2∧c.2≤N)
 calls:s.calls.length≤20
def FOk (g:Int) (N:Nat) (p:Nat):Fm→Prop
 |.cat x n=>Vd g x∧1≤n∧n≤x.l.length
 |.turn x many fr=>Vd g x∧x.op=6∧0≤many∧many+1≤p∧(0≤x.max→many<x.max)∧0≤fr∧fr≤N
 |.group x fr=>Vd g x∧x.op=7∧0≤fr∧fr≤N
 |.call s=>SOk N s
 |.stop want=>-1≤want∧want≤N
 |.fin=>True
def KOk (g:Int) (N p:Nat) (k:List Fm):Prop:=∀f∈k,FOk g N p f
def zeN:Fm→Bool
 |.stop _=>true
 |.fin=>true
 |_=>false
def KB:List Fm→Prop
 |[]=>False
 |[f]=>zeN f=true
 |f::k=>zeN f=false∧KB k
def GB (a:Int) (k:List Fm):Prop:=∀x fr,Fm.group x fr∈k→fr≤a
theorem FOk.mono {g:Int} {N p q:Nat} {f:Fm} (h:FOk g N p f) (hq:p≤q):FOk g N q f:=by
 cases f<;>simp only [FOk] at*<;>first|exact h|(obtain ⟨h1,h2,h3,h4,h5⟩:=h;exact ⟨h1,h2,h3,by omega,h5⟩)
theorem KOk.mono {g:Int} {N p q:Nat} {k:List Fm} (h:KOk g N p k) (hq:p≤q):KOk g N q k:=fun f hf=>(h f hf).mono hq
theorem GB.mono {a b:Int} {k:List Fm} (h:GB a k) (hb:a≤b):GB b k:=fun x fr hf=>Int.le_trans (h x fr hf) hb
theorem KB.cons {f:Fm} {k:List Fm} (h:KB k) (hf:zeN f=false):KB (f::k):=by
 cases k with
 |nil=>exact h.elim
 |cons a k=>exact ⟨hf,h⟩
theorem KB.tail {f:Fm} {k:List Fm} (h:KB (f::k)) (hf:zeN f=false):KB k:=by
 cases k with
 |nil=>simp only [KB] at h;rw [hf] at h;cases h
 |cons a k=>exact h.2
theorem zcH:∀{k:List Fm} {f:Fm},f∈barr k→f∈k
 |[],f,h=>h
 |.call s::k,f,h=>h
 |.stop w::k,f,h=>h
 |.fin::k,f,h=>h
 |.cat _ _::k,f,h=>List.mem_cons_of_mem _ (zcH (k:=k) h)
 |.turn _ _ _::k,f,h=>List.mem_cons_of_mem _ (zcH (k:=k) h)
 |.group _ _::k,f,h=>List.mem_cons_of_mem _ (zcH (k:=k) h)
theorem zhg:∀{k:List Fm},KB k→KB (barr k)
 |[],h=>h
 |.call s::k,h=>h
 |.stop w::k,h=>h
 |.fin::k,h=>h
 |.cat _ _::k,h=>zhg (k:=k) (h.tail I)
 |.turn _ _ _::k,h=>zhg (k:=k) (h.tail I)
 |.group _ _::k,h=>zhg (k:=k) (h.tail I)
theorem zgu:∀{k:List Fm},KB k→1≤lvl k
 |[],h=>h.elim
 |.call s::k,h=>by simp [lvl]
 |.stop w::k,h=>by simp [lvl]
 |.fin::k,h=>by simp [lvl]
 |.cat _ _::k,h=>zgu (k:=k) (h.tail I)
 |.turn _ _ _::k,h=>zgu (k:=k) (h.tail I)
 |.group _ _::k,h=>zgu (k:=k) (h.tail I)
theorem zdZ:∀k:List Fm,lvl (barr k)=lvl k
 |[]=>rfl
 |.call s::k=>rfl
 |.stop w::k=>rfl
 |.fin::k=>rfl
 |.cat _ _::k=>zdZ k
 |.turn _ _ _::k=>zdZ k
 |.group _ _::k=>zdZ k
def Task.s:Task→Sg
 |.try_ _ s _=>s
 |.go _ s=>s
 |.alts _ s _=>s
 |.turn _ _ s _=>s
def Task.k:Task→List Fm
 |.try_ _ _ k=>k
 |.go k _=>k
 |.alts _ _ k=>k
 |.turn _ _ _ k=>k
def Task.up:Task→Nat
 |.try_ .. =>1
 |.alts .. =>1
 |_=>0
structure TOk (g:Int) (N:Nat) (t:Task) (w:Wk):Prop where
 s:SOk N t.s
 k:KOk g N (w.p+t.up) t.k
 b:KB t.k
 gb:GB t.s.at_ t.k
 x:match t with
  |.try_ x _ _=>Vd g x
  |.go _ _=>True
  |.alts l _ _=>∀y∈l,Vd g y
  |.turn x many _ _=>Vd g x∧x.op=6∧0≤many∧many≤w.p∧(0≤x.max→many≤x.max)
structure BOk (g:Int) (N:Nat) (B:Bk):Prop where
 takes:∀(x:Pat) (a:Int),Vd g x→0≤a→a≤N→B.takes x a=true→a<N
 copied:∀(c:Int×Int) (a:Int),0≤a→a≤N→((c.1=-1∧c.2=-1)∨(0≤c.1∧c.1≤c.2∧c.2≤(N:Int)))→a+B.copied c a≤N
 least:∀x,Vd g x→0≤B.least x
 body:∀n,0≤n→n≤g→Vd g (B.body n)
 g9:g≤9
def zaD (B:Bk) (w:Wk):Prop:=B.tau w.p w.r=false
structure ROk (N:Nat) (B:Bk) (a:Int) (c:Nat) (w:Wk) (o:BOut) (w':Wk):Prop where
 le:Wk.le w w'
 fr:o≠ .tired→zaD B w'
 yes:∀e,o=.yes e→SOk N e∧a≤e.at_
 cut:∀j,o=.cut j→1≤j∧j≤c
inductive Tm.Ok (g:Int) (N:Nat) (B:Bk) (a:Int) (c:Nat):Tm→Prop
 |ret (o:BOut) (w:Wk) (hf:o≠ .tired→zaD B w) (hy:∀e,o=.yes e→SOk N e∧a≤e.at_) (hc:∀j,o=.cut j→1≤j∧j≤c):Tm.Ok g N B a c (.ret (o,w))
 |ask (t:Task) (w:Wk) (f:BOut×Wk→Tm) (ht:TOk g N t w) (hw:zaD B w) (hf:∀o w',ROk N B t.s.at_ (lvl t.k) w o w'→Tm.Ok g N B a c (f (o,w'))):Tm.Ok g N B a c (.ask t w f)
section
variable {g:Int} {N:Nat} {B:Bk}
theorem Tm.Ok.last {t:Task} {w:Wk} {a:Int} {c:Nat} (ht:TOk g N t w) (hw:zaD B w) (ha:a≤t.s.at_) (hc:lvl t.k≤c):Tm.Ok g N B a c (.last t w):=
 .ask t w _ ht hw fun o w' r=>.ret o w' r.fr (fun e he=>⟨(r.yes e he).1,Int.le_trans ha (r.yes e he).2⟩) fun j hj=>⟨(r.cut j hj).1,Nat.le_trans (r.cut j hj).2 hc⟩
theorem Tm.Ok.no {w:Wk} {a:Int} {c:Nat} (hw:zaD B w):Tm.Ok g N B a c (.ret (.no,w)):=.ret _ _ (fun _=>hw) (fun e h=>by cases h) fun j h=>by cases h
theorem Tm.Ok.tired {w:Wk} {a:Int} {c:Nat}:Tm.Ok g N B a c (.ret (.tired,w)):=.ret _ _ (fun h=>absurd I h) (fun e h=>by cases h) fun j h=>by cases h
theorem Tm.Ok.cut {w:Wk} {a:Int} {c j:Nat} (hw:zaD B w) (h1:1≤j) (h2:j≤c):Tm.Ok g N B a c (.ret (.cut j,w)):=.ret _ _ (fun _=>hw) (fun e h=>by cases h) fun i h=>by cases h;exact ⟨h1,h2⟩
theorem zel {l:List Pat} (h:∃y,l=[y]):fstL l∈l:=by obtain ⟨y,rfl⟩:=h;exact List.mem_cons_self
theorem KOk.cons {p:Nat} {f:Fm} {k:List Fm} (h:KOk g N p k) (hf:FOk g N p f):KOk g N p (f::k):=fun a ha=>by
 rcases List.mem_cons.1 ha with rfl|ha
 ·exact hf
 ·exact h a ha
theorem GB.cons {a:Int} {f:Fm} {k:List Fm} (h:GB a k) (hf:∀x fr,f=.group x fr→fr≤a):GB a (f::k):=fun x fr ha=>by
 rcases List.mem_cons.1 ha with e|ha
 ·exact hf x fr e.symm
 ·exact h x fr ha
theorem GB.stop {a:Int} {w:Int}:GB a [.stop w]:=fun x fr h=>by simp at h
theorem zpl {s:Sg} (h:SOk N s) (n:Int) (h0:0≤n) (h9:n≤9):capN s n∈s.caps:=by
 unfold capN;have hl:=h.len;rw [List.getD_eq_getElem?_getD,List.getElem?_eq_getElem (by omega),Option.getD_some];exact List.getElem_mem _
theorem SOk.setCap {s:Sg} (h:SOk N s) {i:Nat} {fr:Int} (h0:0≤fr) (h1:fr≤s.at_):SOk N {s with caps:=s.caps.set i (fr,s.at_)}:=
 ⟨h.at0,h.atN,h.kp,by simpa using h.len,fun c hc=>by
  rcases List.mem_or_eq_of_mem_set hc with hc|rfl
  ·exact h.cap c hc
  ·exact .inr ⟨h0,h1,h.atN⟩,h.calls⟩
theorem SOk.atTo {s:Sg} (h:SOk N s) {a:Int} (h0:0≤a) (h1:a≤N):SOk N {s with at_:=a}:=⟨h0,h1,h.kp,h.len,h.cap,h.calls⟩
theorem zfl {w0 w:Wk} {o:BOut} {s:Sg} {k:List Fm} (hs:SOk N s) (hk:KOk g N w0.p k) (hb:KB k) (hg:GB s.at_ k) {c:Nat} (r:ROk N B s.at_ c w0 o w):Tm.Ok g N B s.at_ (lvl k) (thenS k s (o,w)):=by
 cases o with
 |no=>exact .no (r.fr (by simp))
 |cut j=>exact .no (r.fr (by simp))
 |tired=>exact .tired
 |yes e=>
  obtain ⟨h1,h2⟩:=r.yes e rfl;exact .last (t:=.go k _) ⟨⟨h1.at0,h1.atN,h1.kp,h1.len,h1.cap,hs.calls⟩,hk.mono (by have:=r.le;unfold Wk.le at this;show w0.p≤w.p+0;omega),hb,hg.mono h2,trivial⟩ (r.fr (by simp)) h2 (Nat.le_refl _)
theorem zkd {w0 w:Wk} {o:BOut} {x:Pat} {s:Sg} {k:List Fm} {a:Int} (hs:SOk N s) (hk:KOk g N w0.p k) (hb:KB k) (hg:GB s.at_ k) {c:Nat} (r:ROk N B a c w0 o w):Tm.Ok g N B s.at_ (lvl k) (zbl x k s (o,w)):=by
 have hp:w0.p≤w.p+0:=by have:=r.le;unfold Wk.le at this;omega
 have go:o≠ .tired→∀s',SOk N s'→s'.at_=s.at_→Tm.Ok g N B s.at_ (lvl k) (.last (.go k s') w):=fun ho s' h1 h2=>.last (t:=.go k _) ⟨h1,hk.mono hp,hb,hg.mono (Int.le_of_eq h2.symm),trivial⟩ (r.fr ho) (Int.le_of_eq h2.symm) (Nat.le_refl _);cases o with
 |no=>simp only [zbl];split;exact .no (r.fr (by simp));exact go (by simp) s hs rfl
 |cut j=>simp only [zbl];split;exact .no (r.fr (by simp));exact go (by simp) s hs rfl
 |tired=>exact .tired
 |yes e=>
  obtain ⟨h1,h2⟩:=r.yes e rfl;simp only [zbl];split
  ·exact go (by simp) _ ⟨hs.at0,hs.atN,hs.kp,h1.len,h1.cap,hs.calls⟩ rfl
  ·exact .no (r.fr (by simp))
theorem zkt {w0 w:Wk} {o:BOut} {a b:Int} {c:Nat} (hb:b≤a) (r:ROk N B a c w0 o w):Tm.Ok g N B b c (.ret (o,w)):=.ret o w r.fr (fun e he=>⟨(r.yes e he).1,Int.le_trans hb (r.yes e he).2⟩) r.cut
theorem znK {w0 w:Wk} {o:BOut} {k:List Fm} {a:Int} (r:ROk N B a (lvl k+1) w0 o w):Tm.Ok g N B a (lvl k) (zef k (o,w)):=by
 cases o with
 |cut j=>
  simp only [zef];split
  ·exact .no (r.fr (by simp))
  ·have:=r.cut j I
   exact .cut (r.fr (by simp)) this.1 (by omega)
 |no=>exact .no (r.fr (by simp))
 |yes e=>exact .ret _ _ r.fr r.yes fun j h=>by cases h
 |tired=>exact .tired
theorem zoZ {w0 w:Wk} {o:BOut} {k:List Fm} {a:Int} (hb:KB k) (r:ROk N B a (lvl k) w0 o w):Tm.Ok g N B a (lvl k) (zhn k (o,w)):=by
 cases o with
 |no=>exact .cut (r.fr (by simp)) (zgu hb) (Nat.le_refl _)
 |cut j=>exact zkt (Int.le_refl _) r
 |yes e=>exact zkt (Int.le_refl _) r
 |tired=>exact .tired
theorem zhe {w0 w:Wk} {o:BOut} {f:Wk→Tm} {a:Int} {c:Nat} (r:ROk N B a c w0 o w) (hf:zaD B w→Wk.le w0 w→Tm.Ok g N B a c (f w)):Tm.Ok g N B a c (zeD f (o,w)):=by
 cases o with
 |no=>exact hf (r.fr (by simp)) r.le
 |cut j=>exact zkt (Int.le_refl _) r
 |yes e=>exact zkt (Int.le_refl _) r
 |tired=>exact .tired
theorem zlQ {x:Pat} {n:Nat} {s:Sg} {k:List Fm} {w:Wk} (hw:zaD B w) (hx:Vd g x) (hs:SOk N s) (hk:KOk g N w.p k) (hb:KB k) (hg:GB s.at_ k):Tm.Ok g N B s.at_ (lvl k) (catS x n s k w):=by
 unfold catS;split
 ·rename_i y hy
  have hn:=(List.getElem?_eq_some_iff.1 hy).1;exact .last (t:=.try_ y s _) ⟨hs,(hk.mono (Nat.le_succ _)).cons ⟨hx,by omega,by omega⟩,hb.cons I,hg.cons fun x fr h=>by (cases h),hx.sub (List.mem_of_getElem? hy)⟩ hw (Int.le_refl _) (Nat.le_refl _)
 ·exact .last (t:=.go k s) ⟨hs,hk,hb,hg,trivial⟩ hw (Int.le_refl _) (Nat.le_refl _)
theorem zj4 {x:Pat} {many:Int} {s:Sg} {k:List Fm} {w:Wk} (hw:zaD B w) (h:TOk g N (.turn x many s k) w):Tm.Ok g N B s.at_ (lvl k) (zcn x many s k w):=by
 obtain ⟨hx,h6,hm0,hmp,hmx⟩:=h.x;obtain ⟨hs,hk,hb,hg,_⟩:=h;simp only [Task.s,Task.k,Task.up,Nat.add_zero] at hs hk hb hg;have sh:=hx.shape;have more:∀w1,Wk.le w w1→zaD B w1→Tm.Ok g N B s.at_ (lvl k) (if x.max<0∨many<x.max then .last (.try_ (fstL x.l) s (.turn x many s.at_::k)) w1 else .ret (.no,w1)):=fun w1 hl hf=>by
  have hp:w.p≤w1.p:=by unfold Wk.le at hl;omega
  split
  ·rename_i hc
   exact .last (t:=.try_ _ s _) ⟨hs,(hk.mono (by show w.p≤w1.p+1;omega)).cons ⟨hx,h6,hm0,by show many+1≤((w1.p+1:Nat):Int);omega,fun h0=>by omega,hs.at0,hs.atN⟩,hb.cons I,hg.cons fun x fr h=>by (cases h),hx.sub (zel (sh.2.1 (.inl h6)))⟩ hf (Int.le_refl _) (Nat.le_refl _)
  ·exact .no hf
 have enough:∀w1,Wk.le w w1→zaD B w1→TOk g N (.go k s) w1:=fun w1 hl hf=>⟨hs,hk.mono (by show w.p≤w1.p+0;unfold Wk.le at hl;omega),hb,hg,trivial⟩
 have endk:∀w1,Wk.le w w1→zaD B w1→Tm.Ok g N B s.at_ (lvl k) (if many≥x.min then .last (.go k s) w1 else .ret (.no,w1)):=fun w1 hl hf=>by
  split
  ·exact .last (enough w1 hl hf) hf (Int.le_refl _) (Nat.le_refl _)
  ·exact .no hf
 unfold zcn;split<;>split
 ·exact .ask _ _ _ (enough w (zeK.refl w) hw) hw fun o w1 r=>zhe r fun hf hl=>more w1 hl hf
 ·exact more w (zeK.refl w) hw
 ·rename_i hc
  refine .ask (.try_ _ s _) _ _ ⟨hs,(hk.mono (Nat.le_succ _)).cons ⟨hx,h6,hm0,by show many+1≤((w.p+1:Nat):Int);omega,fun h0=>by omega,hs.at0,hs.atN⟩,hb.cons I,hg.cons fun x fr h=>by (cases h),hx.sub (zel (sh.2.1 (.inl h6)))⟩ hw fun o w1 r=>zhe r fun hf hl=>endk w1 hl hf
 ·exact endk w (zeK.refl w) hw
theorem zn3 {x:Pat} (h:LenQ x):LenQ (zcP x):=by
 obtain ⟨h1,h2,h3,h4⟩:=h;have e2:Go.Proofs.YtpopmiodjibljaaGreatDoor.spanP (zcP x)=Go.Proofs.YtpopmiodjibljaaGreatDoor.spanP x:=by
  cases x;simp only [zcP,Pat.op,Pat.min,Pat.max,Pat.name,Pat.set,Pat.l,Go.Proofs.YtpopmiodjibljaaGreatDoor.spanP]
 have e:Go.Proofs.YtpopmiodjibljaaGreatDoor.lenP (zcP x)=Go.Proofs.YtpopmiodjibljaaGreatDoor.lenP x:=by
  cases x;simp only [zcP,Pat.op,Pat.min,Pat.max,Pat.name,Pat.set,Pat.l,Go.Proofs.YtpopmiodjibljaaGreatDoor.lenP]
 exact ⟨.mk _ h1.hd h1.tl,by rw [e];exact h2,by rw [e];exact h3,by rw [e,e2];exact h4⟩
theorem zqQ {x:Pat} (hx:Vd g x) (h6:x.op=6):Vd g (zcP x):=by
 have sh:=hx.shape;refine .mk _ hx.op ?_ (fun y hy=>hx.sub hy) (fun h=>by rw [show (zcP x).op=x.op from rfl] at h;omega) (fun h=>by rw [show (zcP x).op=x.op from rfl] at h;omega) (zn3 hx.len)
 unfold zhW at*;simp only [zcP,Pat.op,Pat.l,Pat.n,Pat.min,Pat.max] at*;have h6':x.op=6:=h6;cases x with|mk op n mn mx nm st l=>
 simp only [Pat.op,Pat.l,Pat.n,Pat.min,Pat.max] at*;subst h6';have:=sh.2.2.2.2.2.1 rfl;refine ⟨fun h=>by omega,fun _=>sh.2.1 (.inl rfl),fun h=>by omega,fun h=>by omega,fun h=>by omega,fun _=>⟨by omega,by omega,this.2.2⟩,fun h=>by omega,fun h=>by omega,fun h=>by omega,fun h=>by omega⟩
end
section
variable {g:Int} {N:Nat} {B:Bk}
theorem Tm.Ok.ite {a:Int} {n:Nat} {c:Prop} [Decidable c] {x y:Tm} (hx:c→Tm.Ok g N B a n x) (hy:¬c→Tm.Ok g N B a n y):Tm.Ok g N B a n (if c then x else y):=by
 split<;>rename_i h
 ·exact hx h
 ·exact hy h
theorem zhV {w:Int}:KB [Fm.stop w]:=rfl
theorem KOk.stop {p:Nat} {a:Int} (h1:-1≤a) (h2:a≤N):KOk g N p [Fm.stop a]:=fun f hf=>by rw [List.mem_singleton.1 hf];exact ⟨h1,h2⟩
theorem zjU (hB:BOk g N B) {x:Pat} {s:Sg} {k:List Fm} {w:Wk} (hw:zaD B w) (hx:Vd g x) (hs:SOk N s) (hk:KOk g N w.p k) (hb:KB k) (hg:GB s.at_ k):Tm.Ok g N B s.at_ (lvl k) (zaU B x s k w):=by
 have sh:=hx.shape;have g9:=hB.g9;have hN:(0:Int)≤N:=by omega
 have go:∀{s':Sg} {w':Wk},zaD B w'→w.p≤w'.p→SOk N s'→s.at_≤s'.at_→Tm.Ok g N B s.at_ (lvl k) (.last (.go k s') w'):=fun hf hp h1 h2=>.last (t:=.go k _) ⟨h1,hk.mono hp,hb,hg.mono h2,trivial⟩ hf h2 (Nat.le_refl _);have tr:∀{y:Pat},y∈x.l→Tm.Ok g N B s.at_ (lvl k) (.last (.try_ y s k) w):=fun hy=>.last (t:=.try_ _ s k) ⟨hs,hk.mono (Nat.le_succ _),hb,hg,hx.sub hy⟩ hw (Int.le_refl _) (Nat.le_refl _);unfold zaU;refine .ite (fun h=>.ite (fun ht=>?_) fun _=>.no hw) fun _=>?_
 ·have:=hB.takes x s.at_ hx hs.at0 hs.atN ht
  exact go hw (Nat.le_refl _) (hs.atTo (by have:=hs.at0;omega) (by omega)) (by simp only;omega)
 refine .ite (fun h=>zlQ hw hx hs hk hb hg) fun _=>?_;refine .ite (fun h=>.last (t:=.alts x.l s k) ⟨hs,hk.mono (Nat.le_succ _),hb,hg,fun y hy=>hx.sub hy⟩ hw (Int.le_refl _) (Nat.le_refl _)) fun _=>?_;refine .ite (fun h6=>.ite (fun h2=>?_) fun h2=>?_) fun _=>?_
 ·exact .ask (.turn _ 0 s _) _ _ ⟨hs,KOk.stop (by omega) (by omega),zhV,GB.stop,zqQ hx h6,h6,Int.le_refl _,by omega,fun h=>h⟩ hw fun o w' r=>zfl hs hk hb hg r
 ·exact .last (t:=.turn x 0 s k) ⟨hs,hk,hb,hg,hx,h6,Int.le_refl _,by omega,fun h=>h⟩ hw (Int.le_refl _) (Nat.le_refl _)
 refine .ite (fun h7=>?_) fun _=>?_
 ·have hn:=sh.2.2.2.1 (.inl h7)
  exact .last (t:=.try_ _ s _) ⟨hs,(hk.mono (Nat.le_succ _)).cons ⟨hx,h7,hs.at0,hs.atN⟩,hb.cons I,hg.cons fun x fr h=>by cases h;exact Int.le_refl _,hx.sub (zel (sh.2.1 (.inr (.inl h7))))⟩ hw (Int.le_refl _) (Nat.le_refl _)
 refine .ite (fun h8=>?_) fun _=>?_
 ·have hm:=zel (sh.2.1 (.inr (.inr (.inl h8))))
  refine .ite (fun h6=>?_) fun _=>?_
  ·by_cases hτ:B.tau (w.p+1) w.r=true
   ·rw [if_pos hτ];exact .tired
   ·rw [if_neg hτ]
    exact .ask (.turn _ 0 s _) _ _ ⟨hs,KOk.stop (by omega) (by omega),zhV,GB.stop,hx.sub hm,h6,Int.le_refl _,by omega,fun h=>h⟩ (by simpa [zaD] using hτ) fun o w' r=>zfl hs (hk.mono (Nat.le_succ _)) hb hg r
  ·exact .ask (.try_ _ s _) _ _ ⟨hs,KOk.stop (by omega) (by omega),zhV,GB.stop,hx.sub hm⟩ hw fun o w' r=>zfl hs hk hb hg r
 refine .ite (fun h9=>?_) fun _=>?_
 ·have hm:=zel (sh.2.1 (.inr (.inr (.inr h9))))
  have hl:=hB.least _ (hx.sub hm);refine .ite (fun hlt=>?_) fun hge=>?_
  ·exact zkd (a:=s.at_) (c:=0) hs hk hb hg ⟨zeK.refl w,fun _=>hw,fun e h=>(by cases h),fun j h=>(by cases h)⟩
  ·have a1:zcU B x s≤s.at_:=by unfold zcU;split<;>omega
   have a2:-1≤ze3 x s∧ze3 x s≤N:=by
    have:=hs.at0;have:=hs.atN;unfold ze3;split<;>constructor<;>omega
   exact .ask (.try_ _ _ _) _ _ ⟨hs.atTo (by omega) (by have:=hs.atN;omega),KOk.stop a2.1 a2.2,zhV,GB.stop,hx.sub hm⟩ hw fun o w' r=>zkd hs hk hb hg r
 refine .ite (fun h10=>.ite (fun _=>.no hw) fun hc=>?_) fun _=>?_
 ·have hn:=sh.2.2.2.1 (.inr (.inl h10))
  have:=hB.copied (capN s x.n) s.at_ hs.at0 hs.atN (hs.cap _ (zpl hs x.n (by omega) (by omega)));exact go hw (Nat.le_refl _) (hs.atTo (by have:=hs.at0;omega) (by omega)) (by simp only;omega)
 refine .ite (fun h=>.ite (fun _=>go hw (Nat.le_refl _) hs (Int.le_refl _)) fun _=>.no hw) fun _=>?_;refine .ite (fun h14=>.ite (fun _=>.no hw) fun hc=>?_) fun _=>?_
 ·have hn:=sh.2.2.2.2.1 h14
  refine .ask (.try_ _ _ _) _ _ ⟨⟨hs.at0,hs.atN,hs.kp,hs.len,hs.cap,?_⟩,(hk.mono (Nat.le_succ _)).cons hs,hb.cons I,hg.cons fun x fr h=>by (cases h),hB.body x.n hn.1 hn.2⟩ hw fun o w' r=>znK r
  simp only [Task.s,List.length_cons];by_cases h20:s.calls.length≥20
  ·exact absurd (.inr h20) hc
  ·omega
 refine .ite (fun h15=>?_) fun _=>?_
 ·obtain ⟨y,z,hl⟩:=sh.2.2.1 h15
  rw [hl];refine .ite (fun _=>tr ?_) fun _=>tr ?_<;>rw [hl]<;>simp [fstL,sndL]
 refine .ite (fun h16=>.ite (fun _=>.no hw) fun _=>.ite (fun _=>?_) fun _=>?_) fun _=>?_
 ·exact .last (t:=.go (barr k) s) ⟨hs,fun f hf=>hk f (zcH hf),zhg hb,fun x fr hf=>hg x fr (zcH hf),trivial⟩ hw (Int.le_refl _) (Nat.le_of_eq (zdZ k))
 ·exact .ask (.go k s) _ _ ⟨hs,hk,hb,hg,trivial⟩ hw fun o w' r=>zoZ hb r
 have hcw:zaD B (zbY x w):=by unfold zbY;split<;>exact hw
 have hcp:w.p≤(zbY x w).p:=by unfold zbY;split<;>exact Nat.le_refl _
 refine .ite (fun h17=>.ite (fun _=>go hcw hcp hs (Int.le_refl _)) fun _=>.no hcw) fun _=>?_;refine .ite (fun h18=>?_) fun _=>go hw (Nat.le_refl _) hs (Int.le_refl _);exact go hw (Nat.le_refl _) ⟨hs.at0,hs.atN,⟨hs.at0,hs.atN⟩,hs.len,hs.cap,hs.calls⟩ (Int.le_refl _)
theorem zpc (hB:BOk g N B) {s:Sg} {k:List Fm} {w:Wk} (hw:zaD B w) (h:TOk g N (.go k s) w):Tm.Ok g N B s.at_ (lvl k) (goS B s w k):=by
 obtain ⟨hs,hk,hb,hg,_⟩:=h;simp only [Task.s,Task.k,Task.up,Nat.add_zero] at hs hk hb hg;cases k with
 |nil=>exact hb.elim
 |cons f k=>
  have hf:=hk f List.mem_cons_self;have hk':KOk g N w.p k:=fun a ha=>hk a (List.mem_cons_of_mem _ ha);have hg':GB s.at_ k:=fun x fr ha=>hg x fr (List.mem_cons_of_mem _ ha);have go:zeN f=false→∀{s':Sg},SOk N s'→s'.at_=s.at_→Tm.Ok g N B s.at_ (lvl (f::k)) (.last (.go k s') w):=fun hb0 _ h1 h2=>.last (t:=.go k _) ⟨h1,hk',hb.tail hb0,hg'.mono (Int.le_of_eq h2.symm),trivial⟩ hw (Int.le_of_eq h2.symm) (by cases f<;>simp [lvl,Task.k])
  cases f with
  |cat x n=>exact zlQ hw hf.1 hs hk' (hb.tail rfl) hg'
  |turn x many fr=>
   obtain ⟨h1,h2,h3,h4,h5,h6⟩:=hf;simp only [goS];exact .ite (fun _=>.no hw) fun _=>.last (t:=.turn x _ s k) ⟨hs,hk',hb.tail rfl,hg',h1,h2,by omega,h4,fun h0=>by have:=h5 h0;omega⟩ hw (Int.le_refl _) (Nat.le_refl _)
  |group x fr=>exact go rfl (hs.setCap hf.2.2.1 (hg x fr List.mem_cons_self)) rfl
  |call o=>exact go rfl (SOk.atTo hf hs.at0 hs.atN) rfl
  |stop want=>
   simp only [goS];exact .ite (fun _=>.no hw) fun _=>.ret _ _ (fun _=>hw) (fun e h=>by cases h;exact ⟨hs,Int.le_refl _⟩) fun j h=>by cases h
  |fin=>
   simp only [goS];exact .ite (fun _=>.ret _ _ (fun _=>hw) (fun e h=>by cases h;exact ⟨hs,Int.le_refl _⟩) fun j h=>by cases h) fun _=>.no hw
theorem zkb {s:Sg} {k:List Fm} {w:Wk} (hw:zaD B w):∀{l:List Pat},TOk g N (.alts l s k) w→Tm.Ok g N B s.at_ (lvl k) (zl8 s k w l)
 |[],h=>.no hw
 |y::l,h=>by
  obtain ⟨hs,hk,hb,hg,hx⟩:=h;exact .ask (.try_ y s k) _ _ ⟨hs,hk,hb,hg,hx y List.mem_cons_self⟩ hw fun o w' r=>zhe r fun hf hl=>.last (t:=.alts l s k) ⟨hs,hk.mono (by show w.p+1≤w'.p+1;unfold Wk.le at hl;omega),hb,hg,fun z hz=>hx z (List.mem_cons_of_mem _ hz)⟩ hf (Int.le_refl _) (Nat.le_refl _)
theorem zqK (hB:BOk g N B) {t:Task} {w:Wk} (hw:zaD B w) (h:TOk g N t w):Tm.Ok g N B t.s.at_ (lvl t.k) (runS B t w):=by
 cases t with
 |try_ x s k=>
  simp only [runS];by_cases hτ:B.tau (w.p+1) (w.r+1)=true
  ·rw [if_pos hτ];exact .tired
  ·rw [if_neg hτ]
   exact zjU hB (show B.tau (w.p+1) (w.r+1)=false by simpa using hτ) h.x h.s h.k h.b h.gb
 |go k s=>exact zpc hB hw h
 |alts l s k=>exact zkb hw h
 |turn x m s k=>exact zj4 hw h
theorem zqx {rec:Task→Wk→BRes} (h:∀t w o w',zaD B w→TOk g N t w→rec t w=some (o,w')→ROk N B t.s.at_ (lvl t.k) w o w'):∀{t:Tm} {a:Int} {c:Nat} {o:BOut} {w':Wk},Tm.Ok g N B a c t→t.eval rec=some (o,w')→(o≠ .tired→zaD B w')∧(∀e,o=.yes e→SOk N e∧a≤e.at_)∧∀j,o=.cut j→1≤j∧j≤c:=by
 intro t
 induction t with
 |ret r=>
  intro a c o w' hk e;cases hk with
  |ret o1 w1 hf hy hc=>simp only [Tm.eval,Option.some.injEq,Prod.mk.injEq] at e;obtain ⟨rfl,rfl⟩:=e;exact ⟨hf,hy,hc⟩
 |ask t w1 f ih=>
  intro a c o w' hk e;cases hk with
  |ask _ _ _ ht hw hf=>
   simp only [Tm.eval,Option.bind_eq_some_iff] at e;obtain ⟨⟨o2,w2⟩,e1,e2⟩:=e;exact ih _ (hf o2 w2 (h _ _ _ _ hw ht e1)) e2
theorem zmc (hB:BOk g N B):∀(n:Nat) (t:Task) (w:Wk) (o:BOut) (w':Wk),zaD B w→TOk g N t w→brun B n t w=some (o,w')→ROk N B t.s.at_ (lvl t.k) w o w'
 |0,t,w,o,w',_,_,h=>by cases h
 |n+1,t,w,o,w',hw,ht,h=>by
  obtain ⟨h1,h2,h3⟩:=zqx (zmc hB n) (zqK hB hw ht) h;exact ⟨zbI B (n+1) t w o w' h,h1,h2,h3⟩
end
def zcX (k:List Fm):Prop:=Fm.fin∉k
inductive Tm.Keep:List Int→Tm→Prop
 |ret {a:List Int} (o:BOut) (w:Wk) (h:w.acc=a):Tm.Keep a (.ret (o,w))
 |ask {a:List Int} (t:Task) (w:Wk) (f:BOut×Wk→Tm) (ht:zcX t.k) (h:w.acc=a) (hf:∀o w',w'.acc=a→Tm.Keep a (f (o,w'))):Tm.Keep a (.ask t w f)
theorem Tm.Keep.last {t:Task} {w:Wk} {a:List Int} (ht:zcX t.k) (h:w.acc=a):Tm.Keep a (.last t w):=.ask t w _ ht h fun o w' e=>.ret o w' e
theorem Tm.Keep.ite {a:List Int} {c:Prop} [Decidable c] {x y:Tm} (hx:Tm.Keep a x) (hy:Tm.Keep a y):Tm.Keep a (if c then x else y):=by
 split
 ·exact hx
 ·exact hy
theorem zct {f:Fm} {k:List Fm} (h:zcX k) (hf:f≠ .fin):zcX (f::k):=fun hm=>by
 rcases List.mem_cons.1 hm with e|hm
 ·exact hf e.symm
 ·exact h hm
theorem zbr (a:Int):zcX [.stop a]:=fun h=>by simp at h
theorem zkO {k:List Fm} (h:zcX k) (s:Sg) (o:BOut) (w:Wk):Tm.Keep w.acc (thenS k s (o,w)):=by
 cases o<;>first|exact .last h I|exact .ret _ _ I
theorem zgJ {k:List Fm} (h:zcX k) (x:Pat) (s:Sg) (o:BOut) (w:Wk):Tm.Keep w.acc (zbl x k s (o,w)):=by
 cases o<;>simp only [zbl]<;>(try refine .ite ?_ ?_)<;>first|exact .last h I|exact .ret _ _ I
theorem zkK (k:List Fm) (o:BOut) (w:Wk):Tm.Keep w.acc (zef k (o,w)):=by
 cases o<;>simp only [zef]<;>(try refine .ite ?_ ?_)<;>exact .ret _ _ I
theorem zk0 (k:List Fm) (o:BOut) (w:Wk):Tm.Keep w.acc (zhn k (o,w)):=by
 cases o<;>exact .ret _ _ I
theorem zew {f:Wk→Tm} (o:BOut) (w:Wk) (hf:Tm.Keep w.acc (f w)):Tm.Keep w.acc (zeD f (o,w)):=by
 cases o<;>first|exact hf|exact .ret _ _ I
theorem zip {k:List Fm} (h:zcX k) (x:Pat) (n:Nat) (s:Sg) (w:Wk):Tm.Keep w.acc (catS x n s k w):=by
 unfold catS;split
 ·exact .last (zct h (by simp)) I
 ·exact .last h I
theorem zkV {k:List Fm} (h:zcX k) (x:Pat) (m:Int) (s:Sg) (w:Wk):Tm.Keep w.acc (zcn x m s k w):=by
 have more:∀w:Wk,Tm.Keep w.acc (if x.max<0∨m<x.max then .last (.try_ (fstL x.l) s (.turn x m s.at_::k)) w else .ret (.no,w)):=fun w=>.ite (.last (zct h (by simp)) I) (.ret _ _ I)
 have endk:∀w:Wk,Tm.Keep w.acc (if m≥x.min then .last (.go k s) w else .ret (.no,w)):=fun w=>.ite (.last h I) (.ret _ _ I)
 unfold zcn;refine .ite (.ite ?_ (more w)) (.ite ?_ (endk w))
 ·exact .ask (.go k s) _ _ h I fun o w' e=>by rw [←e];exact zew o w' (more w')
 ·exact .ask (.try_ _ s _) _ _ (zct h (by simp)) I fun o w' e=>by rw [←e];exact zew o w' (endk w')
theorem zkD {k:List Fm} (h:zcX k):zcX (barr k):=fun hm=>h (zcH hm)
theorem zlV (B:Bk) {t:Task} (h:zcX t.k) (w:Wk):Tm.Keep w.acc (runS B t w):=by
 cases t with
 |turn x m s k=>exact zkV h x m s w
 |alts l s k=>
  cases l with
  |nil=>exact .ret _ _ rfl
  |cons y l=>exact .ask (.try_ y s k) _ _ h I fun o w' e=>by rw [←e];exact zew o w' (.last (t:=.alts l s k) h I)
 |go k s=>
  cases k with
  |nil=>exact .ret _ _ rfl
  |cons f k=>
   have h':zcX k:=fun hm=>h (List.mem_cons_of_mem _ hm);cases f with
   |cat x n=>exact zip h' x n s w
   |turn x many fr=>exact .ite (.ret _ _ I) (.last (t:=.turn ..) h' I)
   |group x fr=>exact .last (t:=.go ..) h' I
   |call o=>exact .last (t:=.go ..) h' I
   |stop want=>exact .ite (.ret _ _ rfl) (.ret _ _ rfl)
   |fin=>exact absurd List.mem_cons_self h
 |try_ x s k=>
  have h:zcX k:=h;simp only [runS];refine .ite (.ret _ _ I) ?_;have L:∀{t:Task},zcX t.k→Tm.Keep w.acc (.last t (tick w)):=fun ht=>.last ht rfl;have Rn:∀{o:BOut},Tm.Keep w.acc (.ret (o,tick w)):=.ret _ _ rfl;have go:∀{s:Sg},Tm.Keep w.acc (.last (.go k s) (tick w)):=L (t:=.go k _) h;have st:∀(t:Task) (w1:Wk),zcX t.k→w1.acc=w.acc→Tm.Keep w.acc (.ask t w1 (thenS k s)):=fun t w1 ht e1=>.ask t w1 _ ht e1 fun o w' e=>by rw [←e];exact zkO h s o w'
  unfold zaU;refine .ite (.ite go Rn) (.ite (zip h x 0 s (tick w)) (.ite (L (t:=.alts ..) h) (.ite (.ite (st (.turn ..) _ (zbr _) rfl) (L (t:=.turn ..) h)) (.ite (L (t:=.try_ ..) (zct h (by simp))) (.ite (.ite ?_ (st (.try_ ..) _ (zbr _) rfl)) (.ite (.ite ?_ ?_) (.ite (.ite Rn go) (.ite (.ite go Rn) (.ite (.ite Rn ?_) (.ite (.ite (L (t:=.try_ ..) h) (L (t:=.try_ ..) h)) (.ite (.ite Rn (.ite (L (t:=.go ..) (zkD h)) ?_)) (.ite (.ite ?_ ?_) (.ite go go)))))))))))))
  ·exact .ite (.ret _ _ I) (st (.turn ..) _ (zbr _) rfl)
  ·exact zgJ h x s .no (tick w)
  ·exact .ask (.try_ ..) _ _ (zbr _) rfl fun o w' e=>by rw [←e];exact zgJ h x s o w'
  ·exact .ask (.try_ ..) _ _ (zct h (by simp)) I fun o w' e=>by rw [←e];exact zkK k o w'
  ·exact .ask (.go k s) _ _ h I fun o w' e=>by rw [←e];exact zk0 k o w'
  ·exact .last (t:=.go ..) h (by unfold zbY;split<;>rfl)
  ·exact .ret _ _ (by unfold zbY;split<;>rfl)
theorem zmD {rec:Task→Wk→BRes} (h:∀t w o w',zcX t.k→rec t w=some (o,w')→w'.acc=w.acc):∀{t:Tm} {a:List Int} {o:BOut} {w':Wk},Tm.Keep a t→t.eval rec=some (o,w')→w'.acc=a:=by
 intro t
 induction t with
 |ret r=>
  intro a o w' hk e;cases hk with
  |ret o1 w1 h1=>simp only [Tm.eval,Option.some.injEq,Prod.mk.injEq] at e;rw [←e.2];exact h1
 |ask t w1 f ih=>
  intro a o w' hk e;cases hk with
  |ask _ _ _ ht h1 hf=>
   simp only [Tm.eval,Option.bind_eq_some_iff] at e;obtain ⟨⟨o2,w2⟩,e1,e2⟩:=e;exact ih _ (hf o2 w2 ((h _ _ _ _ ht e1).trans h1)) e2
theorem zd0 (B:Bk):∀(n:Nat) (t:Task) (w:Wk) (o:BOut) (w':Wk),zcX t.k→brun B n t w=some (o,w')→w'.acc=w.acc
 |0,t,w,o,w',_,h=>by cases h
 |n+1,t,w,o,w',ht,h=>zmD (zd0 B n) (zlV B ht w) h
end Go.Bk
namespace Go.Proofs.YtpopmiodjibljaaGreatDoor
open Go Go.Abs Go.Bk
def zbk (l:List (Int×Int)) (i:Nat):Int×Int:=l.getD i (-1,-1)
def sgL (a kp:Int) (l:List (Int×Int)) (cs:List (Int×Int)) (b:Int) (acc:A):List A:=[i64 a,i64 kp,i64 (zbk l 0).1,i64 (zbk l 0).2,i64 (zbk l 1).1,i64 (zbk l 1).2,i64 (zbk l 2).1,i64 (zbk l 2).2,i64 (zbk l 3).1,i64 (zbk l 3).2,i64 (zbk l 4).1,i64 (zbk l 4).2,i64 (zbk l 5).1,i64 (zbk l 5).2,i64 (zbk l 6).1,i64 (zbk l 6).2,i64 (zbk l 7).1,i64 (zbk l 7).2,i64 (zbk l 8).1,i64 (zbk l 8).2,i64 (zbk l 9).1,i64 (zbk l 9).2,.ds (cs.reverse.map zaf),i64 b,acc]
def sgC (s:Sg) (b:Int) (acc:A):List A:=sgL s.at_ s.keep s.caps s.calls b acc
structure Mt where
 m:Nat
 rg:Nat
 rw:Nat
 root:Pat
 s:List Nat
 fold:Bool
 lines:Bool
 all:Bool
 mask:Int
 ge:List (A×A)
structure MS where
 w:Wk
 brd:Int
 bg:Int
 g:Option Nat
 we:List (A×A)
structure Bs where
 v:A
 Hb:List Int→Option Sg→Heap
def Mt.p (X:Mt):A:=.ptr X.m 19 0 0
def mC (X:Mt) (a:MS):List A:=[i64 X.root.op,i64 X.root.n,i64 X.root.min,i64 X.root.max,.str X.root.name,.ds (X.root.set.map zaf),.ds (X.root.l.map Pat.cells),
 .map X.rg,.map X.rw,.ds (X.s.map nC),.bool X.fold,.bool X.lines,.bool X.all,i64 X.mask,outV 1 a.g a.w.codes.length,i64 a.w.p,i64 a.brd,i64 a.bg,.nilf]
def Hm (X:Mt) (a:MS):Heap:=(X.m,.row 125 19 [mC X a])::(X.rg,.map X.ge)::(X.rw,.map a.we)::outH 3 1 a.g (a.w.codes.map zC)
def zbR (x:Pat):Pat:=if x.n=2 then zcP x else x
def encK (X:Mt) (v:A):List Int→List Fm→A×A
 |bs,[]=>(v,v)
 |bs,.cat x n::k=>(.fn 283 [] [.dp [X.p],.dp [.ds ((x.l.drop (n - 1)).map Pat.cells)],.dp [(encK X v bs k).1]],(encK X v bs k).2)
 |bs,.turn x many fr::k=>(.fn 318 [] [.dp [i64 many],.dp (zbR x).C,.dp [i64 fr],.dp [X.p],.dp [(encK X v bs k).1]],(encK X v bs k).2)
 |bs,.group x fr::k=>(.fn 233 [] [.dp [i64 fr],.dp x.C,.dp [(encK X v bs k).1]],(encK X v bs k).2)
 |bs,.call o::k=>(.fn 293 [] [.dp (sgC o (bs.tail.headD 0) (encK X v bs.tail k).2),.dp [(encK X v bs.tail k).1]],.fn 293 [] [.dp (sgC o (bs.tail.headD 0) (encK X v bs.tail k).2),.dp [(encK X v bs.tail k).1]])
 |bs,.stop _::_=>(v,v)
 |bs,.fin::_=>(v,v)
def encS (X:Mt) (v:A) (s:Sg) (bs:List Int) (k:List Fm):List A:=sgC s (bs.headD 0) (encK X v bs k).2
def outI (bs:List Int):BOut→Int
 |.no=>0
 |.yes _=>1
 |.tired=>2
 |.cut j=>3+bs.getD (bs.length - j) 0
def outS:BOut→Option Sg
 |.yes s=>some s
 |_=>none
structure Wide where
 ok:List (A×A)→Prop
structure MOk (V:Wide) (X:Mt) (a:MS):Prop where
 g:a.g=none→a.w.codes=[]
 codes:a.w.codes.length≤100
 brd:0≤a.brd∧a.brd≤a.w.p
 we:V.ok a.we
def zaH (V:Wide) (X:Mt) (Z:Bs) (bs:List Int) (a:MS) (o:BOut) (w':Wk):A→Heap→Prop:=fun r H'=>
 ∃a' G,a'.w=w'∧MOk V X a'∧a.brd≤a'.brd∧r=i64 (outI bs o)∧H'.Perm (G++(Hm X a'++Z.Hb w'.acc (outS o)))
structure BrOk (bs:List Int) (k:List Fm) (a:MS):Prop where
 len:bs.length=lvl k
 le:∀b∈bs,0≤b∧b≤a.brd
 nd:bs.Nodup
def ConM (V:Wide) (X:Mt) (Z:Bs) (t:Task) (bs:List Int) (a:MS) (o:BOut) (w':Wk):Prop:=
 match t with
 |.try_ x s k=>TrG [] Tryz.prog 181 [X.p,.agg x.C,.agg (encS X Z.v s bs k),(encK X Z.v bs k).1] (Hm X a++Z.Hb a.w.acc none) (zaH V X Z bs a o w')
 |.go k s=>zlq [] Tryz.prog (encK X Z.v bs k).1 [.agg (encS X Z.v s bs k)] (Hm X a++Z.Hb a.w.acc none) (zaH V X Z bs a o w')
 |.turn x many s k=>TrG [] Tryz.prog 286 [X.p,.agg (zbR x).C,i64 many,.agg (encS X Z.v s bs k),(encK X Z.v bs k).1] (Hm X a++Z.Hb a.w.acc none) (zaH V X Z bs a o w')
 |.alts _ _ _=>True
theorem zhy (X:Mt) {v:A} (hv:∃f cap,v=.fn f [] cap):∀(bs:List Int) (k:List Fm),(∃f cap,(encK X v bs k).1=.fn f [] cap)∧∃f cap,(encK X v bs k).2=.fn f [] cap
 |bs,[]=>⟨hv,hv⟩
 |bs,.cat x n::k=>⟨⟨_,_,rfl⟩,(zhy X hv bs k).2⟩
 |bs,.turn x many fr::k=>⟨⟨_,_,rfl⟩,(zhy X hv bs k).2⟩
 |bs,.group x fr::k=>⟨⟨_,_,rfl⟩,(zhy X hv bs k).2⟩
 |bs,.call o::k=>⟨⟨_,_,rfl⟩,⟨_,_,rfl⟩⟩
 |bs,.stop _::_=>⟨hv,hv⟩
 |bs,.fin::_=>⟨hv,hv⟩
theorem zpk (X:Mt) (x:Pat) (n:Nat) (s:Sg) (b:Int) (f2:FuncId) (cap2:List A) (f:FuncId) (cap:List A) (H:Heap) (R:A→Heap→Prop)
  (hy:∀y,x.l[n]?=some y→TrG [] Tryz.prog 181 [X.p,.agg y.C,.agg (sgC s b (.fn f2 [] cap2)),.fn 283 [] [.dp [X.p],.dp [.ds ((x.l.drop n).map Pat.cells)],.dp [.fn f [] cap]]] H R)
  (hR:∃v H',R v H')
  (hn:x.l.length≤n→TrG [] Tryz.prog f ([.agg (sgC s b (.fn f2 [] cap2))]++cap) H R):
  TrG [] Tryz.prog 231 [X.p,.ds ((x.l.drop n).map Pat.cells),.agg (sgC s b (.fn f2 [] cap2)),.fn f [] cap] H R:=by
 refine Ja (N:=22) Tryz.func231 I I I ?_;refine ae0 (ag 2 I (J (J9 4 I I (zaa I) rfl (ab (J (J9 5 I I (zaa I) rfl (ab (J (J9 6 I I (zaa I) rfl (ab (J (J9 7 I I (zaa I) rfl (ab (ag 11 I (Y ?_)))))))))))))))
 (refine J1 I (fun h=>?_) (fun h=>?_))
 ·have h:(x.l.drop n).length=0:=by simpa using h
  have h:x.l.length≤n:=by rw [List.length_drop] at h;omega
  refine ae (ag 4 I (J3 ?_));refine J5 (Je I I I (hn h) fun r H' hr=>?_)
  refine ab (ag 5 I (O ?_));refine zab (J2 I I) ?_;exact hr
 ·have h:¬(x.l.drop n).length=0:=by simpa using h
  have h:n<x.l.length:=by simp at h;omega
  obtain ⟨y,hy'⟩:∃y,x.l[n]?=some y:=⟨x.l[n],by simp [h]⟩
  have hd:((x.l.drop n).map Pat.cells)[((0:Nat):Int).toNat]?=some y.C:=by rw [List.getElem?_map,List.getElem?_drop];simp [hy',Pat.cells_eq]
  refine ae (ag 3 I (Y ?_));refine Heavy.AWp.draw okL hmix (by kernel_rfl) ?_
  (repeat (first|refine Heavy.Plan.pure I I I ?_|refine Heavy.Plan.pure I I (zai I I I I I (Int.le_refl _) (hd) rfl) ?_))
  refine Heavy.Plan.eff (R:=R) rfl I I hR (Je I I I (hy y hy') fun r H' hr=>J8 (Heavy.Qn_n hr)) fun v H' hv=>?_
  (repeat (refine Heavy.Plan.pure I I I ?_))
  refine Heavy.Plan.nil ?_;refine ae (ag 1 I (O ?_));refine zab (J2 I I) ?_;exact hv
theorem zlR {l:List Pat}:∀c∈l.map Pat.cells,c.length=7:=fun c hc=>by
 obtain ⟨y,_,rfl⟩:=List.mem_map.1 hc;rw [Pat.cells_eq];rfl
theorem zpA (X:Mt) (x:Pat) (n:Nat) (hn:n<x.l.length) (s:Sg) (b:Int) (f2:FuncId) (cap2:List A) (f:FuncId) (cap:List A) (H:Heap) (R:A→Heap→Prop) (hR:∃v H',R v H')
  (h:TrG [] Tryz.prog 231 [X.p,.ds ((x.l.drop (n+1)).map Pat.cells),.agg (sgC s b (.fn f2 [] cap2)),.fn f [] cap] H R):
  TrG [] Tryz.prog 283 [.agg (sgC s b (.fn f2 [] cap2)),.dp [X.p],.dp [.ds ((x.l.drop n).map Pat.cells)],.dp [.fn f [] cap]] H R:=by
 refine Ja (N:=12) Tryz.func283 I I I ?_;have e:(((x.l.drop n).map Pat.cells).drop ((1:Nat):Int).toNat).take ((((x.l.drop n).map Pat.cells).length:Int).toNat - ((1:Nat):Int).toNat)=(x.l.drop (n+1)).map Pat.cells:=by
  rw [List.take_of_length_le (by simp;omega),←List.map_drop,List.drop_drop];rfl
 rw [←e] at h;refine ae0 (ag 2 I (J (J9 4 I I (zaa I) rfl (ab (ag 4 I (Y ?_))))));refine Heavy.AWp.draw okL hmix (by kernel_rfl) ?_
 (repeat (first|refine Heavy.Plan.pure I I I ?_|refine Heavy.Plan.pure I I (znW I I I I I I (zlR) (by omega) (by simp;omega) (Int.le_refl _)) ?_))
 refine Heavy.Plan.eff (R:=R) rfl I I hR (Je I I I h fun r H' hr=>J8 (Heavy.Qn_n hr)) fun v H' hv=>?_
 (repeat (refine Heavy.Plan.pure I I I ?_))
 refine Heavy.Plan.nil ?_;refine ae (ag 1 I (O ?_));refine zab (J2 I I) ?_;exact hv
theorem ten {l:List (Int×Int)} (h:l.length=10):∃c0 c1 c2 c3 c4 c5 c6 c7 c8 c9,l=[c0,c1,c2,c3,c4,c5,c6,c7,c8,c9]:=by
 match l,h with
 |[c0,c1,c2,c3,c4,c5,c6,c7,c8,c9],_=>exact ⟨c0,c1,c2,c3,c4,c5,c6,c7,c8,c9,rfl⟩
theorem nine {n:Int} (h:1≤n∧n≤9):n=1∨n=2∨n=3∨n=4∨n=5∨n=6∨n=7∨n=8∨n=9:=by omega
theorem zk3 {a kp:Int} {l cs:List (Int×Int)} {b:Int} {acc:A} (h:l.length=10) {n:Int} (hn:1≤n∧n≤9) (u v:Int):zbN (sgL a kp l cs b acc) (0+2+n.toNat*2) [i64 u,i64 v]=some (sgL a kp (l.set n.toNat (u,v)) cs b acc):=by
 obtain ⟨c0,c1,c2,c3,c4,c5,c6,c7,c8,c9,rfl⟩:=ten h;rcases nine hn with rfl|rfl|rfl|rfl|rfl|rfl|rfl|rfl|rfl<;>rfl
theorem zom (x:Pat) (fr:Int) (s:Sg) (b:Int) (f2:FuncId) (cap2:List A) (f:FuncId) (cap:List A) (H:Heap) (R:A→Heap→Prop) (hn:1≤x.n∧x.n≤9) (hc:s.caps.length=10) (hG:∀v H' G,R v H'→R v (G++H'))
  (h:TrG [] Tryz.prog f ([.agg (sgC {s with caps:=s.caps.set x.n.toNat (fr,s.at_)} b (.fn f2 [] cap2))]++cap) H R):
  TrG [] Tryz.prog 233 [.agg (sgC s b (.fn f2 [] cap2)),.dp [i64 fr],.dp x.C,.dp [.fn f [] cap]] H R:=by
 refine Ja (N:=17) Tryz.func233 I I I ?_;refine ae0 (ag 2 I (J (Jf I I (zaa I) rfl I (fun _ _=>(ab (ag 9 I (J (U okL I (.head _) rfl I I I (ab (ag 2 I (Jm okL (zbZ I I I I I (by omega) (by omega)) I (J3 ?_))))))))))));rename_i r _;refine J5 (J4 okL I I I (zaa I) rfl I I .here I (zk3 hc hn fr s.at_) rfl ?_)
 refine ab (ag 5 I (J (U okL I (.head _) rfl I I I (ab (J3 ?_)))));refine J5 (Jc [_] rfl I I I h fun v H' hr=>?_)
 refine ab (ag 4 I (O ?_));refine zab (J2 I I) ?_;exact hG _ _ _ hr
theorem zop (X:Mt) (x:Pat) (many fr:Int) (s:Sg) (b:Int) (f2:FuncId) (cap2:List A) (f:FuncId) (cap:List A) (H:Heap) (R:A→Heap→Prop)
  (h0:many≥x.min∧s.at_=fr→R (i64 0) H)
  (h1:¬(many≥x.min∧s.at_=fr)→TrG [] Tryz.prog 286 [X.p,.agg x.C,i64 (IntKind.i64.wrap (many+1)),.agg (sgC s b (.fn f2 [] cap2)),.fn f [] cap] H R):
  TrG [] Tryz.prog 318 [.agg (sgC s b (.fn f2 [] cap2)),.dp [i64 many],.dp x.C,.dp [i64 fr],.dp [X.p],.dp [.fn f [] cap]] H R:=by
 refine Ja (N:=25) Tryz.func318 I I I ?_;refine ae0 (ag 2 I (J (J9 6 I I (zaa I) rfl (ab (ag 11 I (J3 ?_))))))
 (refine J6 I I I (fun g=>?_) (fun g=>?_))
 ·have g:many≥x.min:=of_decide_eq_true g
  refine ab (ag 7 I (Y ?_))
  (refine J1 I (fun h=>?_) (fun h=>?_))
  ·have h:s.at_=fr:=by simpa using h
   refine ae (ag 7 I (O ?_));refine zab (J2 I I) ?_;exact h0 ⟨g,h⟩
  ·have h:¬s.at_=fr:=by simpa using h
   refine ae (ag 10 I (J3 ?_));refine J5 (Je I I I (h1 fun e=>h e.2) fun v H' hr=>?_)
   refine ab (ag 4 I (O ?_));refine zab (J2 I I) ?_;exact hr
 ·have g:¬many≥x.min:=of_decide_eq_false g
  refine ab (ag 18 I (J3 ?_));refine J5 (Je I I I (h1 fun e=>g e.1) fun v H' hr=>?_)
  refine ab (ag 4 I (O ?_));refine zab (J2 I I) ?_;exact hr
theorem zdS (x:Pat) (many:Int) (s:Sg) (b:Int) (f2:FuncId) (cap2:List A) (f:FuncId) (cap:List A) (H:Heap) (R:A→Heap→Prop)
  (h0:¬many≥x.min→R (i64 0) H) (h1:many≥x.min→TrG [] Tryz.prog f ([.agg (sgC s b (.fn f2 [] cap2))]++cap) H R):
  TrG [] Tryz.prog 319 [.dp [i64 many],.dp x.C,.dp [.fn f [] cap],.dp (sgC s b (.fn f2 [] cap2))] H R:=by
 refine Ja (N:=12) Tryz.func319 I I I ?_;refine ae0 (ag 14 I (Y ?_))
 (refine J1 I (fun h=>?_) (fun h=>?_))
 ·have h:many<x.min:=of_decide_eq_true h
  refine ae (ag 7 I (O ?_));refine zab (J2 I I) ?_;exact h0 (by omega)
 ·have h:¬many<x.min:=of_decide_eq_false h
  refine ae (ag 6 I (J3 ?_));refine J5 (Je I I I (h1 (by omega)) fun v H' hr=>?_)
  refine ab (ag 4 I (O ?_));refine zab (J2 I I) ?_;exact hr
theorem zm3 (X:Mt) (x y:Pat) (hl:x.l=[y]) (many:Int) (s:Sg) (b:Int) (f2:FuncId) (cap2:List A) (f:FuncId) (cap:List A) (H:Heap) (R:A→Heap→Prop) (hR:∃v H',R v H')
  (h0:many=x.max→R (i64 0) H)
  (h1:many≠x.max→TrG [] Tryz.prog 181 [X.p,.agg y.C,.agg (sgC s b (.fn f2 [] cap2)),.fn 318 [] [.dp [i64 many],.dp x.C,.dp [i64 s.at_],.dp [X.p],.dp [.fn f [] cap]]] H R):
  TrG [] Tryz.prog 317 [.dp [i64 many],.dp x.C,.dp (sgC s b (.fn f2 [] cap2)),.dp [X.p],.dp [.fn f [] cap]] H R:=by
 refine Ja (N:=21) Tryz.func317 I I I ?_;refine ae0 (ag 14 I (Y ?_))
 (refine J1 I (fun h=>?_) (fun h=>?_))
 ·have h:many=x.max:=by simpa using h
  refine ae (ag 7 I (O ?_));refine zab (J2 I I) ?_;exact h0 h
 ·have h:many≠x.max:=by simpa using h
  have hd:(x.l.map Pat.cells)[((0:Nat):Int).toNat]?=some y.C:=by rw [hl];simp [Pat.cells_eq]
  refine ae (ag 6 I (J (Jb okL I I I (fun _ _=>(ab (J (J4 okL I I I (zaa I) rfl I I .here I I I (ab (ag 3 I (Y ?_))))))))));refine AWp.freezeF 6 I (List.Perm.refl _) (Fz.ptr _ _ _) ?_;refine Heavy.AWp.draw okL hmix (by kernel_rfl) ?_
  (repeat (first|refine Heavy.Plan.pure I I I ?_|refine Heavy.Plan.pure I I (zai I I I I I (Int.le_refl _) (hd) rfl) ?_))
  refine Heavy.Plan.eff (R:=R) rfl I I hR (Je I I I (h1 h) fun r H' hr=>J8 (Heavy.Qn_n hr)) fun v H' hv=>?_
  (repeat (refine Heavy.Plan.pure I I I ?_))
  refine Heavy.Plan.nil ?_;refine ae (ag 1 I (O ?_));refine zab (J2 I I) ?_;exact hv
theorem zkn (X:Mt) (x:Pat) (many:Int) (s:Sg) (b:Int) (f2:FuncId) (cap2:List A) (f:FuncId) (cap:List A) (H:Heap) (R1 R:A→Heap→Prop) (hI:∀v H',R1 v H'→∃n,v=i64 n) (hR:∀n H',R1 (i64 n) H'→n≠0→R (i64 n) H')
  (h1:x.n=1→TrG [] Tryz.prog 319 [.dp [i64 many],.dp x.C,.dp [.fn f [] cap],.dp (sgC s b (.fn f2 [] cap2))] H R1∧
   ∀H',R1 (i64 0) H'→TrG [] Tryz.prog 317 [.dp [i64 many],.dp x.C,.dp (sgC s b (.fn f2 [] cap2)),.dp [X.p],.dp [.fn f [] cap]] H' R)
  (h2:x.n≠1→TrG [] Tryz.prog 317 [.dp [i64 many],.dp x.C,.dp (sgC s b (.fn f2 [] cap2)),.dp [X.p],.dp [.fn f [] cap]] H R1∧
   ∀H',R1 (i64 0) H'→TrG [] Tryz.prog 319 [.dp [i64 many],.dp x.C,.dp [.fn f [] cap],.dp (sgC s b (.fn f2 [] cap2))] H' R):
  TrG [] Tryz.prog 286 [X.p,.agg x.C,i64 many,.agg (sgC s b (.fn f2 [] cap2)),.fn f [] cap] H R:=by
 refine Ja (N:=32) Tryz.func286 I I I ?_;refine ae0 (ag 2 I (J (J9 5 I I (zaa I) rfl (ab (J (J9 6 I I (zaa I) rfl (ab (J (J9 7 I I (zaa I) rfl (ab (J (J9 8 I I (zaa I) rfl (ab (J (J9 9 I I (zaa I) rfl (ab (ag 31 I (Y ?_))))))))))))))))))
 (refine J1 I (fun h=>?_) (fun h=>?_))
 ·have h:x.n=1:=by simpa using h
  obtain ⟨k1,k2⟩:=h1 h;refine ae (ag 11 rfl (J3 ?_));refine J5 (Je rfl rfl rfl k1 fun v H' hr=>?_)
  obtain ⟨n,rfl⟩:=hI v H' hr;refine ab (ag 9 rfl (Y ?_))
  (refine J1 I (fun g=>?_) (fun g=>?_))
  ·have g:n≠0:=by simpa using g
   refine ae (ag 8 I (O ?_));refine zab (J2 I I) ?_;exact hR n H' hr g
  ·have g:n=0:=by simpa using g
   subst g;refine ae (ag 5 rfl (J3 ?_));refine J5 (Je rfl rfl rfl (k2 H' hr) fun v H' hr=>?_)
   refine ab (ag 4 I (O ?_));refine zab (J2 I I) ?_;exact hr
 ·have h:x.n≠1:=by simpa using h
  obtain ⟨k1,k2⟩:=h2 h;refine ae (ag 6 rfl (J3 ?_));refine J5 (Je rfl rfl rfl k1 fun v H' hr=>?_)
  obtain ⟨n,rfl⟩:=hI v H' hr;refine ab (ag 9 rfl (Y ?_))
  (refine J1 I (fun g=>?_) (fun g=>?_))
  ·have g:n≠0:=by simpa using g
   refine ae (ag 8 I (O ?_));refine zab (J2 I I) ?_;exact hR n H' hr g
  ·have g:n=0:=by simpa using g
   subst g;refine ae (ag 5 rfl (J3 ?_));refine J5 (Je rfl rfl rfl (k2 H' hr) fun v H' hr=>?_)
   refine ab (ag 4 I (O ?_));refine zab (J2 I I) ?_;exact hr
theorem zoO (o:Sg) (b':Int) (f3:FuncId) (cap3:List A) (s:Sg) (b:Int) (f2:FuncId) (cap2:List A) (f:FuncId) (cap:List A) (H:Heap) (R:A→Heap→Prop) (hG:∀v H' G,R v H'→R v (G++H'))
  (h:TrG [] Tryz.prog f ([.agg (sgC {o with at_:=s.at_} b' (.fn f3 [] cap3))]++cap) H R):
  TrG [] Tryz.prog 293 [.agg (sgC s b (.fn f2 [] cap2)),.dp (sgC o b' (.fn f3 [] cap3)),.dp [.fn f [] cap]] H R:=by
 refine Ja (N:=13) Tryz.func293 I I I ?_;refine ae0 (ag 2 I (J (J9 3 I I (zaa I) rfl (ab (ag 6 I (J (Jb okL I I I (fun _ _=>(ab (J (J4 okL I I I (zaa I) rfl I I .here I I I (ab (ag 7 I (J (J4 okL I I I (zaa I) rfl I I .here I I I (ab (ag 5 I (J (U okL I (.head _) rfl I I I (ab (J3 ?_)))))))))))))))))))));rename_i r _;refine J5 (Jc [_] rfl I I I h fun v H' hr=>?_)
 refine ab (ag 4 I (O ?_));refine zab (J2 I I) ?_;exact hG _ _ _ hr
theorem zbg {e xs:List A} (h:e.length=25) (k:xs.length=25):zbN e (0+0) xs=some xs:=by
 unfold zbN;have:Nat.ble (0+0+xs.length) e.length=true:=Nat.ble_eq_true_of_le (by omega);rw [this,List.drop_eq_nil_of_le (by omega)];simp
theorem zml (want:Int) (re:Nat) (e0:List A) (s:Sg) (b:Int) (f2:FuncId) (cap2:List A) (Hx:Heap) (R:A→Heap→Prop) (he:e0.length=25)
  (h0:want≥0∧want≠s.at_→R (i64 0) ((re,.row 179 25 [e0])::Hx))
  (h1:¬(want≥0∧want≠s.at_)→R (i64 1) ((re,.row 179 25 [sgC s b (.fn f2 [] cap2)])::Hx)):
  TrG [] Tryz.prog 320 [.agg (sgC s b (.fn f2 [] cap2)),.dp [i64 want],.ptr re 25 0 0] ((re,.row 179 25 [e0])::Hx) R:=by
 refine Ja (N:=14) Tryz.func320 I I I ?_;refine ae0 (ag 2 I (J (J9 3 I I (zaa I) rfl (ab (ag 9 I (J3 ?_))))))
 (refine J6 I I I (fun g=>?_) (fun g=>?_))
 ·have g:want≥0:=of_decide_eq_true g
  refine ab (ag 7 I (Y ?_))
  (refine J1 I (fun h=>?_) (fun h=>?_))
  ·have h:s.at_≠want:=by simpa using h
   refine ae (ag 7 I (O ?_));refine zab (J2 I I) ?_;exact h0 ⟨g,fun e=>h e.symm⟩
  ·have h:s.at_=want:=by simpa using h
   refine ae (ag 5 I (J3 ?_));refine J5 (J4 okL I I I (zaa I) rfl I I .here I (zbg he I) rfl ?_)
   refine ab (ag 8 I (O ?_));refine zab (J2 I I) ?_;exact h1 fun hh=>hh.2 h.symm
 ·have g:¬want≥0:=of_decide_eq_false g
  refine ab (ag 13 I (J3 ?_));refine J5 (J4 okL I I I (zaa I) rfl I I .here I (zbg he I) rfl ?_)
  refine ab (ag 8 I (O ?_));refine zab (J2 I I) ?_;exact h1 fun hh=>g hh.1
end Go.Proofs.YtpopmiodjibljaaGreatDoor
namespace Go.Bk
open Go Go.Abs
def cb (c:List (Int×Int)):List Fm→List (Int×Int)
 |[]=>c
 |.call o::k=>cb o.calls k
 |.cat _ _::k=>cb c k
 |.turn _ _ _::k=>cb c k
 |.group _ _::k=>cb c k
 |.stop _::_=>c
 |.fin::_=>c
def Task.cb (t:Task):List (Int×Int):=Go.Bk.cb t.s.calls t.k
theorem zg5 (c:List (Int×Int)):∀k:List Fm,cb c (barr k)=cb c k
 |[]=>rfl
 |.call o::k=>rfl
 |.stop w::k=>rfl
 |.fin::k=>rfl
 |.cat _ _::k=>zg5 c k
 |.turn _ _ _::k=>zg5 c k
 |.group _ _::k=>zg5 c k
inductive Tm.Cb:List (Int×Int)→Tm→Prop
 |ret {c:List (Int×Int)} (o:BOut) (w:Wk) (h:∀e,o=.yes e→e.calls=c):Tm.Cb c (.ret (o,w))
 |ask {c:List (Int×Int)} (t:Task) (w:Wk) (f:BOut×Wk→Tm) (hf:∀o w',(∀e,o=.yes e→e.calls=t.cb)→Tm.Cb c (f (o,w'))):Tm.Cb c (.ask t w f)
theorem Tm.Cb.last {t:Task} {w:Wk} {c:List (Int×Int)} (h:t.cb=c):Tm.Cb c (.last t w):=.ask t w _ fun o w' k=>.ret o w' fun e he=>(k e he).trans h
theorem Tm.Cb.no {c:List (Int×Int)} {o:BOut} {w:Wk} (h:∀e,o≠ .yes e):Tm.Cb c (.ret (o,w)):=.ret o w fun e he=>absurd he (h e)
theorem Tm.Cb.if_ {c:List (Int×Int)} {p:Prop} [Decidable p] {x y:Tm} (hx:Tm.Cb c x) (hy:Tm.Cb c y):Tm.Cb c (if p then x else y):=by
 split
 ·exact hx
 ·exact hy
theorem zhw (k:List Fm) (s:Sg) (o:BOut) (w:Wk):Tm.Cb (cb s.calls k) (thenS k s (o,w)):=by
 cases o<;>first|exact .last I|exact .no (fun e h=>by cases h)
theorem zjL (x:Pat) (k:List Fm) (s:Sg) (o:BOut) (w:Wk):Tm.Cb (cb s.calls k) (zbl x k s (o,w)):=by
 cases o<;>simp only [zbl]<;>(try refine .if_ ?_ ?_)<;>first|exact .last I|exact .no (fun e h=>by cases h)
theorem zoJ {c:List (Int×Int)} (k:List Fm) (o:BOut) (w:Wk) (h:∀e,o=.yes e→e.calls=c):Tm.Cb c (zef k (o,w)):=by
 cases o<;>simp only [zef]<;>(try refine .if_ ?_ ?_)<;>first|exact .ret _ _ h|exact .no (fun e h=>by cases h)
theorem zoY {c:List (Int×Int)} (k:List Fm) (o:BOut) (w:Wk) (h:∀e,o=.yes e→e.calls=c):Tm.Cb c (zhn k (o,w)):=by
 cases o<;>first|exact .ret _ _ h|exact .no (fun e h=>by cases h)
theorem zgZ {c:List (Int×Int)} {f:Wk→Tm} (o:BOut) (w:Wk) (h:∀e,o=.yes e→e.calls=c) (hf:Tm.Cb c (f w)):Tm.Cb c (zeD f (o,w)):=by
 cases o<;>first|exact hf|exact .ret _ _ h
theorem zmQ (x:Pat) (n:Nat) (s:Sg) (k:List Fm) (w:Wk):Tm.Cb (cb s.calls k) (catS x n s k w):=by
 unfold catS;split<;>exact .last I
theorem znN (x:Pat) (m:Int) (s:Sg) (k:List Fm) (w:Wk):Tm.Cb (cb s.calls k) (zcn x m s k w):=by
 have more:∀w:Wk,Tm.Cb (cb s.calls k) (if x.max<0∨m<x.max then .last (.try_ (fstL x.l) s (.turn x m s.at_::k)) w else .ret (.no,w)):=fun w=>.if_ (.last I) (.no fun e h=>by cases h)
 have endk:∀w:Wk,Tm.Cb (cb s.calls k) (if m≥x.min then .last (.go k s) w else .ret (.no,w)):=fun w=>.if_ (.last I) (.no fun e h=>by cases h)
 unfold zcn;refine .if_ (.if_ ?_ (more w)) (.if_ ?_ (endk w))
 ·exact .ask _ _ _ fun o w' h=>zgZ o w' h (more w')
 ·exact .ask _ _ _ fun o w' h=>zgZ o w' h (endk w')
theorem zqG (B:Bk) (t:Task) (w:Wk):Tm.Cb t.cb (runS B t w):=by
 cases t with
 |turn x m s k=>exact znN x m s k w
 |alts l s k=>
  cases l with
  |nil=>exact .no fun e h=>by cases h
  |cons y l=>exact .ask _ _ _ fun o w' h=>zgZ o w' h (.last rfl)
 |go k s=>
  cases k with
  |nil=>exact .no fun e h=>by cases h
  |cons f k=>
   cases f with
   |cat x n=>exact zmQ x n s k w
   |turn x many fr=>exact .if_ (.no fun e h=>by cases h) (.last rfl)
   |group x fr=>exact .last rfl
   |call o=>exact .last rfl
   |stop want=>exact .if_ (.no fun e h=>by cases h) (.ret _ _ fun e h=>by cases h;rfl)
   |fin=>exact .if_ (.ret _ _ fun e h=>by cases h;rfl) (.no fun e h=>by cases h)
 |try_ x s k=>
  simp only [runS];refine .if_ (.no fun e h=>by cases h) ?_
  have L:∀{t:Task} {w:Wk},t.cb=cb s.calls k→Tm.Cb (cb s.calls k) (.last t w):=fun h=>.last h;have Rn:∀{o:BOut} {w:Wk},(∀e,o≠ .yes e)→Tm.Cb (cb s.calls k) (.ret (o,w)):=fun h=>.no h;have N:∀{w:Wk},Tm.Cb (cb s.calls k) (.ret (.no,w)):=.no fun e h=>by cases h
  have go:∀{a:Int} {w:Wk},Tm.Cb (cb s.calls k) (.last (.go k {s with at_:=a}) w):=.last I
  unfold zaU;refine .if_ (.if_ (L I) N) (.if_ (zmQ x 0 s k _) (.if_ (L I) (.if_ (.if_ (.ask _ _ _ fun o w' _=>zhw k s o w') (L I)) (.if_ (L I) (.if_ (.if_ (.if_ (.no fun e h=>by cases h) (.ask _ _ _ fun o w' _=>zhw k s o w')) (.ask _ _ _ fun o w' _=>zhw k s o w')) (.if_ (.if_ (zjL x k s _ _) (.ask _ _ _ fun o w' _=>zjL x k s o w')) (.if_ (.if_ N (L I)) (.if_ (.if_ (L I) N) (.if_ (.if_ N (.ask _ _ _ fun o w' h=>zoJ k o w' h)) (.if_ (.if_ (L I) (L I)) (.if_ (.if_ N (.if_ (L (zg5 s.calls k)) (.ask _ _ _ fun o w' h=>zoY k o w' h))) (.if_ (.if_ (L I) N) (.if_ (L I) (L I))))))))))))))
theorem zqo {rec:Task→Wk→BRes} (h:∀t w o w',rec t w=some (o,w')→∀e,o=.yes e→e.calls=t.cb):∀{t:Tm} {c:List (Int×Int)} {o:BOut} {w':Wk},Tm.Cb c t→t.eval rec=some (o,w')→∀e,o=.yes e→e.calls=c:=by
 intro t
 induction t with
 |ret r=>
  intro c o w' hk e;cases hk with
  |ret o1 w1 h1=>simp only [Tm.eval,Option.some.injEq,Prod.mk.injEq] at e;obtain ⟨rfl,rfl⟩:=e;exact h1
 |ask t w1 f ih=>
  intro c o w' hk e;cases hk with
  |ask _ _ _ hf=>
   simp only [Tm.eval,Option.bind_eq_some_iff] at e;obtain ⟨⟨o2,w2⟩,e1,e2⟩:=e;exact ih _ (hf o2 w2 (h _ _ _ _ e1)) e2
theorem zhZ (B:Bk):∀(n:Nat) (t:Task) (w:Wk) (o:BOut) (w':Wk),brun B n t w=some (o,w')→∀e,o=.yes e→e.calls=t.cb
 |0,t,w,o,w',h=>by cases h
 |n+1,t,w,o,w',h=>zqo (zhZ B n) (zqG B t w) h
end Go.Bk
namespace Go.Proofs.YtpopmiodjibljaaGreatDoor
open Go Go.Abs Go.Bk
theorem zgp (X:Mt) (y:Pat) (s:Sg) (b:Int) (f2:FuncId) (cap2:List A) (f:FuncId) (cap:List A) (H:Heap) (R:A→Heap→Prop)
  (h:TrG [] Tryz.prog 181 [X.p,.agg y.C,.agg (sgC s b (.fn f2 [] cap2)),.fn f [] cap] H R):
  TrG [] Tryz.prog 287 [.agg (sgC s b (.fn f2 [] cap2)),.fn f [] cap,.dp [X.p],.dp y.C] H R:=by
 refine Ja (N:=12) Tryz.func287 I I I ?_;refine ae0 (ag 2 I (J (J9 4 I I (zaa I) rfl (ab (ag 9 I (J3 ?_))))));refine J5 (Je I I I h fun v H' hr=>?_)
 refine ab (ag 4 I (O ?_));refine zab (J2 I I) ?_;exact hr
theorem zgx (X:Mt) (y:Pat) (s:Sg) (b:Int) (f2:FuncId) (cap2:List A) (f:FuncId) (cap:List A) (H:Heap) (R:A→Heap→Prop)
  (h:TrG [] Tryz.prog 286 [X.p,.agg y.C,i64 0,.agg (sgC s b (.fn f2 [] cap2)),.fn f [] cap] H R):
  TrG [] Tryz.prog 285 [.agg (sgC s b (.fn f2 [] cap2)),.fn f [] cap,.dp [X.p],.dp y.C] H R:=by
 refine Ja (N:=12) Tryz.func285 I I I ?_;refine ae0 (ag 2 I (J (J9 4 I I (zaa I) rfl (ab (ag 9 I (J3 ?_))))));refine J5 (Je I I I h fun v H' hr=>?_)
 refine ab (ag 4 I (O ?_));refine zab (J2 I I) ?_;exact hr
theorem zoy (X:Mt) (x y:Pat) (hl:x.l=[y]) (s:Sg) (b:Int) (f2:FuncId) (cap2:List A) (f:FuncId) (cap:List A) (H:Heap) (R:A→Heap→Prop) (hR:∃v H',R v H')
  (h:TrG [] Tryz.prog 181 [X.p,.agg y.C,.agg (sgC s b (.fn f2 [] cap2)),.fn f [] cap] H R):
  TrG [] Tryz.prog 290 [.agg (sgC s b (.fn f2 [] cap2)),.fn f [] cap,.dp [X.p],.dp x.C] H R:=by
 refine Ja (N:=15) Tryz.func290 I I I ?_;have hd:(x.l.map Pat.cells)[((0:Nat):Int).toNat]?=some y.C:=by rw [hl];simp [Pat.cells_eq]
 refine ae0 (ag 2 I (J (J9 4 I I (zaa I) rfl (ab (ag 4 I (Y ?_))))));refine Heavy.AWp.draw okL hmix (by kernel_rfl) ?_
 (repeat (first|refine Heavy.Plan.pure I I I ?_|refine Heavy.Plan.pure I I (zai I I I I I (Int.le_refl _) (hd) rfl) ?_))
 refine Heavy.Plan.eff (R:=R) rfl I I hR (Je I I I h fun r H' hr=>J8 (Heavy.Qn_n hr)) fun v H' hv=>?_
 (repeat (refine Heavy.Plan.pure I I I ?_))
 refine Heavy.Plan.nil ?_;refine ae (ag 1 I (O ?_));refine zab (J2 I I) ?_;exact hv
structure Wd (R:A→Heap→Prop):Prop where
 perm:∀v H H',H.Perm H'→R v H→R v H'
 add:∀v H G,R v H→R v (G++H)
theorem zaX (X:Mt) (a:MS):Hm X a=(X.m,.row 125 19 [mC X a])::(X.rg,.map X.ge)::(X.rw,.map a.we)::outH 3 1 a.g (a.w.codes.map zC):=rfl
def zhx:List A:=[i64 0,i64 0,i64 0,i64 0,i64 0,i64 0,i64 0,i64 0,i64 0,i64 0,i64 0,i64 0,i64 0,i64 0,i64 0,i64 0,i64 0,i64 0,i64 0,i64 0,i64 0,i64 0,.nils,i64 0,.nilf]
def accC (want:Int) (re:Nat):A:=.fn 320 [] [.dp [i64 want],.ptr re 25 0 0]
theorem zfa {e:List A} (h:e.length=25) {ti:TI} (ht:lay L 179=some ti):zbp ti e (0+0)=some (.agg e):=by
 cases ht;unfold zbp;have:Nat.ble (0+0+25) e.length=true:=Nat.ble_eq_true_of_le (by omega);simp only [TD.isAgg];rw [this];simp only [List.drop_zero,Nat.add_zero];rw [List.take_of_length_le (by omega)]
theorem zoq (X:Mt) (a:MS) (hb:0≤a.brd∧a.brd≤1000000) (want:Int) (s:Sg) (b:Int) (f2:FuncId) (cap2:List A) (f:FuncId) (cap:List A) (R:A→Heap→Prop) (hW:Wd R) (R1:Nat→Int→List A→Heap→Prop)
  (h1:∀re,TrG [] Tryz.prog f ([.agg (sgC s (a.brd+1) (accC want re)),accC want re]++cap) ((re,.row 179 25 [zhx])::Hm X {a with brd:=a.brd+1})
   fun v H'=>∃n e Hx,v=i64 n∧H'.Perm ((re,.row 179 25 [e])::Hx)∧e.length=25∧zah e=true∧R1 re n e Hx)
  (h2:∀re n e Hx,R1 re n e Hx→R (.tup [.agg e,i64 (if n=3+(a.brd+1) then 0 else n)]) Hx):
  TrG [] Tryz.prog 289 [X.p,.agg (sgC s b (.fn f2 [] cap2)),i64 want,.fn f [] cap] (Hm X a) R:=by
 refine Ja (N:=38) Tryz.func289 I I I ?_;rw [zaX];refine ae0 (ag 2 I (J (Jf I I (zaa I) rfl I (fun _ _=>(ab (J (J9 6 I I (zaa I) rfl (ab (J (Jb okL I I I (fun _ _=>(ab (ag 5 I (J (Jb okL I I I (fun _ _=>(ab (ag 7 I (J (U okL I (.tail _ (.tail _ (.tail _ (.head _)))) I I I I (ab (ag 3 I (J (J4 okL I I I (zaa I) rfl I I (.there (.there (.there .here))) I I I (ab (ag 7 I (J (U okL I (.tail _ (.tail _ (.tail _ (.head _)))) I I I I (ab (ag 1 I (J (J4 okL I I I (zaa I) rfl I I (.there (.there .here)) I I I (ab (ag 6 I (J (J4 okL I I I (zaa I) rfl I I (.there (.there .here)) I I I (ab (ag 5 I (J (U okL I (.tail _ (.tail _ (.head _))) I I I I (ab (ag 1 I (J (U okL I (.tail _ (.tail _ (.head _))) I I I I (ab (J3 ?_))))))))))))))))))))))))))))))))))))))))))))));rename_i rs _ rr _ re _;have hw:IntKind.i64.wrap (a.brd+1)=a.brd+1:=zaS ⟨by omega,by omega⟩
 have hw2:IntKind.i64.wrap (3+(a.brd+1))=3+(a.brd+1):=zaS ⟨by omega,by omega⟩
 rw [hw];refine J5 (Jq (Hc:=(re,.row 179 25 [zhx])::Hm X {a with brd:=a.brd+1}) (F:=[_,_]) I I I ((List.perm_append_comm (l₁:=[_,_])).cons _) (h1 re) fun v H' hr=>?_)
 obtain ⟨n,e,Hx,rfl,hp,he,hl,hk⟩:=hr;refine Jp (H':=(re,.row 179 25 [e])::([_,_]++Hx)) ((hp.append_right _).trans ((List.perm_append_comm (l₂:=[_,_])).cons _)) ?_;refine ab (ag 8 rfl (J (U okL rfl (.tail _ (.tail _ (.head _))) rfl rfl rfl rfl (ab (ag 4 rfl (Y ?_))))));rw [hw2]
 (refine J1 I (fun h=>?_) (fun h=>?_))
 ·have h:n=3+(a.brd+1):=by simpa using h
  refine ae (ag 6 I (J3 ?_));refine J5 (U okL I (.head _) rfl I (zfa he I) rfl ?_)
  refine ab (ag 1 I (J3 ?_));refine J5 (J4 okL I I I (zaa I) hl I he (.there .here) rfl (zbg I he) rfl ?_)
  refine ab (ag 4 I (O ?_));refine zab (zac.cellTmp okL I I (.tail _ (.head _)) I I (zfa he I) rfl) ?_;have:=h2 re n e Hx hk;rw [if_pos h] at this;exact hW.add _ _ [_,_,_] this
 ·have h:¬n=3+(a.brd+1):=by simpa using h
  refine ae (ag 4 I (J3 ?_));refine J5 (U okL I (.head _) rfl I (zfa he I) rfl ?_)
  refine ab (ag 1 I (J3 ?_));refine J5 (J4 okL I I I (zaa I) hl I he (.there .here) rfl (zbg I he) rfl ?_)
  refine ab (ag 4 I (O ?_));refine zab (zac.cellTmp okL I I (.tail _ (.head _)) I I (zfa he I) rfl) ?_;have:=h2 re n e Hx hk;rw [if_neg h] at this;exact hW.add _ _ [_,_,_] this
theorem zmm (X:Mt) (s:Sg) (b:Int) (f2:FuncId) (cap2:List A) (f:FuncId) (cap:List A) (fi:FuncId) (capi:List A) (Ha Hb:Heap) (R:A→Heap→Prop) (hW:Wd R) (R1:Int→List A→Heap→Prop)
  (h1:TrG [] Tryz.prog 289 [X.p,.agg (sgC s b (.fn f2 [] cap2)),i64 (-1),.fn fi [] capi] Ha fun v H'=>∃n e,v=.tup [.agg e,i64 n]∧e.length=25∧zah e=true∧R1 n e H')
  (h2:∀n e H',n≠1→R1 n e H'→R (i64 n) (H'++Hb))
  (h3:∀e H',R1 1 e H'→∃s' b' f3 cap3,e=sgC s' b' (.fn f3 [] cap3)∧TrG [] Tryz.prog f ([.agg (sgC s' b (.fn f2 [] cap2))]++cap) (H'++Hb) R):
  TrG [] Tryz.prog 284 [X.p,.agg (sgC s b (.fn f2 [] cap2)),.fn f [] cap,.fn fi [] capi] (Ha++Hb) R:=by
 refine Ja (N:=30) Tryz.func284 I I I ?_;refine ae0 (ag 2 I (J (J9 5 I I (zaa I) rfl (ab (ag 8 I (J3 ?_))))));refine J5 (Jq I I I (List.Perm.refl _) h1 fun v H' hr=>?_)
 obtain ⟨n,e,rfl,he,hl,hk⟩:=hr;refine ab (ag 3 rfl (J (Jb okL rfl rfl rfl (fun _ _=>(ab (J3 ?_))))));rename_i r9 _;refine J5 (J4 okL rfl rfl rfl (zaa rfl) hl rfl he .here rfl (zbg rfl he) rfl ?_)
 refine ab (ag 10 I (Y ?_))
 (refine J1 I (fun h=>?_) (fun h=>?_))
 ·have h:n≠1:=by simpa using h
  refine ae (ag 8 I (O ?_));refine zab (J2 I I) ?_;exact hW.add _ _ [_] (h2 n e H' h hk)
 ·have h:n=1:=by simpa using h
  subst h;obtain ⟨s',b',f3,cap3,rfl,ht⟩:=h3 e H' hk;refine ae (ag 3 rfl (Y ?_));refine Flex.AWp.draw (fun o=>match o.op with|.store .. =>2|_=>0) (fun _=>default) okL hmix (by kernel_rfl) ?_
  (repeat (first|refine Flex.Plan.pure I I I ?_|refine Flex.Plan.eff1 I I I (J4 okL I I I (zaa I) rfl I I .here I I I (J8 (Flex.Qn_n ⟨rfl,rfl⟩))) ?_))
  refine Flex.Plan.nil ?_;refine ae (ag 3 I (J (U okL I (.head _) rfl I I I (ab (J3 ?_)))));refine J5 (Jc [_] rfl I I I ht fun v H' hr=>?_)
  refine ab (ag 4 I (O ?_));refine zab (J2 I I) ?_;exact hW.add _ _ [_] hr
theorem zlZ (X:Mt) (y:Pat) (s:Sg) (b:Int) (f2:FuncId) (cap2:List A) (f:FuncId) (cap:List A) (H:Heap) (R:A→Heap→Prop)
  (h:TrG [] Tryz.prog 284 [X.p,.agg (sgC s b (.fn f2 [] cap2)),.fn f [] cap,.fn 287 [] [.dp [X.p],.dp y.C]] H R):
  TrG [] Tryz.prog 234 [X.p,.agg y.C,.agg (sgC s b (.fn f2 [] cap2)),.fn f [] cap] H R:=by
 refine Ja (N:=14) Tryz.func234 I I I ?_;refine ae0 (ag 2 I (J (J9 4 I I (zaa I) rfl (ab (J (J9 5 I I (zaa I) rfl (ab (J (J9 6 I I (zaa I) rfl (ab (ag 9 I (J3 ?_))))))))))));refine J5 (Je I I I h fun v H' hr=>?_)
 refine ab (ag 4 I (O ?_));refine zab (J2 I I) ?_;exact hr
theorem zhH (X:Mt) (x:Pat) (s:Sg) (b:Int) (f2:FuncId) (cap2:List A) (f:FuncId) (cap:List A) (H:Heap) (R:A→Heap→Prop) (hW:Wd R)
  (h2:x.n=2→TrG [] Tryz.prog 284 [X.p,.agg (sgC s b (.fn f2 [] cap2)),.fn f [] cap,.fn 285 [] [.dp [X.p],.dp (zcP x).C]] H R)
  (h1:x.n≠2→TrG [] Tryz.prog 286 [X.p,.agg x.C,i64 0,.agg (sgC s b (.fn f2 [] cap2)),.fn f [] cap] H R):
  TrG [] Tryz.prog 232 [X.p,.agg x.C,.agg (sgC s b (.fn f2 [] cap2)),.fn f [] cap] H R:=by
 refine Ja (N:=23) Tryz.func232 I I I ?_;refine ae0 (ag 2 I (J (J9 4 I I (zaa I) rfl (ab (J (Jf I I (zaa I) rfl I (fun _ _=>(ab (J (J9 6 I I (zaa I) rfl (ab (ag 7 I (J (U okL I (.head _) rfl I I I (ab (ag 3 I (Y ?_)))))))))))))))));rename_i r5 _
 (refine J1 I (fun h=>?_) (fun h=>?_))
 ·have h:x.n=2:=by simpa using h
  refine ae (ag 3 I (J (J4 okL I I I (zaa I) rfl I I .here I I I (ab (ag 8 I (J3 ?_))))));refine AOps.freezeF 16 (x':=.fn 285 [] [.dp [X.p],.dp (zcP x).C]) I (List.Perm.refl _) (Fz.fn (.cons (Fz.same _ _ _ _) (.cons (Fz.ptr _ _ _) .nil))) ?_;refine J5 (Je I I I (h2 h) fun v H' hr=>?_)
  refine ab (ag 5 I (O ?_));refine zab (J2 I I) ?_;exact hr
 ·have h:x.n≠2:=by simpa using h
  refine ae (ag 5 I (J (U okL I (.head _) rfl I I I (ab (ag 2 I (J3 ?_))))));refine J5 (Jc [_] rfl I I I (h1 h) fun v H' hr=>?_)
  refine ab (ag 4 I (O ?_));refine zab (J2 I I) ?_;exact hW.add _ _ [_] hr
theorem ziX (X:Mt) (n:Int) (s:Sg) (b:Int) (hb:0≤b∧b≤1000000) (f2:FuncId) (cap2:List A) (f:FuncId) (cap:List A) (H:Heap) (R1 R:A→Heap→Prop) (hI:∀v H',R1 v H'→∃n,v=i64 n) (hR:∀n H',R1 (i64 n) H'→n≠0→R (i64 n) H')
  (h0:n=0→R (i64 0) H) (h1:n=1→TrG [] Tryz.prog f2 ([.agg (sgC s b (.fn f2 [] cap2))]++cap2) H R)
  (h2:n≠0→n≠1→TrG [] Tryz.prog f ([.agg (sgC s b (.fn f2 [] cap2))]++cap) H R1∧∀H',R1 (i64 0) H'→R (i64 (3+b)) H'):
  TrG [] Tryz.prog 237 [X.p,i64 n,.agg (sgC s b (.fn f2 [] cap2)),.fn f [] cap] H R:=by
 refine Ja (N:=28) Tryz.func237 I I I ?_;have hw:IntKind.i64.wrap (3+b)=3+b:=zaS ⟨by omega,by omega⟩
 refine ae0 (ag 2 I (J (J9 6 I I (zaa I) rfl (ab (ag 16 I (Y ?_))))))
 (refine J1 I (fun h=>?_) (fun h=>?_))
 ·have h:n=0:=by simpa using h
  refine ae (ag 8 I (O ?_));refine zab (J2 I I) ?_;exact h0 h
 ·have h:n≠0:=by simpa using h
  refine ae (ag 6 I (Y ?_))
  (refine J1 I (fun g=>?_) (fun g=>?_))
  ·have g:n=1:=by simpa using g
   refine ae (ag 5 I (J3 ?_));refine J5 (Je I I I (h1 g) fun v H' hr=>?_)
   refine ab (ag 6 I (O ?_));refine zab (J2 I I) ?_;exact hr
  ·have g:n≠1:=by simpa using g
   obtain ⟨k1,k2⟩:=h2 h g;refine ae (ag 8 rfl (J3 ?_));refine J5 (Je rfl rfl rfl k1 fun v H' hr=>?_)
   obtain ⟨m,rfl⟩:=hI v H' hr;refine ab (ag 9 rfl (Y ?_))
   (refine J1 I (fun q=>?_) (fun q=>?_))
   ·have q:m≠0:=by simpa using q
    refine ae (ag 8 I (O ?_));refine zab (J2 I I) ?_;exact hR m H' hr q
   ·have q:m=0:=by simpa using q
    subst q;refine ae (ag 11 rfl (O ?_));refine zab (J2 rfl rfl) ?_;rw [hw];exact k2 H' hr
theorem zqf:EqT Tryz.prog 295:=zhc (by kernel_rfl)
def eqS2 (x y:Int×Int):Bool:=decide (x.1=y.1)&&(decide (x.2=y.2)&&true)
theorem zjS (x y:Int×Int):eqS2 x y=decide (x=y):=by
 cases x;cases y;simp [eqS2,Prod.mk.injEq,Bool.decide_and]
def idxL (p:Int×Int):Nat→List (Int×Int)→Int
 |_,[]=>-1
 |k,x::l=>if p=x then (k:Int) else idxL p (k+1) l
theorem zjX (p:Int×Int):∀(l:List (Int×Int)) (k:Nat),(idxL p k l≥0)↔p∈l
 |[],k=>by simp [idxL]
 |x::l,k=>by
  simp only [idxL,List.mem_cons];split
  ·rename_i h;simp [h]
  ·rename_i h;rw [zjX p l (k+1)];simp [h]
theorem zoE (l:List (Int×Int)) (p:Int×Int):PTr Tryz.prog 321 [.ds (l.map zaf),.agg (zaf p)] (i64 (idxL p 0 l)):=by
 refine PTr.of_body (N:=19) Tryz.func321 I I I ?_;refine Jo (t:=0) rfl (zbo.ds _) fun hlen=>?_;rw [List.length_map] at hlen;refine ae0 (ag 2 I (J (J9 3 I I (zaa I) rfl (ab (ag 12 I (Y ?_))))));refine Jh (α:=Nat) (fun k=>l.length - k) (fun k=>[(0,.ds (l.map zaf)),(3,.dp (zaf p)),(7,i64 (l.map zaf).length),(8,i64 k)]) (fun _=>[])
  (fun k=>k≤l.length∧idxL p k (l.drop k)=idxL p 0 l) 0 ⟨Nat.zero_le _,rfl⟩ ?_ (List.Perm.refl _) ?_
 ·simp only [za0]
  refine ⟨rfl,rfl,rfl,rfl,trivial⟩
 rintro k ⟨hk,hm⟩ ih;refine ae0 (ag 6 rfl (Y ?_))
 (refine J1 I (fun h=>?_) (fun h=>?_))
 ·have h:=of_decide_eq_true h
  simp only [List.length_map] at h;obtain ⟨x,hx⟩:∃x,l[k]?=some x:=⟨l[k],by simp [show k<l.length by omega]⟩
  rw [zaT hx,idxL] at hm;have nx:=nxt (k:=k) (n:=l.length) (by omega) hlen;refine ae (ag 11 I (AC.drawn okL hmix (by kernel_rfl) (ag 3 I (Jj (Pl.pure I (zai I I I I I (by omega) (getS hx) rfl) (ap (ag 1 I (Jj ?_))))))));refine Pl.eqStruct zqf I I I I I I I (b:=eqS2 p x) rfl I ?_;refine ap (ag 2 I (Y ?_))
  (refine J1 I (fun h2=>?_) (fun h2=>?_))
  ·have h2:p=x:=by have h2:eqS2 p x=true:=h2;rw [zjS] at h2;exact of_decide_eq_true h2
   rw [if_pos h2] at hm;refine ae (ag 9 I (O (ax (ag 2 I (O ?_)))));refine zab (J2 I I) ?_;rw [←hm]
  ·have h2:¬p=x:=by have h2:eqS2 p x=false:=h2;rw [zjS] at h2;exact of_decide_eq_false h2
   rw [if_neg h2] at hm;refine ae (ag 7 I (O (zap ?_)))
   (refine AIn.nextN 0 (ih (k+1) (⟨by omega,hm⟩) (by omega)) ?_ rfl;repeat (first|exact trivial|refine ⟨rfl,?_⟩|refine ⟨congrArg some nx,?_⟩))
 ·have h:=of_decide_eq_false h
  simp only [List.length_map] at h;rw [List.drop_eq_nil_of_le (by omega),idxL] at hm;refine ae (ag 2 I (O (ae (ag 6 I (O ?_)))));refine zab (J2 I I) ?_;rw [←hm]
theorem zi3 (l:List (Int×Int)) (p:Int×Int):PTr Tryz.prog 291 [.ds (l.map zaf),.agg (zaf p)] (.bool (decide (p∈l))):=by
 refine PTr.of_body (N:=9) Tryz.func291 I I I ?_;refine ae0 (ag 2 I (J (J9 3 I I (zaa I) rfl (ab (ag 7 I (J (J7 I I I (zoE l p) (ab (ag 5 I (O ?_))))))))));refine zab (J2 I I) ?_;have:=zjX p l 0;by_cases h:p∈l
 ·rw [decide_eq_true h,decide_eq_true (this.2 h)]
 ·rw [decide_eq_false h,decide_eq_false (fun hh=>h (this.1 hh))]
theorem zmR (l:List (Int×Int)) (hst:l.length≤100):TrG [] Tryz.prog 292 [.ds (l.map zaf)] [] fun v H'=>∃g,(g=none→l=[])∧v=outV 2 g (l.map zaf).length∧H'=outH 295 2 g (l.map zaf):=by
 refine Ja (N:=8) Tryz.func292 I I I ?_;refine ae0 (ag 9 I (J3 ?_));refine J5 (AOp.eqNilDs okL I I I I fun b hb=>?_)
 refine ab (ag 2 I (Y ?_))
 (refine J1 I (fun h=>?_) (fun h=>?_))
 ·have h0:l=[]:=List.map_eq_nil_iff.1 (hb h)
  refine ae (ag 7 I (O ?_));refine zab (J2 I I) ?_;exact ⟨none,fun _=>h0,by rw [h0];rfl,by rw [h0];rfl⟩
 ·refine ae (ag 4 I (J (Jl okL I I I I I I I I I I I (fun _ _=>(ab (ag 1 I (J3 ?_)))))))
  rename_i rb _;refine J5 (AOp.appendG (g:=some rb) (elems:=[]) (news:=l.map zaf) (pre:=[]) okL rfl (fun h=>by cases h) rfl rfl (.ds _) rfl rfl rfl rfl (fun c hc=>by obtain ⟨y,_,rfl⟩:=List.mem_map.1 hc;rfl) (fun c hc=>by obtain ⟨y,_,rfl⟩:=List.mem_map.1 hc;rfl) (by simp only [List.length_map,List.length_nil,maxLen];omega) (by simp only [List.length_map,List.length_nil];omega) rfl fun g' hg'=>?_)
  rw [List.nil_append] at hg' ⊢;refine ab (ag 4 I (O ?_));refine zab (J2 I I) ?_;exact ⟨g',fun e=>List.map_eq_nil_iff.1 (hg' e),rfl,rfl⟩
def callK (o:Oper):Nat:=match o.op with
 |.store .. =>2
 |.load 175 _=>1
 |.buildSlice .. =>3
 |.call {callee:=.builtin .append,.. }=>2
 |.call {callee:=.value _,.. }=>2
 |_=>0
def zpP (s:Sg) (b:Int) (acc thn:A):A:=.fn 293 [] [.dp (sgC s b acc),.dp [thn]]
theorem zmF (X:Mt) (a:MS) (hb:0≤a.brd∧a.brd≤1000000) (n:Int) (s:Sg) (hs:s.calls.length≤50) (b:Int) (f2:FuncId) (cap2:List A) (f:FuncId) (cap:List A) (Hb:Heap) (R:A→Heap→Prop) (hW:Wd R) (hR:∃v H',R v H') (R1:A→Heap→Prop) (hR1:∃v H',R1 v H')
  (hI:∀v H',R1 v H'→∃n,v=i64 n) (y:Pat) (i:Nat) (hg:zbd (i64 n) X.ge=some (some (i,.agg y.C)))
  (h0:(n,s.at_)∈s.calls∨s.calls.length≥20→R (i64 0) (Hm X a++Hb))
  (h1:¬((n,s.at_)∈s.calls∨s.calls.length≥20)→TrG [] Tryz.prog 181 [X.p,.agg y.C,.agg (sgC {s with calls:=(n,s.at_)::s.calls} (a.brd+1) (zpP s b (.fn f2 [] cap2) (.fn f [] cap))),zpP s b (.fn f2 [] cap2) (.fn f [] cap)] (Hm X {a with brd:=a.brd+1}++Hb) R1)
  (h2:∀m H',R1 (i64 m) H'→R (i64 (if m=3+(a.brd+1) then 0 else m)) H'):
  TrG [] Tryz.prog 236 [X.p,i64 n,.agg (sgC s b (.fn f2 [] cap2)),.fn f [] cap] (Hm X a++Hb) R:=by
 refine Ja (N:=65) Tryz.func236 I I I ?_;rw [zaX,List.cons_append,List.cons_append,List.cons_append];have hw:IntKind.i64.wrap (a.brd+1)=a.brd+1:=zaS ⟨by omega,by omega⟩
 have hw2:IntKind.i64.wrap (3+(a.brd+1))=3+(a.brd+1):=zaS ⟨by omega,by omega⟩
 have hcl:(s.calls.reverse.map zaf).length=s.calls.length:=by simp
 refine ae0 (ag 2 I (J (Jf I I (zaa I) rfl I (fun _ _=>(ab (J (J9 7 I I (zaa I) rfl (ab (ag 7 I (J (U okL I (.head _) rfl I I I (ab (ag 1 I (J (Jb okL I I I (fun _ _=>(ab (J (J4 okL I I I (zaa I) rfl I I .here I I I (ab (ag 6 I (J (U okL I (.tail _ (.head _)) I I I I (ab (ag 3 I (J3 ?_))))))))))))))))))))))))));rename_i r6 _ r9 _;refine AOps.freezeF 9 (x':=.dp (zaf (n,s.at_))) I (List.Perm.refl _) (Fz.ptr _ _ _) ?_;have hm:(n,s.at_)∈s.calls.reverse↔(n,s.at_)∈s.calls:=List.mem_reverse;have ht:=zi3 s.calls.reverse (n,s.at_)
 (refine J6 I I I (fun g=>?_) (fun g=>?_))
 ·have g:s.calls.length≥20:=by have g:=of_decide_eq_true g;rw [hcl] at g;omega
  refine ab (ag 15 I (O ?_));refine zab (J2 I I) ?_;exact hW.add _ _ [_] (h0 (.inr g))
 ·have g:¬s.calls.length≥20:=by have g:=of_decide_eq_false g;rw [hcl] at g;omega
  refine ab (ag 1 I (Jd I I I (U okL I (.head _) rfl I I I (ab (ag 1 I (Jd I I I (J7 I I I (ht) (ab (ag 3 I (Y ?_))))))))))
  (refine J1 I (fun h=>?_) (fun h=>?_))
  ·have h:(n,s.at_)∈s.calls:=hm.1 (of_decide_eq_true h)
   refine ae (ag 7 I (O ?_));refine zab (J2 I I) ?_;exact hW.add _ _ [_] (h0 (.inl h))
  ·have h:¬(n,s.at_)∈s.calls:=fun e=>of_decide_eq_false h (hm.2 e)
   have hh:¬((n,s.at_)∈s.calls∨s.calls.length≥20):=by rintro (e|e);exact h e;exact g e
   refine ae (ag 4 I (J (U okL I (.head _) rfl I I I (ab (J (Jb okL I I I (fun _ _=>(ab (J (J4 okL I I I (zaa I) rfl I I .here I I I (ab (ag 7 I (J (U okL I (.tail _ (.tail _ (.head _))) I I I I (ab (ag 3 I (J (J4 okL I I I (zaa I) rfl I I (.there (.there .here)) I I I (ab (ag 7 I (J (U okL I (.tail _ (.tail _ (.head _))) I I I I (ab (ag 1 I (J (J4 okL I I I (zaa I) rfl I I (.there .here) rfl I I (ab (ag 3 I (Y ?_)))))))))))))))))))))))))))));rename_i r10 _;rw [hw];refine AWp.freezeF 10 (x':=.dp (sgC s b (.fn f2 [] cap2))) I (List.Perm.refl _) (Fz.ptr _ _ _) ?_;refine Flex.AWp.draw callK (fun _=>.ds [zaf (n,s.at_)]) okL hmix (by kernel_rfl) ?_
   (repeat (first|refine Flex.Plan.pure I I I ?_|refine Flex.Plan.quiet I I (.inl I) (U okL I (.head _) rfl I I I (J8 (Flex.Qn_n ⟨rfl,rfl⟩))) ?_))
   refine Flex.Plan.eff (R:=fun v H'=>∃g,(g=none→s.calls.reverse=[])∧v=outV 2 g (s.calls.reverse.map zaf).length∧H'=outH 295 2 g (s.calls.reverse.map zaf)++((r6,.row 179 25 [sgC s (a.brd+1) (.fn f2 [] cap2)])::(Hm X {a with brd:=a.brd+1}++Hb))) I I I ⟨_,_,some 0,(fun h=>nomatch h),rfl,rfl⟩
    (Jq (Hc:=[]) I I I (List.Perm.refl _) (zmR s.calls.reverse (by rw [List.length_reverse];omega)) fun v H' hr=>?_) ?_
   ·obtain ⟨g,e1,e2,e3⟩:=hr
    exact J8 (Flex.Qn_n ⟨g,e1,e2,by rw [e3];rfl⟩)
   rintro v H' ⟨g,hg',rfl,rfl⟩
   (repeat (refine Flex.Plan.pure I I I ?_))
   refine Flex.Plan.made I I I I I (fun H=>AOp.buildD 43 okL I I I I I I I I I I I I) ?_;refine Flex.Plan.eff1 I I I (AOp.appendD 44 (H0:=(r6,.row 179 25 [sgC s (a.brd+1) (.fn f2 [] cap2)])::(Hm X {a with brd:=a.brd+1}++Hb)) (g:=g) (elems:=s.calls.reverse.map zaf) (news:=[zaf (n,s.at_)]) okL I (fun e=>by rw [hg' e];rfl) List.perm_append_comm I (.ds _) rfl I I I
    (fun c hc=>by rw [List.mem_singleton.1 hc];rfl) (fun c hc=>by rw [List.mem_singleton.1 hc];rfl) (by simp only [List.length_map,List.length_reverse,List.length_singleton,maxLen];omega) (by simp only [List.length_map,List.length_reverse,List.length_singleton];omega) rfl) ?_
   have er:s.calls.reverse.map zaf++[zaf (n,s.at_)]=((n,s.at_)::s.calls).reverse.map zaf:=by simp
   rw [er]
   (repeat (first|refine Flex.Plan.pure I I I ?_|refine Flex.Plan.eff1 I I I (J4 okL I I I (zaa I) rfl I I .here I I I (J8 (Flex.Qn_n ⟨rfl,rfl⟩))) ?_))
   refine Flex.Plan.nil ?_;refine ae (ag 4 I (J (J4 okL I I I (zaa I) rfl I I .here I I I (ab (ag 3 I (Y ?_))))));rw [zaX,List.cons_append,List.cons_append,List.cons_append];refine Heavy.AWp.draw okL hmix (by kernel_rfl) ?_
   (repeat (first|refine Heavy.Plan.pure I I I ?_|refine Heavy.Plan.quiet I I I (U okL I (.tail _ (.head _)) I I I I (J8 (Heavy.Qn_n ⟨rfl,rfl⟩))) ?_))
   refine Heavy.Plan.quiet I I I (AOp.lookup okL I (.tail _ (.tail _ (.head _))) I I I I I I hg I (J8 (Heavy.Qn_n ⟨rfl,rfl⟩))) ?_
   (repeat (first|refine Heavy.Plan.pure I I I ?_|refine Heavy.Plan.quiet I I I (U okL I (.head _) rfl I I I (J8 (Heavy.Qn_n ⟨rfl,rfl⟩))) ?_))
   refine Heavy.Plan.eff (R:=fun v H'=>∃H1,R1 v H1∧H'=(r6,.row 179 25 [sgC {s with calls:=(n,s.at_)::s.calls} (a.brd+1) (zpP s b (.fn f2 [] cap2) (.fn f [] cap))])::H1) rfl rfl rfl (by obtain ⟨v,H1,h⟩:=hR1;exact ⟨v,_,H1,h,rfl⟩)
    (Jc [_] rfl I I I (h1 hh) fun r H' hr=>J8 (Heavy.Qn_n ⟨H',hr,rfl⟩)) ?_
   rintro v H' ⟨H1,hr,rfl⟩;obtain ⟨m,rfl⟩:=hI v H1 hr;have hk:=h2 m H1 hr
   (repeat (refine Heavy.Plan.pure I I I ?_))
   refine Heavy.Plan.nil ?_;refine ae (ag 5 I (J (U okL I (.head _) rfl I I I (ab (ag 4 I (Y ?_))))));rw [hw2]
   (refine J1 I (fun q=>?_) (fun q=>?_))
   ·have q:m=3+(a.brd+1):=by simpa using q
    rw [if_pos q] at hk;refine ae (ag 7 I (O ?_));refine zab (J2 I I) ?_;exact hW.add _ _ [_] hk
   ·have q:¬m=3+(a.brd+1):=by simpa using q
    rw [if_neg q] at hk;refine ae (ag 9 I (O ?_));refine zab (J2 I I) ?_;exact hW.add _ _ [_] hk
theorem zmu (X:Mt) (y:Pat) (op:Int) (n:Int) (hn:0≤n∧n≤3) (mn mx:Int) (nm:List UInt8) (st:List (Int×Int)) (s:Sg) (hs:0≤s.at_∧s.at_≤1000000) (b:Int) (f2:FuncId) (cap2:List A) (f:FuncId) (cap:List A) (Ha Hb:Heap) (R:A→Heap→Prop) (hW:Wd R) (R1:Int→List A→Heap→Prop)
  (lo hi:Int) (hlo:0≤lo∧lo≤1000000000000000000) (hL:PTr Tryz.prog 288 [.agg y.C] (.tup [i64 lo,i64 hi]))
  (h1:(if n>1 then s.at_ - lo else s.at_)≥0→TrG [] Tryz.prog 289 [X.p,.agg (sgC {s with at_:=if n>1 then s.at_ - lo else s.at_} b (.fn f2 [] cap2)),i64 (if n>1 then s.at_ else -1),.fn 290 [] [.dp [X.p],.dp (Pat.mk op n mn mx nm st [y]).C]] Ha
   fun v H'=>∃n e,v=.tup [.agg e,i64 n]∧e.length=25∧zah e=true∧R1 n e H')
  (h0:(if n>1 then s.at_ - lo else s.at_)<0→(n%2=0→R (i64 0) (Ha++Hb))∧(n%2≠0→TrG [] Tryz.prog f ([.agg (sgC s b (.fn f2 [] cap2))]++cap) (Ha++Hb) R))
  (h2:∀e H',R1 2 e H'→R (i64 2) (H'++Hb))
  (h3:∀m e H',m≠2→m≠1→R1 m e H'→(n%2=0→R (i64 0) (H'++Hb))∧(n%2≠0→TrG [] Tryz.prog f ([.agg (sgC s b (.fn f2 [] cap2))]++cap) (H'++Hb) R))
  (h4:∀e H',R1 1 e H'→(n%2≠0→R (i64 0) (H'++Hb))∧(n%2=0→∃s' b' acc',e=sgC s' b' acc'∧TrG [] Tryz.prog f ([.agg (sgC {s with caps:=s'.caps} b (.fn f2 [] cap2))]++cap) (H'++Hb) R)):
  TrG [] Tryz.prog 235 [X.p,.agg (Pat.mk op n mn mx nm st [y]).C,.agg (sgC s b (.fn f2 [] cap2)),.fn f [] cap] (Ha++Hb) R:=by
 refine Ja (N:=63) Tryz.func235 I I I ?_;have hd:([y].map Pat.cells)[((0:Nat):Int).toNat]?=some y.C:=by simp [Pat.cells_eq]
 have hw:IntKind.i64.wrap (s.at_ - lo)=s.at_ - lo:=zaS ⟨by omega,by omega⟩
 have hn':n=0∨n=1∨n=2∨n=3:=by omega
 rcases hn' with rfl|rfl|rfl|rfl
 ·refine ae0 (ag 2 I (J (J9 4 I I (zaa I) rfl (ab (J (J9 5 I I (zaa I) rfl (ab (J (Jf I I (zaa I) rfl I (fun _ _=>(ab (ag 5 I (J (U okL I (.head _) rfl I I I (ab (J (Jb okL I I I (fun _ _=>(ab (J (J4 okL I I I (zaa I) rfl I I .here I I I (ab (ag 17 I (J (Jb okL I I I (fun _ _=>(ab (J (J4 okL I I I (zaa I) rfl I I .here I I I (ab (ag 7 I (J (U okL I (.tail _ (.head _)) I I I I (ab (ag 3 I (Y ?_))))))))))))))))))))))))))))))))))))
  rename_i r6 _ r9 _ r13 _
  (refine J1 I (fun h=>?_) (fun h=>?_))
  ·have h:s.at_≥0:=of_decide_eq_true h
   refine ae (ag 2 I (J (U okL I (.tail _ (.head _)) I I I I (ab (ag 2 I (J3 ?_))))));refine J5 (Jn [_,_,_] Hb I I I I (h1 h) fun v H' hr=>?_)
   obtain ⟨m,e,rfl,he,hl,hk⟩:=hr;refine ab (ag 3 rfl (J3 ?_));refine J5 (J4 okL rfl rfl rfl (zaa rfl) hl rfl he .here rfl (zbg (e:=zhx) rfl he) rfl ?_)
   refine ab (ag 10 I (Y ?_))
   (refine J1 I (fun q=>?_) (fun q=>?_))
   ·have q:m=2:=by simpa using q
    subst q;refine ae (ag 7 rfl (O ?_));refine zab (J2 rfl rfl) ?_;exact hW.add _ _ [_,_,_] (h2 e H' hk)
   ·have q:m≠2:=by simpa using q
    by_cases g:m=1
    ·subst g
     have k4:=h4 e H' hk;refine ae (ag 27 rfl (J3 ?_));obtain ⟨s',b',acc',rfl,ht⟩:=k4.2 (by decide);refine ab (J (U okL rfl (.head _) rfl rfl rfl rfl (ab (ag 1 rfl (J (J4 okL rfl rfl rfl (zaa rfl) rfl rfl rfl (.there (.there .here)) rfl rfl rfl (ab (ag 5 rfl (J (U okL rfl (.tail _ (.tail _ (.head _))) rfl rfl rfl rfl (ab (J3 ?_))))))))))));refine J5 (Jc [_,_,_] rfl rfl rfl rfl ht fun v H' hr=>?_)
     refine ab (ag 4 I (O ?_));refine zab (J2 I I) ?_;exact hW.add _ _ [_,_,_] hr
    ·have k3:=h3 m e H' q g hk
     have hb1:(m==1)=false:=by simpa using g
     refine ae (ag 14 I (Y ?_));rw [hb1];refine ae (ag 8 I (O ?_));refine zab (J2 I I) ?_;exact hW.add _ _ [_,_,_] (k3.1 (by decide))
  ·have h:s.at_<0:=by have:=of_decide_eq_false h;omega
   have k0:=h0 h;refine ae (ag 32 I (O ?_));refine zab (J2 I I) ?_;exact hW.add _ _ [_,_,_] (k0.1 (by decide))
 ·refine ae0 (ag 2 I (J (J9 4 I I (zaa I) rfl (ab (J (J9 5 I I (zaa I) rfl (ab (J (Jf I I (zaa I) rfl I (fun _ _=>(ab (ag 5 I (J (U okL I (.head _) rfl I I I (ab (J (Jb okL I I I (fun _ _=>(ab (J (J4 okL I I I (zaa I) rfl I I .here I I I (ab (ag 17 I (J (Jb okL I I I (fun _ _=>(ab (J (J4 okL I I I (zaa I) rfl I I .here I I I (ab (ag 7 I (J (U okL I (.tail _ (.head _)) I I I I (ab (ag 3 I (Y ?_))))))))))))))))))))))))))))))))))))
  rename_i r6 _ r9 _ r13 _
  (refine J1 I (fun h=>?_) (fun h=>?_))
  ·have h:s.at_≥0:=of_decide_eq_true h
   refine ae (ag 2 I (J (U okL I (.tail _ (.head _)) I I I I (ab (ag 2 I (J3 ?_))))));refine J5 (Jn [_,_,_] Hb I I I I (h1 h) fun v H' hr=>?_)
   obtain ⟨m,e,rfl,he,hl,hk⟩:=hr;refine ab (ag 3 rfl (J3 ?_));refine J5 (J4 okL rfl rfl rfl (zaa rfl) hl rfl he .here rfl (zbg (e:=zhx) rfl he) rfl ?_)
   refine ab (ag 10 I (Y ?_))
   (refine J1 I (fun q=>?_) (fun q=>?_))
   ·have q:m=2:=by simpa using q
    subst q;refine ae (ag 7 rfl (O ?_));refine zab (J2 rfl rfl) ?_;exact hW.add _ _ [_,_,_] (h2 e H' hk)
   ·have q:m≠2:=by simpa using q
    by_cases g:m=1
    ·subst g
     have k4:=h4 e H' hk;refine ae (ag 22 I (O ?_));refine zab (J2 I I) ?_;exact hW.add _ _ [_,_,_] (k4.1 (by decide))
    ·have k3:=h3 m e H' q g hk
     have hb1:(m==1)=false:=by simpa using g
     refine ae (ag 14 I (Y ?_));rw [hb1];refine ae (ag 10 I (Y ?_));rw [hb1];refine ae (ag 6 I (J (U okL I (.tail _ (.tail _ (.head _))) I I I I (ab (J3 ?_)))));refine J5 (Jc [_,_,_] rfl I I I (k3.2 (by decide)) fun v H' hr=>?_)
     refine ab (ag 4 I (O ?_));refine zab (J2 I I) ?_;exact hW.add _ _ [_,_,_] hr
  ·have h:s.at_<0:=by have:=of_decide_eq_false h;omega
   have k0:=h0 h;refine ae (ag 40 I (J (U okL I (.tail _ (.tail _ (.head _))) I I I I (ab (J3 ?_)))));refine J5 (Jc [_,_,_] rfl I I I (k0.2 (by decide)) fun v H' hr=>?_)
   refine ab (ag 4 I (O ?_));refine zab (J2 I I) ?_;exact hW.add _ _ [_,_,_] hr
 ·refine ae0 (ag 2 I (J (J9 4 I I (zaa I) rfl (ab (J (J9 5 I I (zaa I) rfl (ab (J (Jf I I (zaa I) rfl I (fun _ _=>(ab (ag 5 I (J (U okL I (.head _) rfl I I I (ab (J (Jb okL I I I (fun _ _=>(ab (J (J4 okL I I I (zaa I) rfl I I .here I I I (ab (ag 16 I (Jm okL (zai I I I I I (Int.le_refl _) (hd) rfl) rfl (ag 1 I (J (J7 I I I (hL) (ab (ag 10 I (J (U okL I (.head _) rfl I I I (ab (ag 3 I (J (J4 okL I I I (zaa I) rfl I I .here I I I (ab (ag 4 I (J (U okL I (.tail _ (.head _)) I I I I (ab (ag 6 I (J (Jb okL I I I (fun _ _=>(ab (J (J4 okL I I I (zaa I) rfl I I .here I I I (ab (ag 7 I (J (U okL I (.tail _ (.head _)) I I I I (ab (ag 3 I (Y ?_))))))))))))))))))))))))))))))))))))))))))))))))))))))
  rename_i r6 _ r9 _ r13 _;rw [hw]
  (refine J1 I (fun h=>?_) (fun h=>?_))
  ·have h:s.at_ - lo≥0:=of_decide_eq_true h
   refine ae (ag 2 I (J (U okL I (.tail _ (.head _)) I I I I (ab (ag 2 I (J3 ?_))))));refine J5 (Jn [_,_,_] Hb I I I I (h1 h) fun v H' hr=>?_)
   obtain ⟨m,e,rfl,he,hl,hk⟩:=hr;refine ab (ag 3 rfl (J3 ?_));refine J5 (J4 okL rfl rfl rfl (zaa rfl) hl rfl he .here rfl (zbg (e:=zhx) rfl he) rfl ?_)
   refine ab (ag 10 I (Y ?_))
   (refine J1 I (fun q=>?_) (fun q=>?_))
   ·have q:m=2:=by simpa using q
    subst q;refine ae (ag 7 rfl (O ?_));refine zab (J2 rfl rfl) ?_;exact hW.add _ _ [_,_,_] (h2 e H' hk)
   ·have q:m≠2:=by simpa using q
    by_cases g:m=1
    ·subst g
     have k4:=h4 e H' hk;refine ae (ag 27 rfl (J3 ?_));obtain ⟨s',b',acc',rfl,ht⟩:=k4.2 (by decide);refine ab (J (U okL rfl (.head _) rfl rfl rfl rfl (ab (ag 1 rfl (J (J4 okL rfl rfl rfl (zaa rfl) rfl rfl rfl (.there (.there .here)) rfl rfl rfl (ab (ag 5 rfl (J (U okL rfl (.tail _ (.tail _ (.head _))) rfl rfl rfl rfl (ab (J3 ?_))))))))))));refine J5 (Jc [_,_,_] rfl rfl rfl rfl ht fun v H' hr=>?_)
     refine ab (ag 4 I (O ?_));refine zab (J2 I I) ?_;exact hW.add _ _ [_,_,_] hr
    ·have k3:=h3 m e H' q g hk
     have hb1:(m==1)=false:=by simpa using g
     refine ae (ag 14 I (Y ?_));rw [hb1];refine ae (ag 8 I (O ?_));refine zab (J2 I I) ?_;exact hW.add _ _ [_,_,_] (k3.1 (by decide))
  ·have h:s.at_ - lo<0:=by have:=of_decide_eq_false h;omega
   have k0:=h0 h;refine ae (ag 32 I (O ?_));refine zab (J2 I I) ?_;exact hW.add _ _ [_,_,_] (k0.1 (by decide))
 ·refine ae0 (ag 2 I (J (J9 4 I I (zaa I) rfl (ab (J (J9 5 I I (zaa I) rfl (ab (J (Jf I I (zaa I) rfl I (fun _ _=>(ab (ag 5 I (J (U okL I (.head _) rfl I I I (ab (J (Jb okL I I I (fun _ _=>(ab (J (J4 okL I I I (zaa I) rfl I I .here I I I (ab (ag 16 I (Jm okL (zai I I I I I (Int.le_refl _) (hd) rfl) rfl (ag 1 I (J (J7 I I I (hL) (ab (ag 10 I (J (U okL I (.head _) rfl I I I (ab (ag 3 I (J (J4 okL I I I (zaa I) rfl I I .here I I I (ab (ag 4 I (J (U okL I (.tail _ (.head _)) I I I I (ab (ag 6 I (J (Jb okL I I I (fun _ _=>(ab (J (J4 okL I I I (zaa I) rfl I I .here I I I (ab (ag 7 I (J (U okL I (.tail _ (.head _)) I I I I (ab (ag 3 I (Y ?_))))))))))))))))))))))))))))))))))))))))))))))))))))))
  rename_i r6 _ r9 _ r13 _;rw [hw]
  (refine J1 I (fun h=>?_) (fun h=>?_))
  ·have h:s.at_ - lo≥0:=of_decide_eq_true h
   refine ae (ag 2 I (J (U okL I (.tail _ (.head _)) I I I I (ab (ag 2 I (J3 ?_))))));refine J5 (Jn [_,_,_] Hb I I I I (h1 h) fun v H' hr=>?_)
   obtain ⟨m,e,rfl,he,hl,hk⟩:=hr;refine ab (ag 3 rfl (J3 ?_));refine J5 (J4 okL rfl rfl rfl (zaa rfl) hl rfl he .here rfl (zbg (e:=zhx) rfl he) rfl ?_)
   refine ab (ag 10 I (Y ?_))
   (refine J1 I (fun q=>?_) (fun q=>?_))
   ·have q:m=2:=by simpa using q
    subst q;refine ae (ag 7 rfl (O ?_));refine zab (J2 rfl rfl) ?_;exact hW.add _ _ [_,_,_] (h2 e H' hk)
   ·have q:m≠2:=by simpa using q
    by_cases g:m=1
    ·subst g
     have k4:=h4 e H' hk;refine ae (ag 22 I (O ?_));refine zab (J2 I I) ?_;exact hW.add _ _ [_,_,_] (k4.1 (by decide))
    ·have k3:=h3 m e H' q g hk
     have hb1:(m==1)=false:=by simpa using g
     refine ae (ag 14 I (Y ?_));rw [hb1];refine ae (ag 10 I (Y ?_));rw [hb1];refine ae (ag 6 I (J (U okL I (.tail _ (.tail _ (.head _))) I I I I (ab (J3 ?_)))));refine J5 (Jc [_,_,_] rfl I I I (k3.2 (by decide)) fun v H' hr=>?_)
     refine ab (ag 4 I (O ?_));refine zab (J2 I I) ?_;exact hW.add _ _ [_,_,_] hr
  ·have h:s.at_ - lo<0:=by have:=of_decide_eq_false h;omega
   have k0:=h0 h;refine ae (ag 40 I (J (U okL I (.tail _ (.tail _ (.head _))) I I I I (ab (J3 ?_)))));refine J5 (Jc [_,_,_] rfl I I I (k0.2 (by decide)) fun v H' hr=>?_)
   refine ab (ag 4 I (O ?_));refine zab (J2 I I) ?_;exact hW.add _ _ [_,_,_] hr
def bitM (mask n:Int):Bool:=IntKind.i64.wrap ((BitVec.ofInt IntKind.i64.bits (mask.fdiv (2^min n.toNat IntKind.i64.bits))&&&BitVec.ofInt IntKind.i64.bits 1).toNat:Int)==1
theorem zpD (V:Wide) (X:Mt) (a:MS) (ha:MOk V X a) (x:Pat) (hn:0≤x.n∧x.n≤9) (s:Sg) (b:Int) (f2:FuncId) (cap2:List A):
  TrG [] Tryz.prog 230 [X.p,i64 x.n,.agg (sgC s b (.fn f2 [] cap2))] (Hm X a) fun v H'=>v=.bool (bitM X.mask x.n)∧∃a' G,a'.w=zbY x a.w∧a'.brd=a.brd∧MOk V X a'∧H'.Perm (G++Hm X a'):=by
 refine Ja (N:=51) Tryz.func230 rfl rfl rfl ?_;obtain ⟨w,brd,bg,g,we⟩:=a;have hc:=ha.codes;simp only at hc;have fin:∀r',w.codes.length<100→∃a' G,a'.w=zbY x w∧a'.brd=brd∧MOk V X a'∧((X.m,Blk.row 125 19 [mC X ⟨{w with codes:=w.codes++[x.n]},brd,bg,some r',we⟩])::(X.rg,Blk.map X.ge)::(X.rw,Blk.map we)::outH 3 1 (some r') ((w.codes++[x.n]).map zC)).Perm (G++Hm X a'):=fun r' h=>by
  have e:zbY x w={w with codes:=w.codes++[x.n]}:=if_pos h
  exact ⟨⟨zbY x w,brd,bg,some r',we⟩,[],rfl,rfl,⟨(fun h=>nomatch h),by rw [e];simp only [List.length_append,List.length_singleton];omega,by have:=ha.brd;rw [e];exact this,ha.we⟩,by rw [e];exact List.Perm.refl _⟩
 cases g with
 |none=>
  have h0:w.codes=[]:=ha.g rfl;have h:w.codes.length<100:=by rw [h0];simp
  rw [zaX];refine ae0 (ag 2 I (J (J9 5 I I (zaa I) rfl (ab (ag 9 I (J (U okL I (.head _) rfl I I I (ab (ag 12 I (J (U okL I (.head _) rfl I I I (ab (ag 10 I (J (U okL I (.head _) rfl I I I (ab (ag 1 I (J (Jl okL I I I I I I I I I I I (fun _ _=>(ab (J3 ?_))))))))))))))))))))));refine J5 (AOp.pushL zC none w.codes [x.n] [_,_,_] okL (fun _=>h0) rfl I I (by simp) rfl I I I (fun a _=>rfl) (fun a _=>rfl) (by simp only [List.length_singleton];omega) rfl I fun r' _=>?_)
  refine ab (ag 2 I (J (J4 okL I I I (zaa I) rfl I I .here I I I (ab (ag 7 I (J (U okL I (.head _) rfl I I I (ab (ag 1 I (J3 ?_))))))))));refine J5 (AOp.shr I I hn.1 I ?_)
  refine ab (ag 6 I (O ?_));refine zab (J2 I I) ?_;exact ⟨rfl,fin r' h⟩
 |some r=>
  rw [zaX];refine ae0 (ag 2 I (J (J9 5 I I (zaa I) rfl (ab (ag 9 I (J (U okL I (.head _) rfl I I I (ab (ag 12 I (J (U okL I (.head _) rfl I I I (ab (ag 4 I (Y ?_))))))))))))))
  (refine J1 I (fun h=>?_) (fun h=>?_))
  ·have h:w.codes.length<100:=by have h:((w.codes.length:Nat):Int)<100:=of_decide_eq_true h;omega
   refine ae (ag 5 I (J (U okL I (.head _) rfl I I I (ab (ag 1 I (J (Jl okL I I I I I I I I I I I (fun _ _=>(ab (J3 ?_))))))))));refine J5 (AOp.pushL zC (some r) w.codes [x.n] [_,_,_] okL (fun h=>nomatch h) rfl I I (by simp) rfl I I I (fun a _=>rfl) (fun a _=>rfl) (by simp only [List.length_singleton];omega) rfl I fun r' _=>?_)
   refine ab (ag 2 I (J (J4 okL I I I (zaa I) rfl I I .here I I I (ab (ag 7 I (J (U okL I (.head _) rfl I I I (ab (ag 1 I (J3 ?_))))))))));refine J5 (AOp.shr I I hn.1 I ?_)
   refine ab (ag 6 I (O ?_));refine zab (J2 I I) ?_;exact ⟨rfl,fin r' h⟩
  ·have h:¬w.codes.length<100:=by have h:¬((w.codes.length:Nat):Int)<100:=of_decide_eq_false h;omega
   have e:zbY x w=w:=if_neg h;refine ae (ag 7 I (J (U okL I (.head _) rfl I I I (ab (ag 1 I (J3 ?_))))));refine J5 (AOp.shr I I hn.1 I ?_)
   refine ab (ag 6 I (O ?_));refine zab (J2 I I) ?_;exact ⟨rfl,⟨w,brd,bg,some r,we⟩,[],e.symm,rfl,ha,List.Perm.refl _⟩
def zam (a:MS):MS:={a with w:=tick a.w}
theorem zrl (X:Mt) (a:MS) (hp:a.w.p≤1000000) (n mn mx:Int) (nm:List UInt8) (st:List (Int×Int)) (l:List Pat) (s:Sg) (b:Int) (f2:FuncId) (cap2:List A) (f:FuncId) (cap:List A) (Hb:Heap) (R:A→Heap→Prop) (hW:Wd R)
  (ht:a.w.p+1>20000→R (i64 2) (Hm X (zam a)++Hb))
  (RC:Bool→Heap→Prop)
  (hc:¬a.w.p+1>20000→TrG [] Tryz.prog 227 [X.p,.agg (Pat.mk 1 n mn mx nm st l).C,i64 s.at_] (Hm X (zam a)) fun v H'=>∃t:Bool,v=.bool t∧RC t H')
  (h0:∀H',RC false H'→R (i64 0) (H'++Hb)) (h1:∀H',RC true H'→TrG [] Tryz.prog f ([.agg (sgC {s with at_:=IntKind.i64.wrap (s.at_+1)} b (.fn f2 [] cap2))]++cap) (H'++Hb) R)
  :TrG [] Tryz.prog 181 [X.p,.agg (Pat.mk 1 n mn mx nm st l).C,.agg (sgC s b (.fn f2 [] cap2)),.fn f [] cap] (Hm X a++Hb) R:=by
 refine Ja (N:=186) Tryz.func181 I I I ?_;rw [zaX,List.cons_append,List.cons_append,List.cons_append];have hw:IntKind.i64.wrap ((a.w.p:Int)+1)=((a.w.p+1:Nat):Int):=by rw [zaS ⟨by omega,by omega⟩];omega
 refine ae0 (ag 2 I (J (J9 5 I I (zaa I) rfl (ab (J (Jf I I (zaa I) rfl I (fun _ _=>(ab (J (J9 7 I I (zaa I) rfl (ab (ag 8 I (J (U okL I (.tail _ (.head _)) I I I I (ab (ag 3 I (J (J4 okL I I I (zaa I) rfl I I (.there .here) rfl I I (ab (ag 8 I (J (U okL I (.tail _ (.head _)) I I I I (ab (ag 3 I (Y ?_)))))))))))))))))))))))));rename_i r6 _;rw [hw]
 (refine J1 I (fun hq=>?_) (fun hq=>?_))
 ·have hq:a.w.p+1>20000:=by have hq:=of_decide_eq_true hq;omega
  refine ae (ag 7 I (O ?_));refine zab (J2 I I) ?_;exact hW.add _ _ [_] (ht hq)
 have hq:¬a.w.p+1>20000:=by have hq:=of_decide_eq_false hq;omega
 refine ae (ag 27 I (J (U okL I (.head _) rfl I I I (ab (J3 ?_)))));refine J5 (Jn [_] Hb I I I I (hc hq) fun v H' hr=>?_)
 obtain ⟨t,rfl,hr⟩:=hr;cases t with
 |false=>
  refine ab (ag 13 I (O ?_));refine zab (J2 I I) ?_;exact hW.add _ _ [_] (h0 _ hr)
 |true=>
  refine ab (ag 8 I (J (U okL I (.head _) rfl I I I (ab (ag 2 I (J (J4 okL I I I (zaa I) rfl I I .here I I I (ab (ag 6 I (J (U okL I (.head _) rfl I I I (ab (J3 ?_)))))))))))));refine J5 (Jc [_] rfl I I I (h1 _ hr) fun v H' hr=>?_)
  refine ab (ag 4 I (O ?_));refine zab (J2 I I) ?_;exact hW.add _ _ [_] hr
theorem zrp (X:Mt) (a:MS) (hp:a.w.p≤1000000) (n mn mx:Int) (nm:List UInt8) (st:List (Int×Int)) (l:List Pat) (s:Sg) (b:Int) (f2:FuncId) (cap2:List A) (f:FuncId) (cap:List A) (Hb:Heap) (R:A→Heap→Prop) (hW:Wd R)
  (ht:a.w.p+1>20000→R (i64 2) (Hm X (zam a)++Hb))
  (RC:Bool→Heap→Prop)
  (hc:¬a.w.p+1>20000→TrG [] Tryz.prog 227 [X.p,.agg (Pat.mk 2 n mn mx nm st l).C,i64 s.at_] (Hm X (zam a)) fun v H'=>∃t:Bool,v=.bool t∧RC t H')
  (h0:∀H',RC false H'→R (i64 0) (H'++Hb)) (h1:∀H',RC true H'→TrG [] Tryz.prog f ([.agg (sgC {s with at_:=IntKind.i64.wrap (s.at_+1)} b (.fn f2 [] cap2))]++cap) (H'++Hb) R)
  :TrG [] Tryz.prog 181 [X.p,.agg (Pat.mk 2 n mn mx nm st l).C,.agg (sgC s b (.fn f2 [] cap2)),.fn f [] cap] (Hm X a++Hb) R:=by
 refine Ja (N:=186) Tryz.func181 I I I ?_;rw [zaX,List.cons_append,List.cons_append,List.cons_append];have hw:IntKind.i64.wrap ((a.w.p:Int)+1)=((a.w.p+1:Nat):Int):=by rw [zaS ⟨by omega,by omega⟩];omega
 refine ae0 (ag 2 I (J (J9 5 I I (zaa I) rfl (ab (J (Jf I I (zaa I) rfl I (fun _ _=>(ab (J (J9 7 I I (zaa I) rfl (ab (ag 8 I (J (U okL I (.tail _ (.head _)) I I I I (ab (ag 3 I (J (J4 okL I I I (zaa I) rfl I I (.there .here) rfl I I (ab (ag 8 I (J (U okL I (.tail _ (.head _)) I I I I (ab (ag 3 I (Y ?_)))))))))))))))))))))))));rename_i r6 _;rw [hw]
 (refine J1 I (fun hq=>?_) (fun hq=>?_))
 ·have hq:a.w.p+1>20000:=by have hq:=of_decide_eq_true hq;omega
  refine ae (ag 7 I (O ?_));refine zab (J2 I I) ?_;exact hW.add _ _ [_] (ht hq)
 have hq:¬a.w.p+1>20000:=by have hq:=of_decide_eq_false hq;omega
 refine ae (ag 34 I (J (U okL I (.head _) rfl I I I (ab (J3 ?_)))));refine J5 (Jn [_] Hb I I I I (hc hq) fun v H' hr=>?_)
 obtain ⟨t,rfl,hr⟩:=hr;cases t with
 |false=>
  refine ab (ag 13 I (O ?_));refine zab (J2 I I) ?_;exact hW.add _ _ [_] (h0 _ hr)
 |true=>
  refine ab (ag 8 I (J (U okL I (.head _) rfl I I I (ab (ag 2 I (J (J4 okL I I I (zaa I) rfl I I .here I I I (ab (ag 6 I (J (U okL I (.head _) rfl I I I (ab (J3 ?_)))))))))))));refine J5 (Jc [_] rfl I I I (h1 _ hr) fun v H' hr=>?_)
  refine ab (ag 4 I (O ?_));refine zab (J2 I I) ?_;exact hW.add _ _ [_] hr
theorem zqS (X:Mt) (a:MS) (hp:a.w.p≤1000000) (n mn mx:Int) (nm:List UInt8) (st:List (Int×Int)) (l:List Pat) (s:Sg) (b:Int) (f2:FuncId) (cap2:List A) (f:FuncId) (cap:List A) (Hb:Heap) (R:A→Heap→Prop) (hW:Wd R)
  (ht:a.w.p+1>20000→R (i64 2) (Hm X (zam a)++Hb))
  (RC:Bool→Heap→Prop)
  (hc:¬a.w.p+1>20000→TrG [] Tryz.prog 227 [X.p,.agg (Pat.mk 3 n mn mx nm st l).C,i64 s.at_] (Hm X (zam a)) fun v H'=>∃t:Bool,v=.bool t∧RC t H')
  (h0:∀H',RC false H'→R (i64 0) (H'++Hb)) (h1:∀H',RC true H'→TrG [] Tryz.prog f ([.agg (sgC {s with at_:=IntKind.i64.wrap (s.at_+1)} b (.fn f2 [] cap2))]++cap) (H'++Hb) R)
  :TrG [] Tryz.prog 181 [X.p,.agg (Pat.mk 3 n mn mx nm st l).C,.agg (sgC s b (.fn f2 [] cap2)),.fn f [] cap] (Hm X a++Hb) R:=by
 refine Ja (N:=186) Tryz.func181 I I I ?_;rw [zaX,List.cons_append,List.cons_append,List.cons_append];have hw:IntKind.i64.wrap ((a.w.p:Int)+1)=((a.w.p+1:Nat):Int):=by rw [zaS ⟨by omega,by omega⟩];omega
 refine ae0 (ag 2 I (J (J9 5 I I (zaa I) rfl (ab (J (Jf I I (zaa I) rfl I (fun _ _=>(ab (J (J9 7 I I (zaa I) rfl (ab (ag 8 I (J (U okL I (.tail _ (.head _)) I I I I (ab (ag 3 I (J (J4 okL I I I (zaa I) rfl I I (.there .here) rfl I I (ab (ag 8 I (J (U okL I (.tail _ (.head _)) I I I I (ab (ag 3 I (Y ?_)))))))))))))))))))))))));rename_i r6 _;rw [hw]
 (refine J1 I (fun hq=>?_) (fun hq=>?_))
 ·have hq:a.w.p+1>20000:=by have hq:=of_decide_eq_true hq;omega
  refine ae (ag 7 I (O ?_));refine zab (J2 I I) ?_;exact hW.add _ _ [_] (ht hq)
 have hq:¬a.w.p+1>20000:=by have hq:=of_decide_eq_false hq;omega
 refine ae (ag 37 I (J (U okL I (.head _) rfl I I I (ab (J3 ?_)))));refine J5 (Jn [_] Hb I I I I (hc hq) fun v H' hr=>?_)
 obtain ⟨t,rfl,hr⟩:=hr;cases t with
 |false=>
  refine ab (ag 13 I (O ?_));refine zab (J2 I I) ?_;exact hW.add _ _ [_] (h0 _ hr)
 |true=>
  refine ab (ag 8 I (J (U okL I (.head _) rfl I I I (ab (ag 2 I (J (J4 okL I I I (zaa I) rfl I I .here I I I (ab (ag 6 I (J (U okL I (.head _) rfl I I I (ab (J3 ?_)))))))))))));refine J5 (Jc [_] rfl I I I (h1 _ hr) fun v H' hr=>?_)
  refine ab (ag 4 I (O ?_));refine zab (J2 I I) ?_;exact hW.add _ _ [_] hr
theorem zp5 (X:Mt) (a:MS) (hp:a.w.p≤1000000) (n mn mx:Int) (nm:List UInt8) (st:List (Int×Int)) (l:List Pat) (s:Sg) (b:Int) (f2:FuncId) (cap2:List A) (f:FuncId) (cap:List A) (Hb:Heap) (R:A→Heap→Prop) (hW:Wd R)
  (ht:a.w.p+1>20000→R (i64 2) (Hm X (zam a)++Hb))
  (RC:Bool→Heap→Prop)
  (hc:¬a.w.p+1>20000→TrG [] Tryz.prog 228 [X.p,.agg (Pat.mk 11 n mn mx nm st l).C,i64 s.at_] (Hm X (zam a)) fun v H'=>∃t:Bool,v=.bool t∧RC t H')
  (h0:∀H',RC false H'→R (i64 0) (H'++Hb)) (h1:∀H',RC true H'→TrG [] Tryz.prog f ([.agg (sgC s b (.fn f2 [] cap2))]++cap) (H'++Hb) R)
  :TrG [] Tryz.prog 181 [X.p,.agg (Pat.mk 11 n mn mx nm st l).C,.agg (sgC s b (.fn f2 [] cap2)),.fn f [] cap] (Hm X a++Hb) R:=by
 refine Ja (N:=186) Tryz.func181 I I I ?_;rw [zaX,List.cons_append,List.cons_append,List.cons_append];have hw:IntKind.i64.wrap ((a.w.p:Int)+1)=((a.w.p+1:Nat):Int):=by rw [zaS ⟨by omega,by omega⟩];omega
 refine ae0 (ag 2 I (J (J9 5 I I (zaa I) rfl (ab (J (Jf I I (zaa I) rfl I (fun _ _=>(ab (J (J9 7 I I (zaa I) rfl (ab (ag 8 I (J (U okL I (.tail _ (.head _)) I I I I (ab (ag 3 I (J (J4 okL I I I (zaa I) rfl I I (.there .here) rfl I I (ab (ag 8 I (J (U okL I (.tail _ (.head _)) I I I I (ab (ag 3 I (Y ?_)))))))))))))))))))))))));rename_i r6 _;rw [hw]
 (refine J1 I (fun hq=>?_) (fun hq=>?_))
 ·have hq:a.w.p+1>20000:=by have hq:=of_decide_eq_true hq;omega
  refine ae (ag 7 I (O ?_));refine zab (J2 I I) ?_;exact hW.add _ _ [_] (ht hq)
 have hq:¬a.w.p+1>20000:=by have hq:=of_decide_eq_false hq;omega
 refine ae (ag 47 I (J (U okL I (.head _) rfl I I I (ab (J3 ?_)))));refine J5 (Jn [_] Hb I I I I (hc hq) fun v H' hr=>?_)
 obtain ⟨t,rfl,hr⟩:=hr;cases t with
 |false=>
  refine ab (ag 12 I (O ?_));refine zab (J2 I I) ?_;exact hW.add _ _ [_] (h0 _ hr)
 |true=>
  refine ab (ag 10 I (J (U okL I (.head _) rfl I I I (ab (J3 ?_)))));refine J5 (Jc [_] rfl I I I (h1 _ hr) fun v H' hr=>?_)
  refine ab (ag 4 I (O ?_));refine zab (J2 I I) ?_;exact hW.add _ _ [_] hr
theorem zp4 (X:Mt) (a:MS) (hp:a.w.p≤1000000) (n mn mx:Int) (nm:List UInt8) (st:List (Int×Int)) (l:List Pat) (s:Sg) (b:Int) (f2:FuncId) (cap2:List A) (f:FuncId) (cap:List A) (Hb:Heap) (R:A→Heap→Prop) (hW:Wd R)
  (ht:a.w.p+1>20000→R (i64 2) (Hm X (zam a)++Hb))
  (RC:Bool→Heap→Prop)
  (hc:¬a.w.p+1>20000→TrG [] Tryz.prog 228 [X.p,.agg (Pat.mk 12 n mn mx nm st l).C,i64 s.at_] (Hm X (zam a)) fun v H'=>∃t:Bool,v=.bool t∧RC t H')
  (h0:∀H',RC false H'→R (i64 0) (H'++Hb)) (h1:∀H',RC true H'→TrG [] Tryz.prog f ([.agg (sgC s b (.fn f2 [] cap2))]++cap) (H'++Hb) R)
  :TrG [] Tryz.prog 181 [X.p,.agg (Pat.mk 12 n mn mx nm st l).C,.agg (sgC s b (.fn f2 [] cap2)),.fn f [] cap] (Hm X a++Hb) R:=by
 refine Ja (N:=186) Tryz.func181 I I I ?_;rw [zaX,List.cons_append,List.cons_append,List.cons_append];have hw:IntKind.i64.wrap ((a.w.p:Int)+1)=((a.w.p+1:Nat):Int):=by rw [zaS ⟨by omega,by omega⟩];omega
 refine ae0 (ag 2 I (J (J9 5 I I (zaa I) rfl (ab (J (Jf I I (zaa I) rfl I (fun _ _=>(ab (J (J9 7 I I (zaa I) rfl (ab (ag 8 I (J (U okL I (.tail _ (.head _)) I I I I (ab (ag 3 I (J (J4 okL I I I (zaa I) rfl I I (.there .here) rfl I I (ab (ag 8 I (J (U okL I (.tail _ (.head _)) I I I I (ab (ag 3 I (Y ?_)))))))))))))))))))))))));rename_i r6 _;rw [hw]
 (refine J1 I (fun hq=>?_) (fun hq=>?_))
 ·have hq:a.w.p+1>20000:=by have hq:=of_decide_eq_true hq;omega
  refine ae (ag 7 I (O ?_));refine zab (J2 I I) ?_;exact hW.add _ _ [_] (ht hq)
 have hq:¬a.w.p+1>20000:=by have hq:=of_decide_eq_false hq;omega
 refine ae (ag 54 I (J (U okL I (.head _) rfl I I I (ab (J3 ?_)))));refine J5 (Jn [_] Hb I I I I (hc hq) fun v H' hr=>?_)
 obtain ⟨t,rfl,hr⟩:=hr;cases t with
 |false=>
  refine ab (ag 12 I (O ?_));refine zab (J2 I I) ?_;exact hW.add _ _ [_] (h0 _ hr)
 |true=>
  refine ab (ag 10 I (J (U okL I (.head _) rfl I I I (ab (J3 ?_)))));refine J5 (Jc [_] rfl I I I (h1 _ hr) fun v H' hr=>?_)
  refine ab (ag 4 I (O ?_));refine zab (J2 I I) ?_;exact hW.add _ _ [_] hr
theorem zqc (X:Mt) (a:MS) (hp:a.w.p≤1000000) (n mn mx:Int) (nm:List UInt8) (st:List (Int×Int)) (l:List Pat) (s:Sg) (b:Int) (f2:FuncId) (cap2:List A) (f:FuncId) (cap:List A) (Hb:Heap) (R:A→Heap→Prop) (hW:Wd R)
  (ht:a.w.p+1>20000→R (i64 2) (Hm X (zam a)++Hb))
  (RC:Bool→Heap→Prop)
  (hc:¬a.w.p+1>20000→TrG [] Tryz.prog 228 [X.p,.agg (Pat.mk 13 n mn mx nm st l).C,i64 s.at_] (Hm X (zam a)) fun v H'=>∃t:Bool,v=.bool t∧RC t H')
  (h0:∀H',RC false H'→R (i64 0) (H'++Hb)) (h1:∀H',RC true H'→TrG [] Tryz.prog f ([.agg (sgC s b (.fn f2 [] cap2))]++cap) (H'++Hb) R)
  :TrG [] Tryz.prog 181 [X.p,.agg (Pat.mk 13 n mn mx nm st l).C,.agg (sgC s b (.fn f2 [] cap2)),.fn f [] cap] (Hm X a++Hb) R:=by
 refine Ja (N:=186) Tryz.func181 I I I ?_;rw [zaX,List.cons_append,List.cons_append,List.cons_append];have hw:IntKind.i64.wrap ((a.w.p:Int)+1)=((a.w.p+1:Nat):Int):=by rw [zaS ⟨by omega,by omega⟩];omega
 refine ae0 (ag 2 I (J (J9 5 I I (zaa I) rfl (ab (J (Jf I I (zaa I) rfl I (fun _ _=>(ab (J (J9 7 I I (zaa I) rfl (ab (ag 8 I (J (U okL I (.tail _ (.head _)) I I I I (ab (ag 3 I (J (J4 okL I I I (zaa I) rfl I I (.there .here) rfl I I (ab (ag 8 I (J (U okL I (.tail _ (.head _)) I I I I (ab (ag 3 I (Y ?_)))))))))))))))))))))))));rename_i r6 _;rw [hw]
 (refine J1 I (fun hq=>?_) (fun hq=>?_))
 ·have hq:a.w.p+1>20000:=by have hq:=of_decide_eq_true hq;omega
  refine ae (ag 7 I (O ?_));refine zab (J2 I I) ?_;exact hW.add _ _ [_] (ht hq)
 have hq:¬a.w.p+1>20000:=by have hq:=of_decide_eq_false hq;omega
 refine ae (ag 57 I (J (U okL I (.head _) rfl I I I (ab (J3 ?_)))));refine J5 (Jn [_] Hb I I I I (hc hq) fun v H' hr=>?_)
 obtain ⟨t,rfl,hr⟩:=hr;cases t with
 |false=>
  refine ab (ag 12 I (O ?_));refine zab (J2 I I) ?_;exact hW.add _ _ [_] (h0 _ hr)
 |true=>
  refine ab (ag 10 I (J (U okL I (.head _) rfl I I I (ab (J3 ?_)))));refine J5 (Jc [_] rfl I I I (h1 _ hr) fun v H' hr=>?_)
  refine ab (ag 4 I (O ?_));refine zab (J2 I I) ?_;exact hW.add _ _ [_] hr
theorem znz (X:Mt) (a:MS) (hp:a.w.p≤1000000) (n mn mx:Int) (nm:List UInt8) (st:List (Int×Int)) (l:List Pat) (s:Sg) (b:Int) (f2:FuncId) (cap2:List A) (f:FuncId) (cap:List A) (Hb:Heap) (R:A→Heap→Prop) (hW:Wd R)
  (ht:a.w.p+1>20000→R (i64 2) (Hm X (zam a)++Hb))
  (RC:Bool→Heap→Prop)
  (hc:¬a.w.p+1>20000→TrG [] Tryz.prog 230 [X.p,i64 n,.agg (sgC s b (.fn f2 [] cap2))] (Hm X (zam a)) fun v H'=>∃t:Bool,v=.bool t∧RC t H')
  (h0:∀H',RC false H'→R (i64 0) (H'++Hb)) (h1:∀H',RC true H'→TrG [] Tryz.prog f ([.agg (sgC s b (.fn f2 [] cap2))]++cap) (H'++Hb) R)
  :TrG [] Tryz.prog 181 [X.p,.agg (Pat.mk 17 n mn mx nm st l).C,.agg (sgC s b (.fn f2 [] cap2)),.fn f [] cap] (Hm X a++Hb) R:=by
 refine Ja (N:=186) Tryz.func181 I I I ?_;rw [zaX,List.cons_append,List.cons_append,List.cons_append];have hw:IntKind.i64.wrap ((a.w.p:Int)+1)=((a.w.p+1:Nat):Int):=by rw [zaS ⟨by omega,by omega⟩];omega
 refine ae0 (ag 2 I (J (J9 5 I I (zaa I) rfl (ab (J (Jf I I (zaa I) rfl I (fun _ _=>(ab (J (J9 7 I I (zaa I) rfl (ab (ag 8 I (J (U okL I (.tail _ (.head _)) I I I I (ab (ag 3 I (J (J4 okL I I I (zaa I) rfl I I (.there .here) rfl I I (ab (ag 8 I (J (U okL I (.tail _ (.head _)) I I I I (ab (ag 3 I (Y ?_)))))))))))))))))))))))));rename_i r6 _;rw [hw]
 (refine J1 I (fun hq=>?_) (fun hq=>?_))
 ·have hq:a.w.p+1>20000:=by have hq:=of_decide_eq_true hq;omega
  refine ae (ag 7 I (O ?_));refine zab (J2 I I) ?_;exact hW.add _ _ [_] (ht hq)
 have hq:¬a.w.p+1>20000:=by have hq:=of_decide_eq_false hq;omega
 refine ae (ag 78 I (J (U okL I (.head _) rfl I I I (ab (J3 ?_)))));refine J5 (Jn [_] Hb I I I I (hc hq) fun v H' hr=>?_)
 obtain ⟨t,rfl,hr⟩:=hr;cases t with
 |false=>
  refine ab (ag 12 I (O ?_));refine zab (J2 I I) ?_;exact hW.add _ _ [_] (h0 _ hr)
 |true=>
  refine ab (ag 10 I (J (U okL I (.head _) rfl I I I (ab (J3 ?_)))));refine J5 (Jc [_] rfl I I I (h1 _ hr) fun v H' hr=>?_)
  refine ab (ag 4 I (O ?_));refine zab (J2 I I) ?_;exact hW.add _ _ [_] hr
theorem zmA (X:Mt) (a:MS) (hp:a.w.p≤1000000) (n mn mx:Int) (nm:List UInt8) (st:List (Int×Int)) (l:List Pat) (s:Sg) (b:Int) (f2:FuncId) (cap2:List A) (f:FuncId) (cap:List A) (Hb:Heap) (R:A→Heap→Prop) (hW:Wd R)
  (ht:a.w.p+1>20000→R (i64 2) (Hm X (zam a)++Hb))
  (h1:¬a.w.p+1>20000→TrG [] Tryz.prog f ([.agg (sgC s b (.fn f2 [] cap2))]++cap) (Hm X (zam a)++Hb) R)
  :TrG [] Tryz.prog 181 [X.p,.agg (Pat.mk 0 n mn mx nm st l).C,.agg (sgC s b (.fn f2 [] cap2)),.fn f [] cap] (Hm X a++Hb) R:=by
 refine Ja (N:=186) Tryz.func181 I I I ?_;rw [zaX,List.cons_append,List.cons_append,List.cons_append];have hw:IntKind.i64.wrap ((a.w.p:Int)+1)=((a.w.p+1:Nat):Int):=by rw [zaS ⟨by omega,by omega⟩];omega
 refine ae0 (ag 2 I (J (J9 5 I I (zaa I) rfl (ab (J (Jf I I (zaa I) rfl I (fun _ _=>(ab (J (J9 7 I I (zaa I) rfl (ab (ag 8 I (J (U okL I (.tail _ (.head _)) I I I I (ab (ag 3 I (J (J4 okL I I I (zaa I) rfl I I (.there .here) rfl I I (ab (ag 8 I (J (U okL I (.tail _ (.head _)) I I I I (ab (ag 3 I (Y ?_)))))))))))))))))))))))));rename_i r6 _;rw [hw]
 (refine J1 I (fun hq=>?_) (fun hq=>?_))
 ·have hq:a.w.p+1>20000:=by have hq:=of_decide_eq_true hq;omega
  refine ae (ag 7 I (O ?_));refine zab (J2 I I) ?_;exact hW.add _ _ [_] (ht hq)
 have hq:¬a.w.p+1>20000:=by have hq:=of_decide_eq_false hq;omega
 refine ae (ag 142 I (J (U okL I (.head _) rfl I I I (ab (J3 ?_)))));refine J5 (Jc [_] rfl I I I (h1 hq) fun v H' hr=>?_)
 refine ab (ag 4 I (O ?_));refine zab (J2 I I) ?_;exact hW.add _ _ [_] hr
theorem zoG (X:Mt) (a:MS) (hp:a.w.p≤1000000) (n mn mx:Int) (nm:List UInt8) (st:List (Int×Int)) (l:List Pat) (s:Sg) (b:Int) (f2:FuncId) (cap2:List A) (f:FuncId) (cap:List A) (Hb:Heap) (R:A→Heap→Prop) (hW:Wd R)
  (ht:a.w.p+1>20000→R (i64 2) (Hm X (zam a)++Hb))
  (h1:¬a.w.p+1>20000→TrG [] Tryz.prog f ([.agg (sgC {s with keep:=s.at_} b (.fn f2 [] cap2))]++cap) (Hm X (zam a)++Hb) R)
  :TrG [] Tryz.prog 181 [X.p,.agg (Pat.mk 18 n mn mx nm st l).C,.agg (sgC s b (.fn f2 [] cap2)),.fn f [] cap] (Hm X a++Hb) R:=by
 refine Ja (N:=186) Tryz.func181 I I I ?_;rw [zaX,List.cons_append,List.cons_append,List.cons_append];have hw:IntKind.i64.wrap ((a.w.p:Int)+1)=((a.w.p+1:Nat):Int):=by rw [zaS ⟨by omega,by omega⟩];omega
 refine ae0 (ag 2 I (J (J9 5 I I (zaa I) rfl (ab (J (Jf I I (zaa I) rfl I (fun _ _=>(ab (J (J9 7 I I (zaa I) rfl (ab (ag 8 I (J (U okL I (.tail _ (.head _)) I I I I (ab (ag 3 I (J (J4 okL I I I (zaa I) rfl I I (.there .here) rfl I I (ab (ag 8 I (J (U okL I (.tail _ (.head _)) I I I I (ab (ag 3 I (Y ?_)))))))))))))))))))))))));rename_i r6 _;rw [hw]
 (refine J1 I (fun hq=>?_) (fun hq=>?_))
 ·have hq:a.w.p+1>20000:=by have hq:=of_decide_eq_true hq;omega
  refine ae (ag 7 I (O ?_));refine zab (J2 I I) ?_;exact hW.add _ _ [_] (ht hq)
 have hq:¬a.w.p+1>20000:=by have hq:=of_decide_eq_false hq;omega
 refine ae (ag 68 I (J (U okL I (.head _) rfl I I I (ab (ag 1 I (J (J4 okL I I I (zaa I) rfl I I .here I I I (ab (ag 6 I (J (U okL I (.head _) rfl I I I (ab (J3 ?_)))))))))))));refine J5 (Jc [_] rfl I I I (h1 hq) fun v H' hr=>?_)
 refine ab (ag 4 I (O ?_));refine zab (J2 I I) ?_;exact hW.add _ _ [_] hr
theorem zp8 (X:Mt) (a:MS) (hp:a.w.p≤1000000) (n mn mx:Int) (nm:List UInt8) (st:List (Int×Int)) (l:List Pat) (s:Sg) (b:Int) (f2:FuncId) (cap2:List A) (f:FuncId) (cap:List A) (Hb:Heap) (R:A→Heap→Prop) (hW:Wd R)
  (ht:a.w.p+1>20000→R (i64 2) (Hm X (zam a)++Hb))
  (h1:¬a.w.p+1>20000→TrG [] Tryz.prog 231 [X.p,.ds (l.map Pat.cells),.agg (sgC s b (.fn f2 [] cap2)),.fn f [] cap] (Hm X (zam a)++Hb) R)
  :TrG [] Tryz.prog 181 [X.p,.agg (Pat.mk 4 n mn mx nm st l).C,.agg (sgC s b (.fn f2 [] cap2)),.fn f [] cap] (Hm X a++Hb) R:=by
 refine Ja (N:=186) Tryz.func181 I I I ?_;rw [zaX,List.cons_append,List.cons_append,List.cons_append];have hw:IntKind.i64.wrap ((a.w.p:Int)+1)=((a.w.p+1:Nat):Int):=by rw [zaS ⟨by omega,by omega⟩];omega
 refine ae0 (ag 2 I (J (J9 5 I I (zaa I) rfl (ab (J (Jf I I (zaa I) rfl I (fun _ _=>(ab (J (J9 7 I I (zaa I) rfl (ab (ag 8 I (J (U okL I (.tail _ (.head _)) I I I I (ab (ag 3 I (J (J4 okL I I I (zaa I) rfl I I (.there .here) rfl I I (ab (ag 8 I (J (U okL I (.tail _ (.head _)) I I I I (ab (ag 3 I (Y ?_)))))))))))))))))))))))));rename_i r6 _;rw [hw]
 (refine J1 I (fun hq=>?_) (fun hq=>?_))
 ·have hq:a.w.p+1>20000:=by have hq:=of_decide_eq_true hq;omega
  refine ae (ag 7 I (O ?_));refine zab (J2 I I) ?_;exact hW.add _ _ [_] (ht hq)
 have hq:¬a.w.p+1>20000:=by have hq:=of_decide_eq_false hq;omega
 refine ae (ag 85 I (J (U okL I (.head _) rfl I I I (ab (ag 1 I (J3 ?_))))));refine J5 (Jc [_] rfl I I I (h1 hq) fun v H' hr=>?_)
 refine ab (ag 6 I (O ?_));refine zab (J2 I I) ?_;exact hW.add _ _ [_] hr
theorem znh (X:Mt) (a:MS) (hp:a.w.p≤1000000) (n mn mx:Int) (nm:List UInt8) (st:List (Int×Int)) (l:List Pat) (s:Sg) (b:Int) (f2:FuncId) (cap2:List A) (f:FuncId) (cap:List A) (Hb:Heap) (R:A→Heap→Prop) (hW:Wd R)
  (ht:a.w.p+1>20000→R (i64 2) (Hm X (zam a)++Hb))
  (h1:¬a.w.p+1>20000→TrG [] Tryz.prog 232 [X.p,.agg (Pat.mk 6 n mn mx nm st l).C,.agg (sgC s b (.fn f2 [] cap2)),.fn f [] cap] (Hm X (zam a)++Hb) R)
  :TrG [] Tryz.prog 181 [X.p,.agg (Pat.mk 6 n mn mx nm st l).C,.agg (sgC s b (.fn f2 [] cap2)),.fn f [] cap] (Hm X a++Hb) R:=by
 refine Ja (N:=186) Tryz.func181 I I I ?_;rw [zaX,List.cons_append,List.cons_append,List.cons_append];have hw:IntKind.i64.wrap ((a.w.p:Int)+1)=((a.w.p+1:Nat):Int):=by rw [zaS ⟨by omega,by omega⟩];omega
 refine ae0 (ag 2 I (J (J9 5 I I (zaa I) rfl (ab (J (Jf I I (zaa I) rfl I (fun _ _=>(ab (J (J9 7 I I (zaa I) rfl (ab (ag 8 I (J (U okL I (.tail _ (.head _)) I I I I (ab (ag 3 I (J (J4 okL I I I (zaa I) rfl I I (.there .here) rfl I I (ab (ag 8 I (J (U okL I (.tail _ (.head _)) I I I I (ab (ag 3 I (Y ?_)))))))))))))))))))))))));rename_i r6 _;rw [hw]
 (refine J1 I (fun hq=>?_) (fun hq=>?_))
 ·have hq:a.w.p+1>20000:=by have hq:=of_decide_eq_true hq;omega
  refine ae (ag 7 I (O ?_));refine zab (J2 I I) ?_;exact hW.add _ _ [_] (ht hq)
 have hq:¬a.w.p+1>20000:=by have hq:=of_decide_eq_false hq;omega
 refine ae (ag 98 I (J (U okL I (.head _) rfl I I I (ab (ag 1 I (J3 ?_))))));refine J5 (Jc [_] rfl I I I (h1 hq) fun v H' hr=>?_)
 refine ab (ag 6 I (O ?_));refine zab (J2 I I) ?_;exact hW.add _ _ [_] hr
theorem zoR (X:Mt) (a:MS) (hp:a.w.p≤1000000) (n mn mx:Int) (nm:List UInt8) (st:List (Int×Int)) (l:List Pat) (s:Sg) (b:Int) (f2:FuncId) (cap2:List A) (f:FuncId) (cap:List A) (Hb:Heap) (R:A→Heap→Prop) (hW:Wd R)
  (ht:a.w.p+1>20000→R (i64 2) (Hm X (zam a)++Hb))
  (h1:¬a.w.p+1>20000→TrG [] Tryz.prog 235 [X.p,.agg (Pat.mk 9 n mn mx nm st l).C,.agg (sgC s b (.fn f2 [] cap2)),.fn f [] cap] (Hm X (zam a)++Hb) R)
  :TrG [] Tryz.prog 181 [X.p,.agg (Pat.mk 9 n mn mx nm st l).C,.agg (sgC s b (.fn f2 [] cap2)),.fn f [] cap] (Hm X a++Hb) R:=by
 refine Ja (N:=186) Tryz.func181 I I I ?_;rw [zaX,List.cons_append,List.cons_append,List.cons_append];have hw:IntKind.i64.wrap ((a.w.p:Int)+1)=((a.w.p+1:Nat):Int):=by rw [zaS ⟨by omega,by omega⟩];omega
 refine ae0 (ag 2 I (J (J9 5 I I (zaa I) rfl (ab (J (Jf I I (zaa I) rfl I (fun _ _=>(ab (J (J9 7 I I (zaa I) rfl (ab (ag 8 I (J (U okL I (.tail _ (.head _)) I I I I (ab (ag 3 I (J (J4 okL I I I (zaa I) rfl I I (.there .here) rfl I I (ab (ag 8 I (J (U okL I (.tail _ (.head _)) I I I I (ab (ag 3 I (Y ?_)))))))))))))))))))))))));rename_i r6 _;rw [hw]
 (refine J1 I (fun hq=>?_) (fun hq=>?_))
 ·have hq:a.w.p+1>20000:=by have hq:=of_decide_eq_true hq;omega
  refine ae (ag 7 I (O ?_));refine zab (J2 I I) ?_;exact hW.add _ _ [_] (ht hq)
 have hq:¬a.w.p+1>20000:=by have hq:=of_decide_eq_false hq;omega
 refine ae (ag 119 I (J (U okL I (.head _) rfl I I I (ab (ag 1 I (J3 ?_))))));refine J5 (Jc [_] rfl I I I (h1 hq) fun v H' hr=>?_)
 refine ab (ag 6 I (O ?_));refine zab (J2 I I) ?_;exact hW.add _ _ [_] hr
theorem zn9 (X:Mt) (a:MS) (hp:a.w.p≤1000000) (n mn mx:Int) (nm:List UInt8) (st:List (Int×Int)) (l:List Pat) (s:Sg) (b:Int) (f2:FuncId) (cap2:List A) (f:FuncId) (cap:List A) (Hb:Heap) (R:A→Heap→Prop) (hW:Wd R)
  (ht:a.w.p+1>20000→R (i64 2) (Hm X (zam a)++Hb))
  (h1:¬a.w.p+1>20000→TrG [] Tryz.prog 236 [X.p,i64 n,.agg (sgC s b (.fn f2 [] cap2)),.fn f [] cap] (Hm X (zam a)++Hb) R)
  :TrG [] Tryz.prog 181 [X.p,.agg (Pat.mk 14 n mn mx nm st l).C,.agg (sgC s b (.fn f2 [] cap2)),.fn f [] cap] (Hm X a++Hb) R:=by
 refine Ja (N:=186) Tryz.func181 I I I ?_;rw [zaX,List.cons_append,List.cons_append,List.cons_append];have hw:IntKind.i64.wrap ((a.w.p:Int)+1)=((a.w.p+1:Nat):Int):=by rw [zaS ⟨by omega,by omega⟩];omega
 refine ae0 (ag 2 I (J (J9 5 I I (zaa I) rfl (ab (J (Jf I I (zaa I) rfl I (fun _ _=>(ab (J (J9 7 I I (zaa I) rfl (ab (ag 8 I (J (U okL I (.tail _ (.head _)) I I I I (ab (ag 3 I (J (J4 okL I I I (zaa I) rfl I I (.there .here) rfl I I (ab (ag 8 I (J (U okL I (.tail _ (.head _)) I I I I (ab (ag 3 I (Y ?_)))))))))))))))))))))))));rename_i r6 _;rw [hw]
 (refine J1 I (fun hq=>?_) (fun hq=>?_))
 ·have hq:a.w.p+1>20000:=by have hq:=of_decide_eq_true hq;omega
  refine ae (ag 7 I (O ?_));refine zab (J2 I I) ?_;exact hW.add _ _ [_] (ht hq)
 have hq:¬a.w.p+1>20000:=by have hq:=of_decide_eq_false hq;omega
 refine ae (ag 127 I (J (U okL I (.head _) rfl I I I (ab (ag 1 I (J3 ?_))))));refine J5 (Jc [_] rfl I I I (h1 hq) fun v H' hr=>?_)
 refine ab (ag 6 I (O ?_));refine zab (J2 I I) ?_;exact hW.add _ _ [_] hr
theorem zoI (X:Mt) (a:MS) (hp:a.w.p≤1000000) (n mn mx:Int) (nm:List UInt8) (st:List (Int×Int)) (l:List Pat) (s:Sg) (b:Int) (f2:FuncId) (cap2:List A) (f:FuncId) (cap:List A) (Hb:Heap) (R:A→Heap→Prop) (hW:Wd R)
  (ht:a.w.p+1>20000→R (i64 2) (Hm X (zam a)++Hb))
  (h1:¬a.w.p+1>20000→TrG [] Tryz.prog 237 [X.p,i64 n,.agg (sgC s b (.fn f2 [] cap2)),.fn f [] cap] (Hm X (zam a)++Hb) R)
  :TrG [] Tryz.prog 181 [X.p,.agg (Pat.mk 16 n mn mx nm st l).C,.agg (sgC s b (.fn f2 [] cap2)),.fn f [] cap] (Hm X a++Hb) R:=by
 refine Ja (N:=186) Tryz.func181 I I I ?_;rw [zaX,List.cons_append,List.cons_append,List.cons_append];have hw:IntKind.i64.wrap ((a.w.p:Int)+1)=((a.w.p+1:Nat):Int):=by rw [zaS ⟨by omega,by omega⟩];omega
 refine ae0 (ag 2 I (J (J9 5 I I (zaa I) rfl (ab (J (Jf I I (zaa I) rfl I (fun _ _=>(ab (J (J9 7 I I (zaa I) rfl (ab (ag 8 I (J (U okL I (.tail _ (.head _)) I I I I (ab (ag 3 I (J (J4 okL I I I (zaa I) rfl I I (.there .here) rfl I I (ab (ag 8 I (J (U okL I (.tail _ (.head _)) I I I I (ab (ag 3 I (Y ?_)))))))))))))))))))))))));rename_i r6 _;rw [hw]
 (refine J1 I (fun hq=>?_) (fun hq=>?_))
 ·have hq:a.w.p+1>20000:=by have hq:=of_decide_eq_true hq;omega
  refine ae (ag 7 I (O ?_));refine zab (J2 I I) ?_;exact hW.add _ _ [_] (ht hq)
 have hq:¬a.w.p+1>20000:=by have hq:=of_decide_eq_false hq;omega
 refine ae (ag 141 I (J (U okL I (.head _) rfl I I I (ab (ag 1 I (J3 ?_))))));refine J5 (Jc [_] rfl I I I (h1 hq) fun v H' hr=>?_)
 refine ab (ag 6 I (O ?_));refine zab (J2 I I) ?_;exact hW.add _ _ [_] hr
theorem zmk (X:Mt) (a:MS) (hp:a.w.p≤1000000) (n mn mx:Int) (nm:List UInt8) (st:List (Int×Int)) (y:Pat) (s:Sg) (b:Int) (f2:FuncId) (cap2:List A) (f:FuncId) (cap:List A) (Hb:Heap) (R:A→Heap→Prop) (hW:Wd R)
  (ht:a.w.p+1>20000→R (i64 2) (Hm X (zam a)++Hb))
  (hR:∃v H',R v H')
  (h1:¬a.w.p+1>20000→TrG [] Tryz.prog 181 [X.p,.agg y.C,.agg (sgC s b (.fn f2 [] cap2)),.fn 233 [] [.dp [i64 s.at_],.dp (Pat.mk 7 n mn mx nm st [y]).C,.dp [.fn f [] cap]]] (Hm X (zam a)++Hb) R)
  :TrG [] Tryz.prog 181 [X.p,.agg (Pat.mk 7 n mn mx nm st [y]).C,.agg (sgC s b (.fn f2 [] cap2)),.fn f [] cap] (Hm X a++Hb) R:=by
 refine Ja (N:=186) Tryz.func181 I I I ?_;rw [zaX,List.cons_append,List.cons_append,List.cons_append];have hw:IntKind.i64.wrap ((a.w.p:Int)+1)=((a.w.p+1:Nat):Int):=by rw [zaS ⟨by omega,by omega⟩];omega
 refine ae0 (ag 2 I (J (J9 5 I I (zaa I) rfl (ab (J (Jf I I (zaa I) rfl I (fun _ _=>(ab (J (J9 7 I I (zaa I) rfl (ab (ag 8 I (J (U okL I (.tail _ (.head _)) I I I I (ab (ag 3 I (J (J4 okL I I I (zaa I) rfl I I (.there .here) rfl I I (ab (ag 8 I (J (U okL I (.tail _ (.head _)) I I I I (ab (ag 3 I (Y ?_)))))))))))))))))))))))));rename_i r6 _;rw [hw]
 (refine J1 I (fun hq=>?_) (fun hq=>?_))
 ·have hq:a.w.p+1>20000:=by have hq:=of_decide_eq_true hq;omega
  refine ae (ag 7 I (O ?_));refine zab (J2 I I) ?_;exact hW.add _ _ [_] (ht hq)
 have hq:¬a.w.p+1>20000:=by have hq:=of_decide_eq_false hq;omega
 have hd:([y].map Pat.cells)[((0:Nat):Int).toNat]?=some y.C:=by simp [Pat.cells_eq]
 refine ae (ag 104 I (J (U okL I (.head _) rfl I I I (ab (J (Jb okL I I I (fun _ _=>(ab (J (J4 okL I I I (zaa I) rfl I I .here I I I (ab (ag 3 I (Y ?_)))))))))))));refine AWp.freezeF 13 I (List.Perm.refl _) (Fz.ptr _ _ _) ?_;refine Heavy.AWp.draw okL hmix (by kernel_rfl) ?_
 (repeat (first|refine Heavy.Plan.pure I I I ?_|refine Heavy.Plan.pure I I (zai I I I I I (Int.le_refl _) (hd) rfl) ?_|refine Heavy.Plan.quiet I I I (U okL I (.head _) rfl I I I (J8 (Heavy.Qn_n ⟨rfl,rfl⟩))) ?_))
 refine Heavy.Plan.eff (R:=fun v H'=>∃H1,R v H1∧H'=(r6,.row 179 25 [(sgC s b (.fn f2 [] cap2))])::H1) rfl rfl rfl (by obtain ⟨v,H1,h⟩:=hR;exact ⟨v,_,H1,h,rfl⟩) (Jc [_] rfl rfl rfl rfl (h1 hq) fun r H' hr=>J8 (Heavy.Qn_n ⟨H',hr,rfl⟩)) ?_;rintro v H' ⟨H1,hr,rfl⟩
 (repeat (refine Heavy.Plan.pure I I I ?_))
 refine Heavy.Plan.nil ?_;refine ae (ag 3 I (O ?_));refine zab (J2 I I) ?_;exact hW.add _ _ [_] hr
theorem zlw (X:Mt) (a:MS) (hp:a.w.p≤1000000) (n mn mx:Int) (nm:List UInt8) (st:List (Int×Int)) (y:Pat) (s:Sg) (b:Int) (f2:FuncId) (cap2:List A) (f:FuncId) (cap:List A) (Hb:Heap) (R:A→Heap→Prop) (hW:Wd R)
  (ht:a.w.p+1>20000→R (i64 2) (Hm X (zam a)++Hb))
  (hR:∃v H',R v H')
  (h1:¬a.w.p+1>20000→TrG [] Tryz.prog 234 [X.p,.agg y.C,.agg (sgC s b (.fn f2 [] cap2)),.fn f [] cap] (Hm X (zam a)++Hb) R)
  :TrG [] Tryz.prog 181 [X.p,.agg (Pat.mk 8 n mn mx nm st [y]).C,.agg (sgC s b (.fn f2 [] cap2)),.fn f [] cap] (Hm X a++Hb) R:=by
 refine Ja (N:=186) Tryz.func181 I I I ?_;rw [zaX,List.cons_append,List.cons_append,List.cons_append];have hw:IntKind.i64.wrap ((a.w.p:Int)+1)=((a.w.p+1:Nat):Int):=by rw [zaS ⟨by omega,by omega⟩];omega
 refine ae0 (ag 2 I (J (J9 5 I I (zaa I) rfl (ab (J (Jf I I (zaa I) rfl I (fun _ _=>(ab (J (J9 7 I I (zaa I) rfl (ab (ag 8 I (J (U okL I (.tail _ (.head _)) I I I I (ab (ag 3 I (J (J4 okL I I I (zaa I) rfl I I (.there .here) rfl I I (ab (ag 8 I (J (U okL I (.tail _ (.head _)) I I I I (ab (ag 3 I (Y ?_)))))))))))))))))))))))));rename_i r6 _;rw [hw]
 (refine J1 I (fun hq=>?_) (fun hq=>?_))
 ·have hq:a.w.p+1>20000:=by have hq:=of_decide_eq_true hq;omega
  refine ae (ag 7 I (O ?_));refine zab (J2 I I) ?_;exact hW.add _ _ [_] (ht hq)
 have hq:¬a.w.p+1>20000:=by have hq:=of_decide_eq_false hq;omega
 have hd:([y].map Pat.cells)[((0:Nat):Int).toNat]?=some y.C:=by simp [Pat.cells_eq]
 refine ae (ag 109 I (Y ?_));refine Heavy.AWp.draw okL hmix (by kernel_rfl) ?_
 (repeat (first|refine Heavy.Plan.pure I I I ?_|refine Heavy.Plan.pure I I (zai I I I I I (Int.le_refl _) (hd) rfl) ?_|refine Heavy.Plan.quiet I I I (U okL I (.head _) rfl I I I (J8 (Heavy.Qn_n ⟨rfl,rfl⟩))) ?_))
 refine Heavy.Plan.eff (R:=fun v H'=>∃H1,R v H1∧H'=(r6,.row 179 25 [(sgC s b (.fn f2 [] cap2))])::H1) rfl rfl rfl (by obtain ⟨v,H1,h⟩:=hR;exact ⟨v,_,H1,h,rfl⟩) (Jc [_] rfl rfl rfl rfl (h1 hq) fun r H' hr=>J8 (Heavy.Qn_n ⟨H',hr,rfl⟩)) ?_;rintro v H' ⟨H1,hr,rfl⟩
 (repeat (refine Heavy.Plan.pure I I I ?_))
 refine Heavy.Plan.nil ?_;refine ae (ag 3 I (O ?_));refine zab (J2 I I) ?_;exact hW.add _ _ [_] hr
theorem zmW {a kp:Int} {l cs:List (Int×Int)} {b:Int} {acc:A} {n:Int} (hn:1≤n∧n≤9) {ti:TI} (ht:lay L 3=some ti):zbp ti (sgL a kp l cs b acc) (0+2+n.toNat*2+0)=some (i64 (zbk l n.toNat).1):=by
 cases ht;rcases nine hn with rfl|rfl|rfl|rfl|rfl|rfl|rfl|rfl|rfl<;>rfl
theorem ziO {a kp:Int} {l cs:List (Int×Int)} {b:Int} {acc:A} {n:Int} (hn:1≤n∧n≤9) {ti:TI} (ht:lay L 98=some ti):zbp ti (sgL a kp l cs b acc) (0+2+n.toNat*2)=some (.agg (zaf (zbk l n.toNat))):=by
 cases ht;rcases nine hn with rfl|rfl|rfl|rfl|rfl|rfl|rfl|rfl|rfl<;>rfl
theorem zn7 (X:Mt) (a:MS) (hp:a.w.p≤1000000) (n mn mx:Int) (nm:List UInt8) (st:List (Int×Int)) (l:List Pat) (s:Sg) (b:Int) (f2:FuncId) (cap2:List A) (f:FuncId) (cap:List A) (Hb:Heap) (R:A→Heap→Prop) (hW:Wd R)
  (ht:a.w.p+1>20000→R (i64 2) (Hm X (zam a)++Hb))
  (RA:Nat→Heap→Prop)
  (hs:¬a.w.p+1>20000→RA 0 (Hm X (zam a)++Hb))
  (hn:∀i y H,l[i]?=some y→RA i H→TrG [] Tryz.prog 181 [X.p,.agg y.C,.agg (sgC s b (.fn f2 [] cap2)),.fn f [] cap] H fun v H'=>∃m,v=i64 m∧(m≠0→R (i64 m) H')∧(m=0→RA (i+1) H'))
  (he:∀H,RA l.length H→R (i64 0) H)
  (hlen:l.length≤60)
  :TrG [] Tryz.prog 181 [X.p,.agg (Pat.mk 5 n mn mx nm st l).C,.agg (sgC s b (.fn f2 [] cap2)),.fn f [] cap] (Hm X a++Hb) R:=by
 refine Ja (N:=186) Tryz.func181 I I I ?_;rw [zaX,List.cons_append,List.cons_append,List.cons_append];have hw:IntKind.i64.wrap ((a.w.p:Int)+1)=((a.w.p+1:Nat):Int):=by rw [zaS ⟨by omega,by omega⟩];omega
 refine ae0 (ag 2 I (J (J9 5 I I (zaa I) rfl (ab (J (Jf I I (zaa I) rfl I (fun _ _=>(ab (J (J9 7 I I (zaa I) rfl (ab (ag 8 I (J (U okL I (.tail _ (.head _)) I I I I (ab (ag 3 I (J (J4 okL I I I (zaa I) rfl I I (.there .here) rfl I I (ab (ag 8 I (J (U okL I (.tail _ (.head _)) I I I I (ab (ag 3 I (Y ?_)))))))))))))))))))))))));rename_i r6 _;rw [hw]
 (refine J1 I (fun hq=>?_) (fun hq=>?_))
 ·have hq:a.w.p+1>20000:=by have hq:=of_decide_eq_true hq;omega
  refine ae (ag 7 I (O ?_));refine zab (J2 I I) ?_;exact hW.add _ _ [_] (ht hq)
 have hq:¬a.w.p+1>20000:=by have hq:=of_decide_eq_false hq;omega
 refine ae (ag 97 I (Y ?_));refine Jh (α:=Nat×Heap) (fun k=>l.length - k.1) (fun k=>[(0,X.p),(6,.ptr r6 25 0 0),(7,.dp [.fn f [] cap]),(91,.ds (l.map Pat.cells)),(92,i64 (l.map Pat.cells).length),(93,i64 k.1)]) (fun k=>(r6,.row 179 25 [(sgC s b (.fn f2 [] cap2))])::k.2)
  (fun k=>k.1≤l.length∧RA k.1 k.2) (0,Hm X (zam a)++Hb) ⟨Nat.zero_le _,hs hq⟩ ?_ (List.Perm.refl _) ?_
 ·simp only [za0]
  refine ⟨rfl,rfl,rfl,rfl,rfl,rfl,trivial⟩
 rintro ⟨k,Hk⟩ ⟨hk,hm⟩ ih;simp only at hk hm;refine ae0 (ag 6 rfl (Y ?_))
 (refine J1 I (fun h=>?_) (fun h=>?_))
 ·have h:=of_decide_eq_true h
  simp only [List.length_map] at h;obtain ⟨y,hy⟩:∃y,l[k]?=some y:=⟨l[k],by simp [show k<l.length by omega]⟩
  have nx:=nxt (k:=k) (n:=l.length) (by omega) (by unfold maxLen;omega);refine ae (ag 6 I (Jm okL (zai I I I I I (by omega) (getC hy) rfl) rfl (ag 1 I (J (Jb okL I I I (fun _ _=>(ab (J (J4 okL I I I (zaa I) rfl I I .here I I I (ab (ag 5 I (J (U okL I (.head _) rfl I I I (ab (J (U okL I (.tail _ (.head _)) I I I I (ab (ag 1 I (J3 ?_)))))))))))))))))));refine J5 (Jc [_,_] rfl I I I (hn k y Hk hy hm) fun v H' hr=>?_)
  obtain ⟨m,rfl,hr1,hr0⟩:=hr;refine ab (ag 9 rfl (Y ?_))
  (refine J1 I (fun g=>?_) (fun g=>?_))
  ·have g:m≠0:=by simpa using g
   refine ae (ag 9 I (O (ax (ag 4 I (O ?_)))));refine zab (J2 I I) ?_;exact hW.add _ _ [_,_] (hr1 g)
  ·have g:m=0:=by simpa using g
   refine ae (ag 7 I (O (zap ?_)))
   (refine AIn.nextN 1 (ih ((k+1,H')) (⟨by simp only;omega,hr0 g⟩) (by omega)) ?_ rfl;repeat (first|exact trivial|refine ⟨rfl,?_⟩|refine ⟨congrArg some nx,?_⟩))
 ·have h:=of_decide_eq_false h
  simp only [List.length_map] at h;have hkk:k=l.length:=by omega
  subst hkk;refine ae (ag 2 rfl (O (ae (ag 8 rfl (O ?_)))));refine zab (J2 rfl rfl) ?_;exact hW.add _ _ [_] (he _ hm)
theorem zn1 (X:Mt) (a:MS) (hp:a.w.p≤1000000) (n mn mx:Int) (nm:List UInt8) (st:List (Int×Int)) (y z:Pat) (s:Sg) (b:Int) (f2:FuncId) (cap2:List A) (f:FuncId) (cap:List A) (Hb:Heap) (R:A→Heap→Prop) (hW:Wd R)
  (ht:a.w.p+1>20000→R (i64 2) (Hm X (zam a)++Hb))
  (hR:∃v H',R v H')
  (hn:1≤n∧n≤9)
  (h1:¬a.w.p+1>20000→(zbk s.caps n.toNat).1≥0→TrG [] Tryz.prog 181 [X.p,.agg y.C,.agg (sgC s b (.fn f2 [] cap2)),.fn f [] cap] (Hm X (zam a)++Hb) R)
  (h2:¬a.w.p+1>20000→¬(zbk s.caps n.toNat).1≥0→TrG [] Tryz.prog 181 [X.p,.agg z.C,.agg (sgC s b (.fn f2 [] cap2)),.fn f [] cap] (Hm X (zam a)++Hb) R)
  :TrG [] Tryz.prog 181 [X.p,.agg (Pat.mk 15 n mn mx nm st [y,z]).C,.agg (sgC s b (.fn f2 [] cap2)),.fn f [] cap] (Hm X a++Hb) R:=by
 refine Ja (N:=186) Tryz.func181 I I I ?_;rw [zaX,List.cons_append,List.cons_append,List.cons_append];have hw:IntKind.i64.wrap ((a.w.p:Int)+1)=((a.w.p+1:Nat):Int):=by rw [zaS ⟨by omega,by omega⟩];omega
 refine ae0 (ag 2 I (J (J9 5 I I (zaa I) rfl (ab (J (Jf I I (zaa I) rfl I (fun _ _=>(ab (J (J9 7 I I (zaa I) rfl (ab (ag 8 I (J (U okL I (.tail _ (.head _)) I I I I (ab (ag 3 I (J (J4 okL I I I (zaa I) rfl I I (.there .here) rfl I I (ab (ag 8 I (J (U okL I (.tail _ (.head _)) I I I I (ab (ag 3 I (Y ?_)))))))))))))))))))))))));rename_i r6 _;rw [hw]
 (refine J1 I (fun hq=>?_) (fun hq=>?_))
 ·have hq:a.w.p+1>20000:=by have hq:=of_decide_eq_true hq;omega
  refine ae (ag 7 I (O ?_));refine zab (J2 I I) ?_;exact hW.add _ _ [_] (ht hq)
 have hq:¬a.w.p+1>20000:=by have hq:=of_decide_eq_false hq;omega
 have hd:([y,z].map Pat.cells)[((0:Nat):Int).toNat]?=some y.C:=by simp [Pat.cells_eq]
 have hd1:([y,z].map Pat.cells)[((1:Nat):Int).toNat]?=some z.C:=by simp [Pat.cells_eq]
 refine ae (ag 135 I (Jm okL (zbZ I I I I I (Int.le_trans (by decide:(0:Int)≤1) hn.1) (Int.lt_of_le_of_lt hn.2 (by decide))) I (Jm okL (zbZ I I I I I (Int.le_refl _) (by decide)) I (J3 ?_))));refine J5 (U okL I (.head _) rfl I (zmW hn I) rfl ?_)
 refine ab (ag 3 I (Y ?_))
 (refine J1 I (fun g=>?_) (fun g=>?_))
 ·have g:(zbk s.caps n.toNat).1≥0:=of_decide_eq_true g
  refine ae (ag 1 I (Y ?_));refine Heavy.AWp.draw okL hmix (by kernel_rfl) ?_
  (repeat (first|refine Heavy.Plan.pure I I I ?_|refine Heavy.Plan.pure I I (zai I I I I I (Int.le_refl _) (hd) rfl) ?_|refine Heavy.Plan.quiet I I I (U okL I (.head _) rfl I I I (J8 (Heavy.Qn_n ⟨rfl,rfl⟩))) ?_))
  refine Heavy.Plan.eff (R:=fun v H'=>∃H1,R v H1∧H'=(r6,.row 179 25 [(sgC s b (.fn f2 [] cap2))])::H1) rfl rfl rfl (by obtain ⟨v,H1,h⟩:=hR;exact ⟨v,_,H1,h,rfl⟩) (Jc [_] rfl rfl rfl rfl (h1 hq g) fun r H' hr=>J8 (Heavy.Qn_n ⟨H',hr,rfl⟩)) ?_;rintro v H' ⟨H1,hr,rfl⟩
  (repeat (refine Heavy.Plan.pure I I I ?_))
  refine Heavy.Plan.nil ?_;refine ae (ag 4 I (O ?_));refine zab (J2 I I) ?_;exact hW.add _ _ [_] hr
 ·have g:¬(zbk s.caps n.toNat).1≥0:=of_decide_eq_false g
  refine ae (ag 3 I (Y ?_));refine Heavy.AWp.draw okL hmix (by kernel_rfl) ?_
  (repeat (first|refine Heavy.Plan.pure I I I ?_|refine Heavy.Plan.pure I I (zai I I I I I (by omega) (hd1) rfl) ?_|refine Heavy.Plan.quiet I I I (U okL I (.head _) rfl I I I (J8 (Heavy.Qn_n ⟨rfl,rfl⟩))) ?_))
  refine Heavy.Plan.eff (R:=fun v H'=>∃H1,R v H1∧H'=(r6,.row 179 25 [(sgC s b (.fn f2 [] cap2))])::H1) rfl rfl rfl (by obtain ⟨v,H1,h⟩:=hR;exact ⟨v,_,H1,h,rfl⟩) (Jc [_] rfl rfl rfl rfl (h2 hq g) fun r H' hr=>J8 (Heavy.Qn_n ⟨H',hr,rfl⟩)) ?_;rintro v H' ⟨H1,hr,rfl⟩
  (repeat (refine Heavy.Plan.pure I I I ?_))
  refine Heavy.Plan.nil ?_;refine ae (ag 3 I (O ?_));refine zab (J2 I I) ?_;exact hW.add _ _ [_] hr
theorem zof (X:Mt) (a:MS) (hp:a.w.p≤1000000) (n mn mx:Int) (nm:List UInt8) (st:List (Int×Int)) (l:List Pat) (s:Sg) (b:Int) (f2:FuncId) (cap2:List A) (f:FuncId) (cap:List A) (Hb:Heap) (R:A→Heap→Prop) (hW:Wd R)
  (ht:a.w.p+1>20000→R (i64 2) (Hm X (zam a)++Hb))
  (RC:Int→Heap→Prop)
  (hn:1≤n∧n≤9)
  (hC:¬a.w.p+1>20000→∃t H',RC t H')
  (hc:¬a.w.p+1>20000→TrG [] Tryz.prog 229 [X.p,.agg (zaf (zbk s.caps n.toNat)),i64 s.at_] (Hm X (zam a)) fun v H'=>∃t,v=i64 t∧RC t H')
  (h0:∀t H',t<0→RC t H'→R (i64 0) (H'++Hb)) (h1:∀t H',¬t<0→RC t H'→TrG [] Tryz.prog f ([.agg (sgC {s with at_:=t} b (.fn f2 [] cap2))]++cap) (H'++Hb) R)
  :TrG [] Tryz.prog 181 [X.p,.agg (Pat.mk 10 n mn mx nm st l).C,.agg (sgC s b (.fn f2 [] cap2)),.fn f [] cap] (Hm X a++Hb) R:=by
 refine Ja (N:=186) Tryz.func181 I I I ?_;rw [zaX,List.cons_append,List.cons_append,List.cons_append];have hw:IntKind.i64.wrap ((a.w.p:Int)+1)=((a.w.p+1:Nat):Int):=by rw [zaS ⟨by omega,by omega⟩];omega
 refine ae0 (ag 2 I (J (J9 5 I I (zaa I) rfl (ab (J (Jf I I (zaa I) rfl I (fun _ _=>(ab (J (J9 7 I I (zaa I) rfl (ab (ag 8 I (J (U okL I (.tail _ (.head _)) I I I I (ab (ag 3 I (J (J4 okL I I I (zaa I) rfl I I (.there .here) rfl I I (ab (ag 8 I (J (U okL I (.tail _ (.head _)) I I I I (ab (ag 3 I (Y ?_)))))))))))))))))))))))));rename_i r6 _;rw [hw]
 (refine J1 I (fun hq=>?_) (fun hq=>?_))
 ·have hq:a.w.p+1>20000:=by have hq:=of_decide_eq_true hq;omega
  refine ae (ag 7 I (O ?_));refine zab (J2 I I) ?_;exact hW.add _ _ [_] (ht hq)
 have hq:¬a.w.p+1>20000:=by have hq:=of_decide_eq_false hq;omega
 refine ae (ag 60 I (Y ?_));refine Heavy.AWp.draw okL hmix (by kernel_rfl) ?_
 (repeat (first|refine Heavy.Plan.pure I I I ?_|refine Heavy.Plan.pure I I (zbZ I I I I I (Int.le_trans (by decide:(0:Int)≤1) hn.1) (Int.lt_of_le_of_lt hn.2 (by decide))) ?_))
 refine Heavy.Plan.quiet I I I (U okL I (.head _) rfl I (ziO hn I) rfl (J8 (Heavy.Qn_n ⟨rfl,rfl⟩))) ?_
 (repeat (first|refine Heavy.Plan.pure I I I ?_|refine Heavy.Plan.quiet I I I (U okL I (.head _) rfl I I I (J8 (Heavy.Qn_n ⟨rfl,rfl⟩))) ?_))
 refine Heavy.Plan.eff (R:=fun v H'=>∃t H1,v=i64 t∧RC t H1∧H'=(r6,.row 179 25 [(sgC s b (.fn f2 [] cap2))])::(H1++Hb)) rfl rfl rfl (by obtain ⟨t,H1,h⟩:=hC hq;exact ⟨_,_,t,H1,rfl,h,rfl⟩) (Jn [_] Hb rfl rfl rfl rfl (hc hq) fun r H' hr=>?_) ?_
 ·obtain ⟨t,e,h⟩:=hr
  exact J8 (Heavy.Qn_n ⟨t,H',e,h,rfl⟩)
 rintro v H' ⟨t,H1,rfl,hr,rfl⟩
 (repeat (refine Heavy.Plan.pure I I I ?_))
 refine Heavy.Plan.nil ?_;refine ae (ag 7 I (Y ?_))
 (refine J1 I (fun g=>?_) (fun g=>?_))
 ·have g:t<0:=of_decide_eq_true g
  refine ae (ag 9 I (O ?_));refine zab (J2 I I) ?_;exact hW.add _ _ [_] (h0 t H1 g hr)
 ·have g:¬t<0:=of_decide_eq_false g
  refine ae (ag 5 I (J (J4 okL I I I (zaa I) rfl I I .here I I I (ab (ag 6 I (J (U okL I (.head _) rfl I I I (ab (J3 ?_)))))))));refine J5 (Jc [_] rfl I I I (h1 t H1 g hr) fun v H' hr=>?_)
  refine ab (ag 4 I (O ?_));refine zab (J2 I I) ?_;exact hW.add _ _ [_] hr
theorem TrG.wide {G:List (Nat×List A)} {P:Program} {f:FuncId} {args:List A} {H H0 Gb:Heap} {R:A→Heap→Prop} (hp:H.Perm (Gb++H0)) (h:TrG G P f args H0 R):TrG G P f args H fun v H'=>∃H1,R v H1∧H'.Perm (Gb++H1):=by
 have hp2:H.Perm (H0++Gb):=hp.trans List.perm_append_comm;have k:=h.frame Gb;refine ⟨k.can,fun fr w vs s g av=>?_⟩;have e:=zay (fr:=fr) hp2;rw [e] at g av;refine (k.run fr w vs (s.perm hp2) g av).mono ?_;rintro e' w' ⟨r,H',v,rfl,⟨H1,hR,rfl⟩,s',hr,x⟩;exact ⟨r,H1++Gb,v,rfl,⟨H1,hR,List.perm_append_comm⟩,s',hr,x.perm hp2⟩
theorem TrG.pre {G:List (Nat×List A)} {P:Program} {f:FuncId} {args:List A} {H H0:Heap} {R:A→Heap→Prop} (hp:H.Perm H0) (h:TrG G P f args H0 R):TrG G P f args H R:=by
 refine ⟨h.can,fun fr w vs s g av=>?_⟩;have e:=zay (fr:=fr) hp;rw [e] at g av;refine (h.run fr w vs (s.perm hp) g av).mono ?_;rintro e' w' ⟨r,H',v,rfl,hR,s',hr,x⟩;exact ⟨r,H',v,rfl,hR,s',hr,x.perm hp⟩
theorem Wd.wide {R:A→Heap→Prop} (h:Wd R) {v:A} {H' Gb H1:Heap} (hr:R v H1) (hp:H'.Perm (Gb++H1)):R v H':=h.perm _ _ _ hp.symm (h.add _ _ _ hr)
theorem zdy (V:Wide) (X:Mt) (Z:Bs) (bs:List Int) (a:MS) (o:BOut) (w':Wk):Wd (zaH V X Z bs a o w') where
 perm v H H' hp:=fun ⟨a',G,h1,h2,h3,h4,h5⟩=>⟨a',G,h1,h2,h3,h4,hp.symm.trans h5⟩
 add v H Gb:=fun ⟨a',G,h1,h2,h3,h4,h5⟩=>⟨a',Gb++G,h1,h2,h3,h4,by rw [List.append_assoc];exact h5.append_left Gb⟩
theorem zaQ (rec:Task→Wk→BRes) (t:Task) (w:Wk):(Tm.last t w).eval rec=rec t w:=by
 simp only [Tm.last,Tm.eval];cases rec t w<;>rfl
theorem zdT {rec:Task→Wk→BRes} {t:Task} {w:Wk} {f:BOut×Wk→Tm} {r:BOut×Wk} (h:(Tm.ask t w f).eval rec=some r):∃o1 w1,rec t w=some (o1,w1)∧(f (o1,w1)).eval rec=some r:=by
 simp only [Tm.eval,Option.bind_eq_some_iff] at h;obtain ⟨⟨o1,w1⟩,h1,h2⟩:=h;exact ⟨o1,w1,h1,h2⟩
theorem zaB {rec:Task→Wk→BRes} {q r:BOut×Wk} (h:(Tm.ret q).eval rec=some r):q=r:=by
 simp only [Tm.eval,Option.some.injEq] at h;exact h
structure Prog (V:Wide) (X:Mt) (B:Bk) (g:Int) (N:Nat):Prop where
 hB:BOk g N B
 tau:B.tau=tauP
 hN:N≤1000000
 isChar:∀(a:MS) (x:Pat) (p:Int),MOk V X a→Vd g x→(x.op=1∨x.op=2∨x.op=3)→0≤p→p≤N→TrG [] Tryz.prog 227 [X.p,.agg x.C,i64 p] (Hm X a) fun v H'=>v=.bool (B.takes x p)∧∃a' G,a'.w=a.w∧a'.brd=a.brd∧MOk V X a'∧H'.Perm (G++Hm X a')
 holds:∀(a:MS) (x:Pat) (p:Int),MOk V X a→Vd g x→(x.op=11∨x.op=12∨x.op=13)→0≤p→p≤N→TrG [] Tryz.prog 228 [X.p,.agg x.C,i64 p] (Hm X a) fun v H'=>v=.bool (B.holds x p)∧∃a' G,a'.w=a.w∧a'.brd=a.brd∧MOk V X a'∧H'.Perm (G++Hm X a')
 again:∀(a:MS) (c:Int×Int) (p:Int),MOk V X a→((c.1=-1∧c.2=-1)∨(0≤c.1∧c.1≤c.2∧c.2≤(N:Int)))→0≤p→p≤N→TrG [] Tryz.prog 229 [X.p,.agg (zaf c),i64 p] (Hm X a) fun v H'=>v=i64 (if B.copied c p<0 then -1 else p+B.copied c p)∧∃a' G,a'.w=a.w∧a'.brd=a.brd∧MOk V X a'∧H'.Perm (G++Hm X a')
 lens:∀y,Vd g y→∃hi,B.least y≤1000000000000000000∧PTr Tryz.prog 288 [.agg y.C] (.tup [i64 (B.least y),i64 hi])
 body:∀n,0≤n→n≤g→∃i,zbd (i64 n) X.ge=some (some (i,.agg (B.body n).C))
 bit:∀n,B.bit n=bitM X.mask n
structure BaseOk (V:Wide) (X:Mt) (B:Bk) (N:Nat) (f0:Fm) (b:Int) (Z:Bs):Prop where
 fn:∃f cap,Z.v=.fn f [] cap
 go:∀(s:Sg) (a:MS),SOk N s→MOk V X a→a.w.p≤20000→∀o w',goS B s a.w [f0]=.ret (o,w')→zlq [] Tryz.prog Z.v [.agg (sgC s b Z.v)] (Hm X a++Z.Hb a.w.acc none) (zaH V X Z [b] a o w')
def zbi (f0:Fm) (k:List Fm):Prop:=k.getLast?=some f0
theorem zbi.cons {f0 f:Fm} {k:List Fm} (h:zbi f0 k):zbi f0 (f::k):=by
 unfold zbi at*;rw [List.getLast?_cons,h];rfl
theorem zbi.tail {f0 f:Fm} {k:List Fm} (h:zbi f0 (f::k)) (hb:KB k):zbi f0 k:=by
 unfold zbi at*;cases k with
 |nil=>exact hb.elim
 |cons a k=>simpa using h
theorem zbi.barr {f0:Fm}:∀{k:List Fm},KB k→zbi f0 k→zbi f0 (barr k)
 |[],hb,h=>hb.elim
 |.call s::k,hb,h=>h
 |.stop w::k,hb,h=>h
 |.fin::k,hb,h=>h
 |.cat _ _::k,hb,h=>zbi.barr (k:=k) (hb.tail I) (h.tail (hb.tail I))
 |.turn _ _ _::k,hb,h=>zbi.barr (k:=k) (hb.tail I) (h.tail (hb.tail I))
 |.group _ _::k,hb,h=>zbi.barr (k:=k) (hb.tail I) (h.tail (hb.tail I))
theorem zd7 (X:Mt) (v:A):∀(k:List Fm) (bs:List Int),(encK X v bs (barr k)).1=(encK X v bs k).2∧(encK X v bs (barr k)).2=(encK X v bs k).2
 |[],bs=>⟨rfl,rfl⟩
 |.call s::k,bs=>⟨rfl,rfl⟩
 |.stop w::k,bs=>⟨rfl,rfl⟩
 |.fin::k,bs=>⟨rfl,rfl⟩
 |.cat _ _::k,bs=>zd7 X v k bs
 |.turn _ _ _::k,bs=>zd7 X v k bs
 |.group _ _::k,bs=>zd7 X v k bs
section
variable {V:Wide} {X:Mt} {B:Bk} {g:Int} {N:Nat}
def AllM (V:Wide) (X:Mt) (B:Bk) (g:Int) (N n:Nat):Prop:=
 ∀f0 b0 Z,BaseOk V X B N f0 b0 Z→∀t bs a o w',zaD B a.w→TOk g N t a.w→zbi f0 t.k→bs.getLast?=some b0→MOk V X a→BrOk bs t.k a→brun B n t a.w=some (o,w')→ConM V X Z t bs a o w'
theorem znw (hP:Prog V X B g N) {w:Wk} (h:zaD B w):w.p≤20000:=by
 unfold zaD at h;rw [hP.tau] at h;have:=of_decide_eq_false h;omega
theorem BrOk.mono {bs:List Int} {k k':List Fm} {a a':MS} (h:BrOk bs k a) (hl:lvl k'=lvl k) (hb:a.brd≤a'.brd):BrOk bs k' a':=
 ⟨by rw [hl];exact h.len,fun b hb'=>⟨(h.le b hb').1,Int.le_trans (h.le b hb').2 hb⟩,h.nd⟩
theorem zor {v:A} {f:FuncId} {cap args:List A} {H:Heap} {R:A→Heap→Prop} (hv:v=.fn f [] cap) (h:zlq [] Tryz.prog v args H R):TrG [] Tryz.prog f (args++cap) H R:=by
 obtain ⟨f',first,cap',e,k⟩:=h;rw [hv] at e;cases e;exact k
theorem zdV {v:A} {f:FuncId} {cap args:List A} {H:Heap} {R:A→Heap→Prop} (hv:v=.fn f [] cap) (h:TrG [] Tryz.prog f (args++cap) H R):zlq [] Tryz.prog v args H R:=⟨f,[],cap,hv,h⟩
theorem zaH.back {Z:Bs} {bs:List Int} {a a1:MS} {o:BOut} {w':Wk} {v:A} {H:Heap} (hb:a.brd≤a1.brd) (h:zaH V X Z bs a1 o w' v H):zaH V X Z bs a o w' v H:=by
 obtain ⟨a',G,h1,h2,h3,h4,h5⟩:=h;exact ⟨a',G,h1,h2,Int.le_trans hb h3,h4,h5⟩
theorem zmw {bs:List Int} {k:List Fm} {a:MS} {c:Nat} {o:BOut} (hbr:BrOk bs k a) (hc:∀j,o=.cut j→1≤j∧j≤bs.length) (h:o≠ .no):outI bs o≠0:=by
 cases o with
 |no=>exact absurd rfl h
 |yes s=>simp [outI]
 |tired=>simp [outI]
 |cut j=>
  have hj:=hc j rfl;have:bs.getD (bs.length - j) 0∈bs:=by
   rw [List.getD_eq_getElem?_getD,List.getElem?_eq_getElem (by omega),Option.getD_some];exact List.getElem_mem _
  have:=(hbr.le _ this).1;simp only [outI];omega
end
section
variable {V:Wide} {X:Mt} {B:Bk} {g:Int} {N:Nat}
theorem zaR {a:Int} {c:Nat} {t:Task} {w:Wk} {f:BOut×Wk→Tm} (h:Tm.Ok g N B a c (.ask t w f)):TOk g N t w∧zaD B w:=by cases h with|ask _ _ _ h1 h2 _=>exact ⟨h1,h2⟩
theorem zfB {a:Int} {c:Nat} {t:Task} {w:Wk} {f:BOut×Wk→Tm} (h:Tm.Ok g N B a c (.ask t w f)):∀o w',ROk N B t.s.at_ (lvl t.k) w o w'→Tm.Ok g N B a c (f (o,w')):=by cases h with|ask _ _ _ _ _ h3=>exact h3
theorem fn_of (Z:Bs) (hz:∃f cap,Z.v=.fn f [] cap) (bs:List Int) (k:List Fm):∃f cap f2 cap2,(encK X Z.v bs k).1=.fn f [] cap∧(encK X Z.v bs k).2=.fn f2 [] cap2:=by
 obtain ⟨⟨f,cap,h1⟩,f2,cap2,h2⟩:=zhy X hz bs k;exact ⟨f,cap,f2,cap2,h1,h2⟩
theorem za3 {n:Nat} (hP:Prog V X B g N) {t:Task} {w:Wk} {o:BOut} {w':Wk} (hf:zaD B w) (ht:TOk g N t w) (h:brun B n t w=some (o,w')):ROk N B t.s.at_ (lvl t.k) w o w':=zmc hP.hB n t w o w' hf ht h
theorem zeh {n:Nat} {Z:Bs} {bs:List Int} {a a1:MS} {t:Task} {o:BOut} {w':Wk} (ha:MOk V X a) (h:brun B n t a1.w=some (o,w')) (hc:a1.w.codes.length≤100) (hp:a.w.p≤a1.w.p):∃v H',zaH V X Z bs a o w' v H':=by
 have hg:=zbI B n t a1.w o w' h;unfold Wk.le at hg;exact ⟨_,_,⟨w',a.brd,a.bg,some 0,a.we⟩,[],rfl,⟨(fun h=>nomatch h),zh9 B n t a1.w o w' h hc,⟨ha.brd.1,by have:=ha.brd.2;show a.brd≤(w'.p:Int);omega⟩,ha.we⟩,Int.le_refl _,rfl,List.Perm.refl _⟩
theorem zoo {n:Nat} (hA:AllM V X B g N n) {f0:Fm} {b0:Int} {Z:Bs} (hz:BaseOk V X B N f0 b0 Z) {k:List Fm} {bs:List Int} {a a1:MS} {s':Sg} {o:BOut} {w':Wk} {f f2:FuncId} {cap cap2:List A}
  (e1:(encK X Z.v bs k).1=.fn f [] cap) (e2:(encK X Z.v bs k).2=.fn f2 [] cap2) (hl:zbi f0 k) (hb0:bs.getLast?=some b0) (hbr:BrOk bs k a) (hbrd:a.brd≤a1.brd) (ha1:MOk V X a1) (ht:TOk g N (.go k s') a1.w) (hf:zaD B a1.w)
  (hr:brun B n (.go k s') a1.w=some (o,w')) {H Gb:Heap} (hp:H.Perm (Gb++(Hm X a1++Z.Hb a1.w.acc none))):TrG [] Tryz.prog f ([.agg (sgC s' (bs.headD 0) (.fn f2 [] cap2))]++cap) H (zaH V X Z bs a o w'):=by
 have h:=hA f0 b0 Z hz (.go k s') bs a1 o w' hf ht hl hb0 ha1 (hbr.mono I hbrd) hr;have h:zlq [] Tryz.prog (encK X Z.v bs k).1 [.agg (encS X Z.v s' bs k)] (Hm X a1++Z.Hb a1.w.acc none) (zaH V X Z bs a1 o w'):=h;unfold encS at h;rw [e2] at h;exact (TrG.wide hp (zor e1 h)).mono fun v H' ⟨H1,k1,k2⟩=>((zdy V X Z bs a o w').wide (k1.back hbrd) k2)
theorem zdm {n:Nat} (hA:AllM V X B g N n) {f0:Fm} {b0:Int} {Z:Bs} (hz:BaseOk V X B N f0 b0 Z) {k:List Fm} {bs:List Int} {a a1:MS} {y:Pat} {s':Sg} {o:BOut} {w':Wk} (hl:zbi f0 k) (hb0:bs.getLast?=some b0) (hbr:BrOk bs k a1) (hbrd:a.brd≤a1.brd) (ha1:MOk V X a1) (ht:TOk g N (.try_ y s' k) a1.w) (hf:zaD B a1.w)
  (hr:brun B n (.try_ y s' k) a1.w=some (o,w')) {H Gb:Heap} (hp:H.Perm (Gb++(Hm X a1++Z.Hb a1.w.acc none))):TrG [] Tryz.prog 181 [X.p,.agg y.C,.agg (encS X Z.v s' bs k),(encK X Z.v bs k).1] H (zaH V X Z bs a o w'):=by
 have h:=hA f0 b0 Z hz (.try_ y s' k) bs a1 o w' hf ht hl hb0 ha1 hbr hr;exact (TrG.wide hp h).mono fun v H' ⟨H1,k1,k2⟩=>((zdy V X Z bs a o w').wide (zaH.back hbrd k1) k2)
theorem zdx {n:Nat} (hA:AllM V X B g N n) {f0:Fm} {b0:Int} {Z:Bs} (hz:BaseOk V X B N f0 b0 Z) {k:List Fm} {bs:List Int} {a a1:MS} {x:Pat} {many:Int} {s':Sg} {o:BOut} {w':Wk} (hl:zbi f0 k) (hb0:bs.getLast?=some b0) (hbr:BrOk bs k a1) (hbrd:a.brd≤a1.brd) (ha1:MOk V X a1) (ht:TOk g N (.turn x many s' k) a1.w) (hf:zaD B a1.w)
  (hr:brun B n (.turn x many s' k) a1.w=some (o,w')) {H Gb:Heap} (hp:H.Perm (Gb++(Hm X a1++Z.Hb a1.w.acc none))):TrG [] Tryz.prog 286 [X.p,.agg (zbR x).C,i64 many,.agg (encS X Z.v s' bs k),(encK X Z.v bs k).1] H (zaH V X Z bs a o w'):=by
 have h:=hA f0 b0 Z hz (.turn x many s' k) bs a1 o w' hf ht hl hb0 ha1 hbr hr;exact (TrG.wide hp h).mono fun v H' ⟨H1,k1,k2⟩=>((zdy V X Z bs a o w').wide (zaH.back hbrd k1) k2)
def zk1 (b want:Int) (re:Nat):Option Sg→List A
 |none=>zhx
 |some s=>sgC s b (accC want re)
def ze2 (b want:Int) (re:Nat):Bs:=⟨accC want re,fun _ o=>[(re,.row 179 25 [zk1 b want re o])]⟩
theorem zcl (b want:Int) (re:Nat):BaseOk V X B N (.stop want) b (ze2 b want re) where
 fn:=⟨_,_,rfl⟩
 go s a hs ha hp o w' h:=by
  refine ⟨_,[],_,rfl,?_⟩;refine TrG.pre (H0:=(re,.row 179 25 [zhx])::Hm X a) List.perm_append_comm ?_;have h:(if want≥0∧want≠s.at_ then Tm.ret (.no,a.w) else Tm.ret (.yes s,a.w))=.ret (o,w'):=h
  refine zml want re zhx s b _ _ (Hm X a) _ I (fun hc=>?_) (fun hc=>?_)
  ·rw [if_pos hc] at h
   cases h;exact ⟨a,[],rfl,ha,Int.le_refl _,rfl,List.perm_append_comm (l₁:=[_])⟩
  ·rw [if_neg hc] at h
   cases h;exact ⟨a,[],rfl,ha,Int.le_refl _,rfl,List.perm_append_comm (l₁:=[_])⟩
def outA:BOut→Int
 |.no=>0
 |.yes _=>1
 |.cut _=>0
 |.tired=>2
def ziP (V:Wide) (X:Mt) (want:Int) (a1:MS) (o1:BOut) (w1:Wk) (m:Int) (e:List A) (H':Heap):Prop:=
 ∃b re a2 G,e=zk1 b want re (outS o1)∧m=outA o1∧a2.w=w1∧MOk V X a2∧a1.brd≤a2.brd∧H'.Perm (G++Hm X a2)
theorem zfj (b want:Int) (re:Nat) (o:Option Sg):(zk1 b want re o).length=25∧zah (zk1 b want re o)=true:=by cases o<;>exact ⟨rfl,rfl⟩
theorem zdj (want:Int) (s0:Sg) (b:Int) (f2:FuncId) (cap2:List A) {a1:MS} (ha1:MOk V X a1) (hp:a1.w.p≤20001) (hbp:a1.brd+1≤a1.w.p) {o1:BOut} {w1:Wk} (hcut:∀j,o1=.cut j→j=1) (fi:FuncId) (capi:List A)
  (h:∀b' re a',b'=a1.brd+1→a'={a1 with brd:=a1.brd+1}→MOk V X a'→BrOk [b'] [.stop want] a'→
   TrG [] Tryz.prog fi ([.agg (sgC s0 b' (accC want re)),accC want re]++capi) (Hm X a'++(ze2 b' want re).Hb a'.w.acc none) (zaH V X (ze2 b' want re) [b'] a' o1 w1)):
  TrG [] Tryz.prog 289 [X.p,.agg (sgC s0 b (.fn f2 [] cap2)),i64 want,.fn fi [] capi] (Hm X a1) fun v H'=>∃m e,v=.tup [.agg e,i64 m]∧e.length=25∧zah e=true∧ziP V X want a1 o1 w1 m e H':=by
 have hb0:=ha1.brd;refine zoq X a1 ⟨hb0.1,by omega⟩ want s0 b f2 cap2 fi capi _ ⟨?_,?_⟩
  (fun re n e Hx=>n=outI [a1.brd+1] o1∧e=zk1 (a1.brd+1) want re (outS o1)∧∃a2 G,a2.w=w1∧MOk V X a2∧a1.brd+1≤a2.brd∧Hx.Perm (G++Hm X a2)) (fun re=>?_) ?_
 ·rintro v H H' hpm ⟨m,e,h1,h2,h3,b,re,a2,G,h4,h5,h6,h7,h8,h9⟩
  exact ⟨m,e,h1,h2,h3,b,re,a2,G,h4,h5,h6,h7,h8,hpm.symm.trans h9⟩
 ·rintro v H Gb ⟨m,e,h1,h2,h3,b,re,a2,G,h4,h5,h6,h7,h8,h9⟩
  exact ⟨m,e,h1,h2,h3,b,re,a2,Gb++G,h4,h5,h6,h7,h8,by rw [List.append_assoc];exact h9.append_left _⟩
 ·have hm:MOk V X {a1 with brd:=a1.brd+1}:=⟨ha1.g,ha1.codes,⟨by show 0≤a1.brd+1;omega,hbp⟩,ha1.we⟩
  have k:=h (a1.brd+1) re {a1 with brd:=a1.brd+1} I I hm ⟨rfl,fun b hb=>by rw [List.mem_singleton.1 hb];exact ⟨by omega,Int.le_refl _⟩,by simp⟩
  refine (TrG.pre (List.perm_append_comm (l₁:=[_])) k).mono ?_;rintro v H' ⟨a2,G,h1,h2,h3,h4,h5⟩;refine ⟨_,zk1 (a1.brd+1) want re (outS o1),G++Hm X a2,h4,?_,(zfj ..).1,(zfj ..).2,rfl,rfl,a2,G,h1,h2,h3,List.Perm.refl _⟩;refine h5.trans ?_;rw [←List.append_assoc];exact List.perm_append_comm (l₂:=[_])
 ·rintro re n e Hx ⟨rfl,rfl,a2,G,h1,h2,h3,h4⟩
  refine ⟨_,_,rfl,(zfj ..).1,(zfj ..).2,a1.brd+1,re,a2,G,rfl,?_,h1,h2,by omega,h4⟩
  cases o1 with
  |no=>exact if_neg (show¬(0:Int)=3+(a1.brd+1) by omega)
  |yes s=>exact if_neg (show¬(1:Int)=3+(a1.brd+1) by omega)
  |tired=>exact if_neg (show¬(2:Int)=3+(a1.brd+1) by omega)
  |cut j=>
   have:=hcut j rfl;subst this;exact if_pos rfl
end
section
variable {V:Wide} {X:Mt} {B:Bk} {g:Int} {N:Nat}
structure Ctx (V:Wide) (X:Mt) (B:Bk) (g:Int) (N n:Nat) (f0:Fm) (b0:Int) (Z:Bs) (k:List Fm) (bs:List Int) (a:MS) (f:FuncId) (cap:List A) (f2:FuncId) (cap2:List A):Prop where
 hP:Prog V X B g N
 low:∀m,m≤n→AllM V X B g N m
 hz:BaseOk V X B N f0 b0 Z
 e1:(encK X Z.v bs k).1=.fn f [] cap
 e2:(encK X Z.v bs k).2=.fn f2 [] cap2
 hl:zbi f0 k
 hb0:bs.getLast?=some b0
 hbr:BrOk bs k a
 ha:MOk V X a
variable {n:Nat} {f0:Fm} {b0:Int} {Z:Bs} {k:List Fm} {bs:List Int} {a:MS} {f f2:FuncId} {cap cap2:List A}
theorem Ctx.go (c:Ctx V X B g N n f0 b0 Z k bs a f cap f2 cap2) {m:Nat} (hm:m≤n) {a1:MS} {s':Sg} {o:BOut} {w':Wk} (hbrd:a.brd≤a1.brd) (ha1:MOk V X a1) (ht:TOk g N (.go k s') a1.w) (hf:zaD B a1.w) (hr:brun B m (.go k s') a1.w=some (o,w'))
  {H Gb:Heap} (hp:H.Perm (Gb++(Hm X a1++Z.Hb a1.w.acc none))):TrG [] Tryz.prog f ([.agg (sgC s' (bs.headD 0) (.fn f2 [] cap2))]++cap) H (zaH V X Z bs a o w'):=
 zoo (c.low m hm) c.hz c.e1 c.e2 c.hl c.hb0 c.hbr hbrd ha1 ht hf hr hp
theorem Ctx.try_ (c:Ctx V X B g N n f0 b0 Z k bs a f cap f2 cap2) {m:Nat} (hm:m≤n) {a1:MS} {y:Pat} {s':Sg} {o:BOut} {w':Wk} (hbrd:a.brd≤a1.brd) (ha1:MOk V X a1) {fr:Fm} (hfr:lvl (fr::k)=lvl k) (ht:TOk g N (.try_ y s' (fr::k)) a1.w) (hf:zaD B a1.w) (hr:brun B m (.try_ y s' (fr::k)) a1.w=some (o,w'))
  {H Gb:Heap} (hp:H.Perm (Gb++(Hm X a1++Z.Hb a1.w.acc none))):TrG [] Tryz.prog 181 [X.p,.agg y.C,.agg (encS X Z.v s' bs (fr::k)),(encK X Z.v bs (fr::k)).1] H (zaH V X Z bs a o w'):=
 zdm (c.low m hm) c.hz c.hl.cons c.hb0 (c.hbr.mono hfr hbrd) hbrd ha1 ht hf hr hp
theorem Ctx.try0 (c:Ctx V X B g N n f0 b0 Z k bs a f cap f2 cap2) {m:Nat} (hm:m≤n) {a1:MS} {y:Pat} {s':Sg} {o:BOut} {w':Wk} (hbrd:a.brd≤a1.brd) (ha1:MOk V X a1) (ht:TOk g N (.try_ y s' k) a1.w) (hf:zaD B a1.w) (hr:brun B m (.try_ y s' k) a1.w=some (o,w'))
  {H Gb:Heap} (hp:H.Perm (Gb++(Hm X a1++Z.Hb a1.w.acc none))):TrG [] Tryz.prog 181 [X.p,.agg y.C,.agg (sgC s' (bs.headD 0) (.fn f2 [] cap2)),.fn f [] cap] H (zaH V X Z bs a o w'):=by
 have h:=zdm (c.low m hm) c.hz c.hl c.hb0 (c.hbr.mono I hbrd) hbrd ha1 ht hf hr hp;unfold encS at h;rw [c.e1,c.e2] at h;exact h
theorem Ctx.turn (c:Ctx V X B g N n f0 b0 Z k bs a f cap f2 cap2) {m:Nat} (hm:m≤n) {a1:MS} {x:Pat} {many:Int} {s':Sg} {o:BOut} {w':Wk} (hbrd:a.brd≤a1.brd) (ha1:MOk V X a1) (ht:TOk g N (.turn x many s' k) a1.w) (hf:zaD B a1.w) (hr:brun B m (.turn x many s' k) a1.w=some (o,w'))
  {H Gb:Heap} (hp:H.Perm (Gb++(Hm X a1++Z.Hb a1.w.acc none))):TrG [] Tryz.prog 286 [X.p,.agg (zbR x).C,i64 many,.agg (sgC s' (bs.headD 0) (.fn f2 [] cap2)),.fn f [] cap] H (zaH V X Z bs a o w'):=by
 have h:=zdx (c.low m hm) c.hz c.hl c.hb0 (c.hbr.mono I hbrd) hbrd ha1 ht hf hr hp;unfold encS at h;rw [c.e1,c.e2] at h;exact h
theorem Ctx.ne (c:Ctx V X B g N n f0 b0 Z k bs a f cap f2 cap2) {m:Nat} {t:Task} {w1:Wk} {o:BOut} {w':Wk} (h:brun B m t w1=some (o,w')) (hc:w1.codes.length≤100) (hp:a.w.p≤w1.p):∃v H',zaH V X Z bs a o w' v H':=
 zeh (a1:=⟨w1,0,0,none,[]⟩) c.ha h hc hp
theorem Ctx.wd (c:Ctx V X B g N n f0 b0 Z k bs a f cap f2 cap2) (o:BOut) (w':Wk):Wd (zaH V X Z bs a o w'):=zdy ..
theorem Ctx.now (c:Ctx V X B g N n f0 b0 Z k bs a f cap f2 cap2) {o:BOut} {a1:MS} (hbrd:a.brd≤a1.brd) (ha1:MOk V X a1) (hs:outS o=none) {H Gb:Heap} (hp:H.Perm (Gb++(Hm X a1++Z.Hb a1.w.acc none))):zaH V X Z bs a o a1.w (i64 (outI bs o)) H:=
 ⟨a1,Gb,rfl,ha1,hbrd,rfl,by rw [hs];exact hp⟩
theorem zjV (c:Ctx V X B g N n f0 b0 Z k bs a f cap f2 cap2) {x:Pat} {i:Nat} {s:Sg} {o:BOut} {w':Wk} {a1:MS} {ca:Int} {cc:Nat} (hbrd:a.brd≤a1.brd) (ha1:MOk V X a1) (hk:Tm.Ok g N B ca cc (catS x i s k a1.w)) (h:(catS x i s k a1.w).eval (brun B n)=some (o,w')) (hp:a.w.p≤a1.w.p)
  {H Gb:Heap} (hH:H.Perm (Gb++(Hm X a1++Z.Hb a1.w.acc none))):TrG [] Tryz.prog 231 [X.p,.ds ((x.l.drop i).map Pat.cells),.agg (sgC s (bs.headD 0) (.fn f2 [] cap2)),.fn f [] cap] H (zaH V X Z bs a o w'):=by
 unfold catS at h hk;cases hy:x.l[i]? with
 |some y=>
  rw [hy] at h hk;simp only at h hk;obtain ⟨ht,hf⟩:=zaR hk;rw [zaQ] at h;refine zpk X x i s (bs.headD 0) f2 cap2 f cap H _ (fun z hz=>?_) (c.ne h ha1.codes hp) (fun hn=>?_)
  ·rw [hy] at hz
   cases hz;have:=c.try_ (Nat.le_refl n) hbrd ha1 I ht hf h hH;unfold encS at this;simp only [encK,Nat.add_sub_cancel] at this;rw [c.e1,c.e2] at this;exact this
  ·rw [List.getElem?_eq_none hn] at hy
   cases hy
 |none=>
  rw [hy] at h hk;simp only at h hk;obtain ⟨ht,hf⟩:=zaR hk;rw [zaQ] at h;refine zpk X x i s (bs.headD 0) f2 cap2 f cap H _ (fun z hz=>?_) (c.ne h ha1.codes hp) (fun hn=>c.go (Nat.le_refl n) hbrd ha1 ht hf h hH);rw [hy] at hz;cases hz
theorem zh4 {b:Int} {bs:List Int} {o:BOut} (h:∀j,o=.cut j→1≤j∧j≤bs.length):outI (b::bs) o=outI bs o:=by
 cases o with
 |cut j=>
  have:=h j rfl;simp only [outI,List.length_cons];rw [show bs.length+1 - j=(bs.length - j)+1 by omega]
  simp
 |_=>rfl
theorem zmj {x:Pat}:((zbR x).n=1↔x.n=1)∧(zbR x).min=x.min∧(zbR x).max=x.max∧(zbR x).l=x.l:=by
 unfold zbR zcP;split
 ·rename_i h
  refine ⟨⟨fun e=>?_,fun e=>?_⟩,rfl,rfl,rfl⟩
  ·simp [Pat.n] at e
  ·omega
 ·exact ⟨Iff.rfl,rfl,rfl,rfl⟩
def zmJ (V:Wide) (X:Mt) (B:Bk) (Z:Bs) (bs:List Int) (n:Nat) (a:MS) (second:Wk→Tm) (o:BOut) (w':Wk) (v:A) (H':Heap):Prop:=
 ∃m a1,v=i64 m∧(m≠0→zaH V X Z bs a o w' v H')∧(m=0→a.brd≤a1.brd∧MOk V X a1∧zaD B a1.w∧Wk.le a.w a1.w∧(second a1.w).eval (brun B n)=some (o,w')∧∃G,H'.Perm (G++(Hm X a1++Z.Hb a1.w.acc none)))
theorem zgl (c:Ctx V X B g N n f0 b0 Z k bs a f cap f2 cap2) {second:Wk→Tm} {o o1:BOut} {w1 w':Wk} {at_:Int} (hr:ROk N B at_ (lvl k) a.w o1 w1) (h:(zeD second (o1,w1)).eval (brun B n)=some (o,w')) {v:A} {H':Heap} (hp:zaH V X Z bs a o1 w1 v H'):zmJ V X B Z bs n a second o w' v H':=by
 obtain ⟨a1,G,h1,h2,h3,h4,h5⟩:=hp;by_cases ho:o1=.no
 ·subst ho
  refine ⟨0,a1,h4,fun hh=>absurd I hh,fun _=>⟨h3,h2,by rw [h1];exact hr.fr (by simp),by rw [h1];exact hr.le,by rw [h1];exact h,G,by rw [h1];exact h5⟩⟩
 ·have hm:outI bs o1≠0:=zmw (c:=0) c.hbr (fun j hj=>by rw [c.hbr.len];exact hr.cut j hj) ho
  refine ⟨outI bs o1,a1,h4,fun _=>?_,fun h0=>absurd h0 hm⟩;have e:(Tm.ret (o1,w1)).eval (brun B n)=some (o,w'):=by
   cases o1<;>first|exact absurd I ho|exact h
  have:=zaB e;cases this;exact ⟨a1,G,h1,h2,h3,h4,h5⟩
end
end Go.Proofs.YtpopmiodjibljaaGreatDoor

