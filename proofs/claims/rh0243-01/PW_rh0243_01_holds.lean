import PyProof.Rows.All
import Wide.All
import OpenK.AllK
import KE.KDictSum
import Wide.FinOn
import Lean
import PySem.Challenge.RW_rh0243_01
open PySem PySem.W PySem.Calls PyProof.Rows
set_option Elab.async false
set_option maxRecDepth 100000
set_option maxHeartbeats 8000000
set_option linter.all false
namespace Mine
abbrev S (x : String) : Str := Str.ofString x
def dg (i j : Nat) : Stmt :=
 match PySem.Challenge.pw_rh0243_01.main.body[i]? with
 | some (.ClassDef _ _ _ b _ _ _ _ _ _ _) => (b[j]?).getD (.Pass default)
 | some s => s
 | none => .Pass default
def dName : Stmt → Str | .FunctionDef n _ _ _ _ _ _ _ _ _ => n | _ => Str.empty
def dParams : Stmt → Arguments | .FunctionDef _ a _ _ _ _ _ _ _ _ => a | _ => default
def dBody : Stmt → List Stmt | .FunctionDef _ _ b _ _ _ _ _ _ _ => b | _ => []
def dScope : Stmt → Scope | .FunctionDef _ _ _ _ _ _ s _ _ _ => s | _ => default
def fo (i j : Nat) (qual : Str) (dV pm cd : Value) : Obj :=
 ⟨.type "function",none,.func (fnOf (dName (dg i j)) qual (dParams (dg i j)) (dBody (dg i j)) (dScope (dg i j)) dV .none .none pm none cd .none),#[]⟩
def co (n : Str) (a ns t u : Nat) : Obj :=
 ⟨.type "type",none,.cls { name := n,bases := [.type "object"],mro := [.ref a,.type "object"],ns := ns,qualname := n },#[none,none,some (.str n t),some (.str n u),some (.builtin "object.__new__"),some (.bool true)]⟩
def no (P : Params) (es : List (Str × Nat × Value)) (n : Nat) : Obj :=
 ⟨.type "dict",none,.dict (es.map fun e => ⟨PyData.keyHash P e.1,.str e.1 e.2.1,e.2.2⟩).toArray n,#[]⟩
def tu (vs : List Value) (n : Nat) : Obj := ⟨.type "tuple",none,.seq vs.toArray n,#[]⟩
def KF (P : Params) : Frag := [
 (2,⟨.none,none,(no P [(S "type.__subclasses__.Exception.0",231,.int (40) 0),(S "type.__subclasses__.Exception.n",232,.int (1) 0)] 2).data,#[]⟩),
 (3,no P [(S "__name__",165,.str (S "law_rh0243_01") 2208),(S "__doc__",166,.none),(S "__package__",167,.none),(S "__loader__",168,.builtin "__main__.__loader__#opaque"),(S "__spec__",169,.none),(S "__annotations__",170,.ref 6),(S "__builtins__",171,.ref 4),(S "__file__",173,.str (S "/claim/cut.py") 172),(S "__cached__",174,.none),(S "_wall",193,.ref 21),(S "NO_COLOUR",198,.int (-1) 197),(S "PLAIN",201,.ref 22),(S "BACK",203,.int (2) 202),(S "BLANK",205,.int (32) 204),(S "TermError",234,.ref 40),(S "BadSize",250,.ref 53),(S "clamp",259,.ref 62),(S "erased_pen",266,.ref 69),(S "blank_cell",273,.ref 76),(S "is_blank",280,.ref 83),(S "is_plain_blank",287,.ref 90),(S "LINE_SIZES",294,.ref 91),(S "line_blanks",302,.ref 98),(S "right_half",309,.ref 105),(S "line_part",317,.ref 112),(S "line_slice",327,.ref 119),(S "line_codes",337,.ref 126),(S "Line",517,.ref 251),(S "Grid",727,.ref 396),(S "grid_cut",734,.ref 407),(S "grid_mended",742,.ref 414),(S "SINGLE",746,.str (S "single") 745),(S "History",828,.ref 478),(S "reflow_lines_equal",834,.ref 487),(S "LogicalLine",902,.ref 532),(S "reflow_used",910,.ref 543),(S "reflow_begins_wide",917,.ref 550),(S "reflow_part",926,.ref 557),(S "reflow_goes_on",934,.ref 564),(S "logical_of",944,.ref 571),(S "cut_with_places",960,.ref 578),(S "reflow_place",969,.ref 585),(S "reflow_line",981,.ref 592),(S "Cutting",1078,.ref 644),(S "reflow_cutting",1090,.ref 655),(S "reflowed",1105,.ref 662),(S "WIDTH_JOINER",1109,.int (8205) 1108),(S "WIDTH_PICTURE",1111,.int (65039) 1110),(S "WIDTH_KEYCAP",1113,.int (8419) 1112),(S "FIRST_MODIFIER",1116,.int (127995) 1114),(S "LAST_MODIFIER",1117,.int (127999) 1115),(S "FIRST_REGION",1120,.int (127462) 1118),(S "LAST_REGION",1121,.int (127487) 1119),(S "WIDTH_KEYS",1134,.ref 671),(S "width_in_ranges",1145,.ref 678),(S "width_check_ranges",1156,.ref 685),(S "WidthTable",1206,.ref 716),(S "is_region",1213,.ref 727),(S "is_modifier",1220,.ref 734),(S "width_bare",1227,.ref 741),(S "joins",1233,.ref 746),(S "cluster_width",1239,.ref 751),(S "MOUSE_MODES",1246,.ref 752),(S "MOUSE_ENCODINGS",1251,.ref 753),(S "FIRST_ON",1257,.ref 754),(S "modes_group",1264,.ref 761),(S "Modes",1312,.ref 792),(S "ASCII_SET",1316,.bytes #[66] 1315),(S "SUPPLEMENT_SET",1318,.bytes #[37,53] 1317),(S "LATIN_SET",1320,.bytes #[45,65] 1319),(S "LEFT_FIRST",1322,.int (32) 1321),(S "LEFT_LAST",1324,.int (127) 1323),(S "RIGHT_FIRST",1326,.int (160) 1325),(S "RIGHT_LAST",1328,.int (255) 1327),(S "HIGH_BIT",1330,.int (128) 1329),(S "charset_pairs",1338,.ref 803),(S "charset_drawing",1345,.ref 810),(S "charset_supplement",1354,.ref 817),(S "charset_national",1361,.ref 824),(S "charset_table",1368,.ref 831),(S "Charsets",1482,.ref 920),(S "charset_on_right",1491,.ref 931),(S "TAB_WIDTH",1495,.int (8) 1494),(S "Cursor",1560,.ref 976),(S "Margins",1722,.ref 1109),(S "Tabs",1844,.ref 1208),(S "WIDE_SIZES",1850,.ref 1213),(S "Screen",2191,.ref 1485),(S "terminal_fit",2207,.ref 1496),(S "_law_bare",2219,.ref 1499),(S "_law_looks",2242,.ref 1503),(S "_law_take",2251,.ref 1510),(S "_law_screen",2259,.ref 1517),(S "_law_written",2268,.ref 1524),(S "_law_group",2282,.ref 1531),(S "_law_texts",2295,.ref 1538),(S "_law_laid",2310,.ref 1545),(S "_law_seen",2316,.ref 1550),(S "_law_is_so",2322,.ref 1555),(S "law",2328,.ref 1560)] 100),
 (22,tu [.int (0) 199,.int (-1) 197,.int (-1) 197,.int (-1) 197,.int (0) 200] 0),
 (62,fo 8 1000 (S "clamp") (.none) (.str (S "termcore.base") 194) (.ref 61)),
 (69,fo 9 1000 (S "erased_pen") (.none) (.str (S "termcore.base") 194) (.ref 68)),
 (76,fo 10 1000 (S "blank_cell") (.none) (.str (S "termcore.base") 194) (.ref 75)),
 (83,fo 11 1000 (S "is_blank") (.none) (.str (S "termcore.base") 194) (.ref 82)),
 (90,fo 12 1000 (S "is_plain_blank") (.none) (.str (S "termcore.base") 194) (.ref 89)),
 (91,tu [.str (S "single") 290,.str (S "wide") 291,.str (S "top") 292,.str (S "bottom") 293] 0),
 (98,fo 15 1000 (S "line_blanks") (.none) (.str (S "termcore.lines") 288) (.ref 97)),
 (105,fo 16 1000 (S "right_half") (.none) (.str (S "termcore.lines") 288) (.ref 104)),
 (112,fo 17 1000 (S "line_part") (.none) (.str (S "termcore.lines") 288) (.ref 111)),
 (140,fo 20 0 (S "Line.__init__") (.none) (.str (S "termcore.lines") 288) (.ref 139)),
 (162,fo 20 3 (S "Line.part") (.none) (.str (S "termcore.lines") 288) (.ref 161)),
 (169,fo 20 4 (S "Line.put") (.none) (.str (S "termcore.lines") 288) (.ref 168)),
 (248,fo 20 15 (S "Line.equals") (.none) (.str (S "termcore.lines") 288) (.ref 247)),
 (250,no P [(S "__module__",345,.str (S "termcore.lines") 288),(S "__firstlineno__",349,.int (51) 348),(S "__init__",358,.ref 140),(S "columns",366,.ref 148),(S "shown",373,.ref 155),(S "part",381,.ref 162),(S "put",390,.ref 169),(S "put_cells",400,.ref 176),(S "erase",413,.ref 184),(S "shift",430,.ref 191),(S "insert",441,.ref 198),(S "delete",452,.ref 205),(S "fill",462,.ref 212),(S "copy",470,.ref 219),(S "codes",480,.ref 227),(S "used",488,.ref 234),(S "resized",498,.ref 241),(S "equals",506,.ref 248),(S "__static_attributes__",510,.ref 249),(S "__dict__",512,.ref 252),(S "__weakref__",514,.ref 253),(S "__doc__",515,.none)] 4),
 (251,co (S "Line") 251 250 338 346),
 (267,fo 22 0 (S "Grid.__init__") (.none) (.str (S "termcore.grid") 518) (.ref 266)),
 (274,fo 22 1 (S "Grid.line") (.none) (.str (S "termcore.grid") 518) (.ref 273)),
 (288,fo 22 3 (S "Grid.is_wide") (.none) (.str (S "termcore.grid") 518) (.ref 287)),
 (293,fo 22 4 (S "Grid.fresh") (.none) (.str (S "termcore.grid") 518) (.ref 292)),
 (300,fo 22 5 (S "Grid.part_above") (.none) (.str (S "termcore.grid") 518) (.ref 299)),
 (307,fo 22 6 (S "Grid.scroll_up") (.none) (.str (S "termcore.grid") 518) (.ref 306)),
 (388,fo 22 18 (S "Grid.equals") (.none) (.str (S "termcore.grid") 518) (.ref 387)),
 (395,no P [(S "__module__",527,.str (S "termcore.grid") 518),(S "__firstlineno__",531,.int (151) 530),(S "__init__",537,.ref 267),(S "line",545,.ref 274),(S "whole_area",552,.ref 281),(S "is_wide",560,.ref 288),(S "fresh",566,.ref 293),(S "part_above",574,.ref 300),(S "scroll_up",591,.ref 307),(S "scroll_down",601,.ref 314),(S "unwrap",610,.ref 321),(S "insert_columns",621,.ref 328),(S "delete_columns",632,.ref 335),(S "cells_of",642,.ref 342),(S "put_cells",656,.ref 349),(S "erase_area",671,.ref 357),(S "fill_area",680,.ref 364),(S "copy_area",690,.ref 371),(S "cells_in",698,.ref 378),(S "copy",704,.ref 383),(S "equals",710,.ref 388),(S "text",716,.ref 393),(S "__static_attributes__",720,.ref 394),(S "__dict__",722,.ref 397),(S "__weakref__",724,.ref 398),(S "__doc__",725,.none)] 4),
 (396,co (S "Grid") 396 395 520 528),
 (428,fo 27 0 (S "History.__init__") (.none) (.str (S "termcore.reflow") 743) (.ref 427)),
 (442,fo 27 2 (S "History.push") (.none) (.str (S "termcore.reflow") 743) (.ref 441)),
 (475,fo 27 7 (S "History.equals") (.none) (.str (S "termcore.reflow") 743) (.ref 474)),
 (477,no P [(S "__module__",754,.str (S "termcore.reflow") 743),(S "__firstlineno__",758,.int (265) 757),(S "__init__",766,.ref 428),(S "many",773,.ref 435),(S "push",781,.ref 442),(S "pop",788,.ref 449),(S "clear",795,.ref 456),(S "trimmed",803,.ref 463),(S "copy",809,.ref 468),(S "equals",817,.ref 475),(S "__static_attributes__",821,.ref 476),(S "__dict__",823,.ref 479),(S "__weakref__",825,.ref 480),(S "__doc__",826,.none)] 4),
 (478,co (S "History") 478 477 747 755),
 (487,fo 28 1000 (S "reflow_lines_equal") (.none) (.str (S "termcore.reflow") 743) (.ref 486)),
 (501,fo 29 0 (S "LogicalLine.__init__") (.none) (.str (S "termcore.reflow") 743) (.ref 500)),
 (508,fo 29 1 (S "LogicalLine.put") (.none) (.str (S "termcore.reflow") 743) (.ref 507)),
 (515,fo 29 2 (S "LogicalLine.kept_to") (.none) (.str (S "termcore.reflow") 743) (.ref 514)),
 (522,fo 29 3 (S "LogicalLine.size_of") (.none) (.str (S "termcore.reflow") 743) (.ref 521)),
 (529,fo 29 4 (S "LogicalLine.offset_of") (.none) (.str (S "termcore.reflow") 743) (.ref 528)),
 (531,no P [(S "__module__",842,.str (S "termcore.reflow") 743),(S "__firstlineno__",846,.int (303) 845),(S "__init__",855,.ref 501),(S "put",863,.ref 508),(S "kept_to",871,.ref 515),(S "size_of",879,.ref 522),(S "offset_of",889,.ref 529),(S "__static_attributes__",895,.ref 530),(S "__dict__",897,.ref 533),(S "__weakref__",899,.ref 534),(S "__doc__",900,.none)] 4),
 (532,co (S "LogicalLine") 532 531 835 843),
 (543,fo 30 1000 (S "reflow_used") (.none) (.str (S "termcore.reflow") 743) (.ref 542)),
 (550,fo 31 1000 (S "reflow_begins_wide") (.none) (.str (S "termcore.reflow") 743) (.ref 549)),
 (557,fo 32 1000 (S "reflow_part") (.none) (.str (S "termcore.reflow") 743) (.ref 556)),
 (564,fo 33 1000 (S "reflow_goes_on") (.none) (.str (S "termcore.reflow") 743) (.ref 563)),
 (571,fo 34 1000 (S "logical_of") (.none) (.str (S "termcore.reflow") 743) (.ref 570)),
 (578,fo 35 1000 (S "cut_with_places") (.none) (.str (S "termcore.reflow") 743) (.ref 577)),
 (585,fo 36 1000 (S "reflow_place") (.none) (.str (S "termcore.reflow") 743) (.ref 584)),
 (592,fo 37 1000 (S "reflow_line") (.none) (.str (S "termcore.reflow") 743) (.ref 591)),
 (606,fo 38 0 (S "Cutting.__init__") (.none) (.str (S "termcore.reflow") 743) (.ref 605)),
 (613,fo 38 1 (S "Cutting.put") (.none) (.str (S "termcore.reflow") 743) (.ref 612)),
 (620,fo 38 2 (S "Cutting.go_behind") (.none) (.str (S "termcore.reflow") 743) (.ref 619)),
 (634,fo 38 4 (S "Cutting.give_up") (.none) (.str (S "termcore.reflow") 743) (.ref 633)),
 (641,fo 38 5 (S "Cutting.top") (.none) (.str (S "termcore.reflow") 743) (.ref 640)),
 (643,no P [(S "__module__",989,.str (S "termcore.reflow") 743),(S "__firstlineno__",993,.int (387) 992),(S "__init__",1005,.ref 606),(S "put",1030,.ref 613),(S "go_behind",1037,.ref 620),(S "place_of",1046,.ref 627),(S "give_up",1055,.ref 634),(S "top",1063,.ref 641),(S "__static_attributes__",1071,.ref 642),(S "__dict__",1073,.ref 645),(S "__weakref__",1075,.ref 646),(S "__doc__",1076,.none)] 4),
 (644,co (S "Cutting") 644 643 982 990),
 (655,fo 39 1000 (S "reflow_cutting") (.none) (.str (S "termcore.reflow") 743) (.ref 654)),
 (662,fo 40 1000 (S "reflowed") (.none) (.str (S "termcore.reflow") 743) (.ref 661)),
 (678,fo 48 1000 (S "width_in_ranges") (.none) (.str (S "termcore.cellwidths") 1106) (.ref 677)),
 (685,fo 49 1000 (S "width_check_ranges") (.none) (.str (S "termcore.cellwidths") 1106) (.ref 684)),
 (699,fo 50 0 (S "WidthTable.__init__") (.none) (.str (S "termcore.cellwidths") 1106) (.ref 698)),
 (706,fo 50 1 (S "WidthTable.width_of") (.none) (.str (S "termcore.cellwidths") 1106) (.ref 705)),
 (715,no P [(S "__module__",1164,.str (S "termcore.cellwidths") 1106),(S "__firstlineno__",1168,.int (499) 1167),(S "__init__",1179,.ref 699),(S "width_of",1187,.ref 706),(S "is_picture",1195,.ref 713),(S "__static_attributes__",1199,.ref 714),(S "__dict__",1201,.ref 717),(S "__weakref__",1203,.ref 718),(S "__doc__",1204,.none)] 4),
 (716,co (S "WidthTable") 716 715 1157 1165),
 (754,tu [.str (S "send_receive") 1252,.str (S "autowrap") 1253,.str (S "autorepeat") 1254,.str (S "show_cursor") 1255,.str (S "num_lock") 1256] 0),
 (775,fo 61 0 (S "Modes.__init__") (.none) (.str (S "termcore.modes") 1240) (.ref 774)),
 (782,fo 61 1 (S "Modes.is_on") (.none) (.str (S "termcore.modes") 1240) (.ref 781)),
 (791,no P [(S "__module__",1272,.str (S "termcore.modes") 1240),(S "__firstlineno__",1276,.int (547) 1275),(S "__init__",1284,.ref 775),(S "is_on",1292,.ref 782),(S "set",1302,.ref 789),(S "__static_attributes__",1305,.ref 790),(S "__dict__",1307,.ref 793),(S "__weakref__",1309,.ref 794),(S "__doc__",1310,.none)] 4),
 (792,co (S "Modes") 792 791 1265 1273),
 (831,fo 75 1000 (S "charset_table") (.none) (.str (S "termcore.charsets") 1313) (.ref 830)),
 (839,tu [.none] 0),
 (846,fo 76 0 (S "Charsets.__init__") (.ref 839) (.str (S "termcore.charsets") 1313) (.ref 845)),
 (853,fo 76 1 (S "Charsets.table") (.none) (.str (S "termcore.charsets") 1313) (.ref 852)),
 (860,fo 76 2 (S "Charsets.reset") (.none) (.str (S "termcore.charsets") 1313) (.ref 859)),
 (903,tu [.bool false] 0),
 (910,fo 76 9 (S "Charsets.mapped") (.ref 903) (.str (S "termcore.charsets") 1313) (.ref 909)),
 (919,no P [(S "__module__",1376,.str (S "termcore.charsets") 1313),(S "__firstlineno__",1380,.int (624) 1379),(S "__init__",1388,.ref 846),(S "table",1396,.ref 853),(S "reset",1403,.ref 860),(S "copy",1411,.ref 867),(S "designate",1420,.ref 874),(S "shift_in",1427,.ref 881),(S "shift_out",1434,.ref 888),(S "lock",1443,.ref 895),(S "single",1451,.ref 902),(S "mapped",1462,.ref 910),(S "is_plain",1469,.ref 917),(S "__static_attributes__",1475,.ref 918),(S "__dict__",1477,.ref 921),(S "__weakref__",1479,.ref 922),(S "__doc__",1480,.none)] 4),
 (920,co (S "Charsets") 920 919 1369 1377),
 (945,fo 80 0 (S "Cursor.__init__") (.none) (.str (S "termcore.cursor") 1492) (.ref 944)),
 (966,fo 80 3 (S "Cursor.place") (.none) (.str (S "termcore.cursor") 1492) (.ref 965)),
 (973,fo 80 4 (S "Cursor.equals") (.none) (.str (S "termcore.cursor") 1492) (.ref 972)),
 (975,no P [(S "__module__",1503,.str (S "termcore.cursor") 1492),(S "__firstlineno__",1507,.int (682) 1506),(S "__init__",1514,.ref 945),(S "copy",1522,.ref 952),(S "go",1531,.ref 959),(S "place",1538,.ref 966),(S "equals",1546,.ref 973),(S "__static_attributes__",1553,.ref 974),(S "__dict__",1555,.ref 977),(S "__weakref__",1557,.ref 978),(S "__doc__",1558,.none)] 4),
 (976,co (S "Cursor") 976 975 1496 1504),
 (994,fo 81 0 (S "Margins.__init__") (.none) (.str (S "termcore.cursor") 1492) (.ref 993)),
 (1036,fo 81 6 (S "Margins.area") (.none) (.str (S "termcore.cursor") 1492) (.ref 1035)),
 (1108,no P [(S "__module__",1568,.str (S "termcore.cursor") 1492),(S "__firstlineno__",1572,.int (714) 1571),(S "__init__",1581,.ref 994),(S "set_rows",1590,.ref 1001),(S "set_columns",1599,.ref 1008),(S "clear_rows",1606,.ref 1015),(S "clear_columns",1613,.ref 1022),(S "resize",1622,.ref 1029),(S "area",1629,.ref 1036),(S "holds",1638,.ref 1043),(S "holds_row",1646,.ref 1050),(S "holds_column",1654,.ref 1057),(S "is_whole_width",1661,.ref 1064),(S "is_whole",1668,.ref 1071),(S "first_row",1676,.ref 1078),(S "last_row",1684,.ref 1085),(S "first_column",1692,.ref 1092),(S "last_column",1700,.ref 1099),(S "copy",1708,.ref 1106),(S "__static_attributes__",1715,.ref 1107),(S "__dict__",1717,.ref 1110),(S "__weakref__",1719,.ref 1111),(S "__doc__",1720,.none)] 4),
 (1109,co (S "Margins") 1109 1108 1561 1569),
 (1127,fo 82 0 (S "Tabs.__init__") (.none) (.str (S "termcore.cursor") 1492) (.ref 1126)),
 (1134,fo 82 1 (S "Tabs.put_eighths") (.none) (.str (S "termcore.cursor") 1492) (.ref 1133)),
 (1169,fo 82 6 (S "Tabs.told") (.none) (.str (S "termcore.cursor") 1492) (.ref 1168)),
 (1198,fo 82 10 (S "Tabs.resize") (.none) (.str (S "termcore.cursor") 1492) (.ref 1197)),
 (1207,no P [(S "__module__",1730,.str (S "termcore.cursor") 1492),(S "__firstlineno__",1734,.int (781) 1733),(S "__init__",1742,.ref 1127),(S "put_eighths",1751,.ref 1134),(S "set",1759,.ref 1141),(S "clear",1767,.ref 1148),(S "clear_all",1774,.ref 1155),(S "reset",1781,.ref 1162),(S "told",1788,.ref 1169),(S "put",1797,.ref 1176),(S "next_from",1806,.ref 1183),(S "back_from",1816,.ref 1191),(S "resize",1826,.ref 1198),(S "copy",1834,.ref 1205),(S "__static_attributes__",1837,.ref 1206),(S "__dict__",1839,.ref 1209),(S "__weakref__",1841,.ref 1210),(S "__doc__",1842,.none)] 4),
 (1208,co (S "Tabs") 1208 1207 1723 1731),
 (1213,tu [.str (S "wide") 1847,.str (S "top") 1848,.str (S "bottom") 1849] 0),
 (1221,tu [.none] 0),
 (1228,fo 85 0 (S "Screen.__init__") (.ref 1221) (.str (S "termcore.screen") 1845) (.ref 1227)),
 (1235,fo 85 1 (S "Screen.line") (.none) (.str (S "termcore.screen") 1845) (.ref 1234)),
 (1242,fo 85 2 (S "Screen.width_of_line") (.none) (.str (S "termcore.screen") 1845) (.ref 1241)),
 (1249,fo 85 3 (S "Screen.right_bound") (.none) (.str (S "termcore.screen") 1845) (.ref 1248)),
 (1256,fo 85 4 (S "Screen.left_bound") (.none) (.str (S "termcore.screen") 1845) (.ref 1255)),
 (1263,fo 85 5 (S "Screen.is_between_sides") (.none) (.str (S "termcore.screen") 1845) (.ref 1262)),
 (1270,fo 85 6 (S "Screen.is_whole") (.none) (.str (S "termcore.screen") 1845) (.ref 1269)),
 (1277,fo 85 7 (S "Screen.place") (.none) (.str (S "termcore.screen") 1845) (.ref 1276)),
 (1284,fo 85 8 (S "Screen.put_code") (.none) (.str (S "termcore.screen") 1845) (.ref 1283)),
 (1291,fo 85 9 (S "Screen.place_ahead") (.none) (.str (S "termcore.screen") 1845) (.ref 1290)),
 (1305,fo 85 11 (S "Screen.join") (.none) (.str (S "termcore.screen") 1845) (.ref 1304)),
 (1312,fo 85 12 (S "Screen.is_narrow") (.none) (.str (S "termcore.screen") 1845) (.ref 1311)),
 (1319,fo 85 13 (S "Screen.put_sign") (.none) (.str (S "termcore.screen") 1845) (.ref 1318)),
 (1326,fo 85 14 (S "Screen.advance") (.none) (.str (S "termcore.screen") 1845) (.ref 1325)),
 (1333,fo 85 15 (S "Screen.wrap") (.none) (.str (S "termcore.screen") 1845) (.ref 1332)),
 (1347,fo 85 17 (S "Screen.scroll_up") (.none) (.str (S "termcore.screen") 1845) (.ref 1346)),
 (1361,fo 85 19 (S "Screen.index") (.none) (.str (S "termcore.screen") 1845) (.ref 1360)),
 (1375,fo 85 21 (S "Screen.keep_within_line") (.none) (.str (S "termcore.screen") 1845) (.ref 1374)),
 (1382,fo 85 22 (S "Screen.carriage_return") (.none) (.str (S "termcore.screen") 1845) (.ref 1381)),
 (1389,fo 85 23 (S "Screen.next_line") (.none) (.str (S "termcore.screen") 1845) (.ref 1388)),
 (1484,no P [(S "__module__",1858,.str (S "termcore.screen") 1845),(S "__firstlineno__",1862,.int (836) 1861),(S "__init__",1874,.ref 1228),(S "line",1881,.ref 1235),(S "width_of_line",1889,.ref 1242),(S "right_bound",1897,.ref 1249),(S "left_bound",1904,.ref 1256),(S "is_between_sides",1911,.ref 1263),(S "is_whole",1918,.ref 1270),(S "place",1927,.ref 1277),(S "put_code",1937,.ref 1284),(S "place_ahead",1946,.ref 1291),(S "is_joined",1955,.ref 1298),(S "join",1969,.ref 1305),(S "is_narrow",1977,.ref 1312),(S "put_sign",1988,.ref 1319),(S "advance",1998,.ref 1326),(S "wrap",2009,.ref 1333),(S "repeat",2017,.ref 1340),(S "scroll_up",2027,.ref 1347),(S "scroll_down",2035,.ref 1354),(S "index",2042,.ref 1361),(S "reverse_index",2049,.ref 1368),(S "keep_within_line",2056,.ref 1375),(S "carriage_return",2063,.ref 1382),(S "next_line",2070,.ref 1389),(S "backspace",2077,.ref 1396),(S "tab",2086,.ref 1404),(S "back_tab",2095,.ref 1412),(S "save_cursor",2102,.ref 1419),(S "restore_cursor",2109,.ref 1426),(S "home",2116,.ref 1433),(S "set_margins",2125,.ref 1440),(S "set_side_margins",2134,.ref 1447),(S "line_size",2142,.ref 1454),(S "align",2149,.ref 1461),(S "soft_reset",2156,.ref 1468),(S "full_reset",2163,.ref 1475),(S "blank",2170,.ref 1482),(S "__static_attributes__",2184,.ref 1483),(S "__dict__",2186,.ref 1486),(S "__weakref__",2188,.ref 1487),(S "__doc__",2189,.none)] 4),
 (1485,co (S "Screen") 1485 1484 1851 1859),
 (1496,fo 87 1000 (S "terminal_fit") (.none) (.str (S "termcore.terminal") 2192) (.ref 1495)),
 (1497,tu [] 0),
 (1498,tu [.int (0) 2211,.int (-1) 2213,.int (-1) 2215,.int (-1) 2217,.int (0) 2218] 0),
 (1499,tu [.ref 1497,.int (1) 2210,.ref 1498,.bool false] 0),
 (1500,tu [.int (0) 2220,.int (-1) 2222,.int (-1) 2224,.int (-1) 2226,.int (0) 2227] 0),
 (1501,tu [.int (1) 2228,.int (3) 2229,.int (-1) 2231,.int (-1) 2233,.int (0) 2234] 0),
 (1502,tu [.int (4) 2235,.int (-1) 2237,.int (-1) 2239,.int (5) 2240,.int (0) 2241] 0),
 (1503,tu [.ref 1500,.ref 1501,.ref 1502] 0),
 (1510,fo 91 1000 (S "_law_take") (.none) (.str (S "law_rh0243_01") 2208) (.ref 1509)),
 (1517,fo 92 1000 (S "_law_screen") (.none) (.str (S "law_rh0243_01") 2208) (.ref 1516)),
 (1524,fo 93 1000 (S "_law_written") (.none) (.str (S "law_rh0243_01") 2208) (.ref 1523)),
 (1531,fo 94 1000 (S "_law_group") (.none) (.str (S "law_rh0243_01") 2208) (.ref 1530)),
 (1538,fo 95 1000 (S "_law_texts") (.none) (.str (S "law_rh0243_01") 2208) (.ref 1537)),
 (1545,fo 96 1000 (S "_law_laid") (.none) (.str (S "law_rh0243_01") 2208) (.ref 1544)),
 (1550,fo 97 1000 (S "_law_seen") (.none) (.str (S "law_rh0243_01") 2208) (.ref 1549)),
 (1555,fo 98 1000 (S "_law_is_so") (.none) (.str (S "law_rh0243_01") 2208) (.ref 1554)),
 (1560,fo 99 1000 (S "law") (.none) (.str (S "law_rh0243_01") 2208) (.ref 1559))]
def KA : List Nat := [2,3,22,62,69,76,83,90,91,98,105,112,140,162,169,248,250,251,267,274,288,293,300,307,388,395,396,428,442,475,477,478,487,501,508,515,522,529,531,532,543,550,557,564,571,578,585,592,606,613,620,634,641,643,644,655,662,678,685,699,706,715,716,754,775,782,791,792,831,839,846,853,860,903,910,919,920,945,966,973,975,976,994,1036,1108,1109,1127,1134,1169,1198,1207,1208,1213,1221,1228,1235,1242,1249,1256,1263,1270,1277,1284,1291,1305,1312,1319,1326,1333,1347,1361,1375,1382,1389,1484,1485,1496,1497,1498,1499,1500,1501,1502,1503,1510,1517,1524,1531,1538,1545,1550,1555,1560]
def CA : List Nat := [61,68,75,82,89,97,104,111,139,161,168,247,266,273,287,292,299,306,387,427,441,474,486,500,507,514,521,528,542,549,556,563,570,577,584,591,605,612,619,633,640,654,661,677,684,698,705,774,781,830,845,852,859,909,944,965,972,993,1035,1126,1133,1168,1197,1227,1234,1241,1248,1255,1262,1269,1276,1283,1290,1304,1311,1318,1325,1332,1346,1360,1374,1381,1388,1495,1509,1516,1523,1530,1537,1544,1549,1554,1559]
def CQ : List (Option Value) := [
 some (.str (S "clamp") 252),
 some (.str (S "erased_pen") 261),
 some (.str (S "blank_cell") 268),
 some (.str (S "is_blank") 275),
 some (.str (S "is_plain_blank") 282),
 some (.str (S "line_blanks") 296),
 some (.str (S "right_half") 304),
 some (.str (S "line_part") 311),
 some (.str (S "Line.__init__") 351),
 some (.str (S "Line.part") 375),
 some (.str (S "Line.put") 383),
 some (.str (S "Line.equals") 500),
 some (.str (S "Grid.__init__") 533),
 some (.str (S "Grid.line") 539),
 some (.str (S "Grid.is_wide") 554),
 some (.str (S "Grid.fresh") 562),
 some (.str (S "Grid.part_above") 568),
 some (.str (S "Grid.scroll_up") 576),
 some (.str (S "Grid.equals") 706),
 some (.str (S "History.__init__") 760),
 some (.str (S "History.push") 775),
 some (.str (S "History.equals") 811),
 some (.str (S "reflow_lines_equal") 830),
 some (.str (S "LogicalLine.__init__") 848),
 some (.str (S "LogicalLine.put") 857),
 some (.str (S "LogicalLine.kept_to") 865),
 some (.str (S "LogicalLine.size_of") 873),
 some (.str (S "LogicalLine.offset_of") 881),
 some (.str (S "reflow_used") 904),
 some (.str (S "reflow_begins_wide") 912),
 some (.str (S "reflow_part") 919),
 some (.str (S "reflow_goes_on") 928),
 some (.str (S "logical_of") 936),
 some (.str (S "cut_with_places") 946),
 some (.str (S "reflow_place") 962),
 some (.str (S "reflow_line") 971),
 some (.str (S "Cutting.__init__") 995),
 some (.str (S "Cutting.put") 1007),
 some (.str (S "Cutting.go_behind") 1032),
 some (.str (S "Cutting.give_up") 1048),
 some (.str (S "Cutting.top") 1057),
 some (.str (S "reflow_cutting") 1080),
 some (.str (S "reflowed") 1092),
 some (.str (S "width_in_ranges") 1136),
 some (.str (S "width_check_ranges") 1147),
 some (.str (S "WidthTable.__init__") 1170),
 some (.str (S "WidthTable.width_of") 1181),
 some (.str (S "Modes.__init__") 1278),
 some (.str (S "Modes.is_on") 1286),
 some (.str (S "charset_table") 1363),
 some (.str (S "Charsets.__init__") 1382),
 some (.str (S "Charsets.table") 1390),
 some (.str (S "Charsets.reset") 1398),
 some (.str (S "Charsets.mapped") 1453),
 some (.str (S "Cursor.__init__") 1509),
 some (.str (S "Cursor.place") 1533),
 some (.str (S "Cursor.equals") 1540),
 some (.str (S "Margins.__init__") 1574),
 some (.str (S "Margins.area") 1624),
 some (.str (S "Tabs.__init__") 1736),
 some (.str (S "Tabs.put_eighths") 1744),
 some (.str (S "Tabs.told") 1783),
 some (.str (S "Tabs.resize") 1818),
 some (.str (S "Screen.__init__") 1864),
 some (.str (S "Screen.line") 1876),
 some (.str (S "Screen.width_of_line") 1883),
 some (.str (S "Screen.right_bound") 1891),
 some (.str (S "Screen.left_bound") 1899),
 some (.str (S "Screen.is_between_sides") 1906),
 some (.str (S "Screen.is_whole") 1913),
 some (.str (S "Screen.place") 1920),
 some (.str (S "Screen.put_code") 1929),
 some (.str (S "Screen.place_ahead") 1939),
 some (.str (S "Screen.join") 1957),
 some (.str (S "Screen.is_narrow") 1971),
 some (.str (S "Screen.put_sign") 1979),
 some (.str (S "Screen.advance") 1990),
 some (.str (S "Screen.wrap") 2000),
 some (.str (S "Screen.scroll_up") 2019),
 some (.str (S "Screen.index") 2037),
 some (.str (S "Screen.keep_within_line") 2051),
 some (.str (S "Screen.carriage_return") 2058),
 some (.str (S "Screen.next_line") 2065),
 some (.str (S "terminal_fit") 2195),
 some (.str (S "_law_take") 2244),
 some (.str (S "_law_screen") 2253),
 some (.str (S "_law_written") 2261),
 some (.str (S "_law_group") 2270),
 some (.str (S "_law_texts") 2284),
 some (.str (S "_law_laid") 2297),
 some (.str (S "_law_seen") 2312),
 some (.str (S "_law_is_so") 2318),
 some (.str (S "law") 2324)]
def pick : List Nat → Nat → List Obj → List Obj
 | [],_,_ => []
 | _ :: _,_,[] => []
 | a :: as,i,o :: os => match Nat.beq a i with
  | true => o :: pick as (i + 1) os
  | false => pick (a :: as) (i + 1) os
theorem pick_spec : ∀ (os : List Obj) (as : List Nat) (i : Nat) (vs : List Obj),pick as i os = vs → vs.length = as.length →
  ∀ a o,(as.zip vs).lookup a = some o → i ≤ a ∧ os[a - i]? = some o
 | os,[],i,vs,_,_,a,o,hl => by simp at hl
 | [],a' :: as,i,vs,h,hn,a,o,hl => by subst h; simp [pick] at hn
 | o' :: os,a' :: as,i,vs,h,hn,a,o,hl => by
  unfold pick at h
  split at h
  ·rename_i hb
   have hb := Nat.eq_of_beq_eq_true hb
   subst h
   simp only [List.length_cons,Nat.add_right_cancel_iff] at hn
   simp only [List.zip_cons_cons,List.lookup_cons] at hl
   split at hl
   ·rename_i q
    cases hl
    have : a = i := by rw [← hb]; exact beq_iff_eq.mp q
    subst this
    exact ⟨Nat.le_refl _,by simp⟩
   ·obtain ⟨h1,h2⟩ := pick_spec os as (i + 1) _ rfl hn a o hl
    refine ⟨by omega,?_⟩
    rw [show a - i = (a - (i + 1)) + 1 from by omega]
    simpa using h2
  ·obtain ⟨h1,h2⟩ := pick_spec os (a' :: as) (i + 1) vs h hn a o hl
   refine ⟨by omega,?_⟩
   rw [show a - i = (a - (i + 1)) + 1 from by omega]
   simpa using h2
def qualOf (o : Obj) : Option Value := match o.data with
 | .fields vs => vs.toList[1]?
 | _ => none
theorem KF_keys (P : Params) : (KF P).map (·.1) = KA := rfl
theorem KF_live (P : Params) : ((KF P).map (·.2)).all (fun o => !o.isFreed) = true := rfl
def Says (w : World) (h : Heap) : Prop :=
 (KF w.params).In h ∧ ∀ c q,(CA.zip CQ).lookup c = some (some q) → ∃ o vs,h.get? c = some o ∧ o.data = .fields vs ∧ vs[1]? = some q
def hook : Hook where
 α := List Obj × List (Option Value)
 obs := fun s => (pick KA 0 s.heap.objs.toList,(pick CA 0 s.heap.objs.toList).map qualOf)
 val := fun w => ((KF w.params).map (·.2),CQ)
 says := Says
 of := fun w s e => by
  have e1 : pick KA 0 s.heap.objs.toList = (KF w.params).map (·.2) := congrArg Prod.fst e
  have e2 : (pick CA 0 s.heap.objs.toList).map qualOf = CQ := congrArg Prod.snd e
  refine ⟨fun a o hl => ?_,fun c q hl => ?_⟩
  ·have hz : KA.zip ((KF w.params).map (·.2)) = KF w.params := by
    rw [← KF_keys w.params,List.zip_map',List.map_id'' fun p => rfl]
   obtain ⟨_,h2⟩ := pick_spec _ _ _ _ e1 (by rw [List.length_map,← KF_keys w.params,List.length_map]) a o (by rw [hz]; exact hl)
   refine Heap.get?_some_iff.mpr ⟨by simpa using h2,?_⟩
   have hm : o ∈ (KF w.params).map (·.2) := by
    obtain ⟨l1,k,l2,h3,_⟩ : ∃ l1 k l2,KF w.params = l1 ++ (k,o) :: l2 ∧ k = a := by
     revert hl
     generalize KF w.params = l
     intro hl
     induction l with
     | nil => simp at hl
     | cons p r ih =>
      obtain ⟨k,x⟩ := p
      rw [List.lookup_cons] at hl
      split at hl
      ·cases hl; exact ⟨[],k,r,rfl,(beq_iff_eq.mp ‹_›).symm⟩
      ·obtain ⟨l1,k',l2,e,q⟩ := ih hl
       exact ⟨(k,x) :: l1,k',l2,by rw [e]; rfl,q⟩
    rw [h3]; simp
   have := List.all_eq_true.mp (KF_live w.params) o hm
   simpa using this
  ·have hlen : (pick CA 0 s.heap.objs.toList).length = CA.length := by
    have := congrArg List.length e2
    rw [List.length_map] at this
    rw [this]; rfl
   have : ∃ o,(CA.zip (pick CA 0 s.heap.objs.toList)).lookup c = some o ∧ qualOf o = some q := by
    rw [← e2] at hl
    revert hl
    generalize pick CA 0 s.heap.objs.toList = l
    generalize CA = as
    intro hl
    induction as generalizing l with
    | nil => simp at hl
    | cons a as ih =>
     cases l with
     | nil => simp at hl
     | cons o l =>
      simp only [List.map_cons,List.zip_cons_cons,List.lookup_cons] at hl ⊢
      split at hl
      ·exact ⟨o,rfl,by simpa using hl⟩
      ·exact ih l hl
   obtain ⟨o,ho,hq⟩ := this
   obtain ⟨_,h2⟩ := pick_spec _ _ _ _ rfl hlen c o ho
   unfold qualOf at hq
   split at hq
   ·rename_i vs hd
    refine ⟨o,vs,Heap.get?_some_iff.mpr ⟨by simpa using h2,?_⟩,hd,by simpa using hq⟩
    obtain ⟨oc,od,oda,osl⟩ := o
    dsimp only at hd
    subst hd
    rfl
   ·cases hq
 keeps := fun w h h' x k => ⟨x.1.keeps k,fun c q e => let ⟨o,vs,h1,h2,h3⟩ := x.2 c q e; ⟨o,vs,k _ _ h1,h2,h3⟩⟩
abbrev prg : Program := PySem.Challenge.pw_rh0243_01
inductive V where
 | none | bool (b : Bool) | int (i : Int) | str (s : Str) | bytes (b : Array UInt8) | tup (l : List V) | ref (a : Addr) | raw (v : Value)
inductive MO where
 | list (l : List V) | dict (l : List (Str × V)) | dictB (l : List (List UInt8 × V)) | inst (C : Addr) (fs : List (Nat × V))
abbrev Hp := Addr → Option MO
abbrev Fz := Addr → Option Obj
def setF {α : Type} (f : Addr → Option α) (a : Addr) (x : α) : Addr → Option α := fun b => if b = a then some x else f b
theorem setF_same {α : Type} {f : Addr → Option α} {a : Addr} {x : α} : setF f a x a = some x := if_pos rfl
theorem setF_ne {α : Type} {f : Addr → Option α} {a b : Addr} {x : α} (h : b ≠ a) : setF f a x b = f b := if_neg h
def Le (K K' : Fz) : Prop := ∀ a o,K a = some o → K' a = some o
theorem Le.rfl {K : Fz} : Le K K := fun _ _ h => h
theorem Le.trans {K K' K'' : Fz} (h : Le K K') (h' : Le K' K'') : Le K K'' := fun a o x => h' a o (h a o x)
abbrev tupO (vs : Array Value) (n : Nat) : Obj := ⟨.type "tuple",none,.seq vs n,#[]⟩
abbrev listO (vs : Array Value) (n : Nat) : Obj := ⟨.type "list",none,.seq vs n,#[]⟩
mutual
def Rep (K : Fz) : V → Value → Prop
 | .none,v => v = .none
 | .bool b,v => v = .bool b
 | .int i,v => ∃ t,v = .int i t
 | .str s,v => ∃ t,v = .str s t
 | .bytes b,v => ∃ t,v = .bytes b t
 | .tup l,v => ∃ a n vs,v = .ref a ∧ K a = some (tupO vs n) ∧ Reps K l vs.toList
 | .ref a,v => v = .ref a
 | .raw w,v => v = w
def Reps (K : Fz) : List V → List Value → Prop
 | [],vs => vs = []
 | x :: l,vs => ∃ v r,vs = v :: r ∧ Rep K x v ∧ Reps K l r
end
mutual
theorem Rep.mono {K K' : Fz} (h : ∀ a vs n,K a = some (tupO vs n) → K' a = some (tupO vs n)) : ∀ (x : V) (v : Value),Rep K x v → Rep K' x v
 | .none,_,r => by unfold Rep at r ⊢; exact r
 | .bool _,_,r => by unfold Rep at r ⊢; exact r
 | .int _,_,r => by unfold Rep at r ⊢; exact r
 | .str _,_,r => by unfold Rep at r ⊢; exact r
 | .bytes _,_,r => by unfold Rep at r ⊢; exact r
 | .tup l,_,r => by
  unfold Rep at r ⊢
  obtain ⟨a,n,vs,e,k,q⟩ := r
  exact ⟨a,n,vs,e,h _ _ _ k,Reps.mono h l _ q⟩
 | .ref _,_,r => by unfold Rep at r ⊢; exact r
 | .raw _,_,r => by unfold Rep at r ⊢; exact r
theorem Reps.mono {K K' : Fz} (h : ∀ a vs n,K a = some (tupO vs n) → K' a = some (tupO vs n)) : ∀ (l : List V) (vs : List Value),Reps K l vs → Reps K' l vs
 | [],_,r => by unfold Reps at r ⊢; exact r
 | x :: l,_,r => by
  unfold Reps at r ⊢
  obtain ⟨v,r',e,p,q⟩ := r
  exact ⟨v,r',e,Rep.mono h x v p,Reps.mono h l _ q⟩
end
theorem Rep.le {K K' : Fz} (h : Le K K') {x : V} {v : Value} (r : Rep K x v) : Rep K' x v := Rep.mono (fun _ _ _ e => h _ _ e) x v r
theorem Reps.le {K K' : Fz} (h : Le K K') {l : List V} {vs : List Value} (r : Reps K l vs) : Reps K' l vs := Reps.mono (fun _ _ _ e => h _ _ e) l vs r
section
variable {K : Fz} {v : Value} {x : V} {l : List V} {vs : List Value}
theorem Rep.int_iff {i : Int} : Rep K (.int i) v ↔ ∃ t,v = .int i t := by unfold Rep; exact Iff.rfl
theorem Rep.str_iff {i : Str} : Rep K (.str i) v ↔ ∃ t,v = .str i t := by unfold Rep; exact Iff.rfl
theorem Rep.bytes_iff {i : Array UInt8} : Rep K (.bytes i) v ↔ ∃ t,v = .bytes i t := by unfold Rep; exact Iff.rfl
theorem Rep.bool_iff {b : Bool} : Rep K (.bool b) v ↔ v = .bool b := by unfold Rep; exact Iff.rfl
theorem Rep.none_iff : Rep K .none v ↔ v = .none := by unfold Rep; exact Iff.rfl
theorem Rep.ref_iff {a : Addr} : Rep K (.ref a) v ↔ v = .ref a := by unfold Rep; exact Iff.rfl
theorem Rep.raw_iff {a : Value} : Rep K (.raw a) v ↔ v = a := by unfold Rep; exact Iff.rfl
theorem Rep.tup_iff : Rep K (.tup l) v ↔ ∃ a n vs,v = .ref a ∧ K a = some (tupO vs n) ∧ Reps K l vs.toList := by unfold Rep; exact Iff.rfl
theorem Reps.nil_iff : Reps K [] vs ↔ vs = [] := by unfold Reps; exact Iff.rfl
theorem Reps.cons_iff : Reps K (x :: l) vs ↔ ∃ v r,vs = v :: r ∧ Rep K x v ∧ Reps K l r := by rw [Reps]
theorem Reps.nil : Reps K [] [] := Reps.nil_iff.mpr rfl
theorem Reps.cons (p : Rep K x v) (q : Reps K l vs) : Reps K (x :: l) (v :: vs) := Reps.cons_iff.mpr ⟨v,vs,rfl,p,q⟩
theorem Reps.length : ∀ {l : List V} {vs : List Value},Reps K l vs → vs.length = l.length
 | [],_,r => by rw [Reps.nil_iff.mp r]; rfl
 | _ :: _,_,r => by obtain ⟨v,r',rfl,_,q⟩ := Reps.cons_iff.mp r; simp [Reps.length q]
theorem Reps.append : ∀ {l l' : List V} {vs vs' : List Value},Reps K l vs → Reps K l' vs' → Reps K (l ++ l') (vs ++ vs')
 | [],_,_,_,r,r' => by rw [Reps.nil_iff.mp r]; exact r'
 | _ :: _,_,_,_,r,r' => by obtain ⟨v,r'',rfl,p,q⟩ := Reps.cons_iff.mp r; exact Reps.cons p (Reps.append q r')
theorem Reps.get : ∀ {l : List V} {vs : List Value} (i : Nat) {x : V},Reps K l vs → l[i]? = some x → ∃ v,vs[i]? = some v ∧ Rep K x v
 | _ :: _,_,0,_,r,e => by obtain ⟨v,r'',rfl,p,q⟩ := Reps.cons_iff.mp r; simp at e; subst e; exact ⟨v,rfl,p⟩
 | _ :: _,_,i + 1,_,r,e => by obtain ⟨v,r'',rfl,p,q⟩ := Reps.cons_iff.mp r; simpa using Reps.get i q (by simpa using e)
theorem Reps.set : ∀ {l : List V} {vs : List Value} (i : Nat) {x : V} {v : Value},Reps K l vs → Rep K x v → Reps K (l.set i x) (vs.set i v)
 | [],_,_,_,_,r,_ => by rw [Reps.nil_iff.mp r]; exact Reps.nil
 | _ :: _,_,0,_,_,r,p => by obtain ⟨v,r'',rfl,_,q⟩ := Reps.cons_iff.mp r; exact Reps.cons p q
 | _ :: _,_,i + 1,_,_,r,p => by obtain ⟨v,r'',rfl,p',q⟩ := Reps.cons_iff.mp r; exact Reps.cons p' (Reps.set i q p)
theorem Reps.take : ∀ {l : List V} {vs : List Value} (i : Nat),Reps K l vs → Reps K (l.take i) (vs.take i)
 | _,_,0,_ => by simp; exact Reps.nil
 | [],_,_ + 1,r => by rw [Reps.nil_iff.mp r]; simp; exact Reps.nil
 | _ :: _,_,i + 1,r => by obtain ⟨v,r'',rfl,p',q⟩ := Reps.cons_iff.mp r; exact Reps.cons p' (Reps.take i q)
theorem Reps.drop : ∀ {l : List V} {vs : List Value} (i : Nat),Reps K l vs → Reps K (l.drop i) (vs.drop i)
 | _,_,0,r => by simpa using r
 | [],_,_ + 1,r => by rw [Reps.nil_iff.mp r]; simp; exact Reps.nil
 | _ :: _,_,i + 1,r => by obtain ⟨v,r'',rfl,p',q⟩ := Reps.cons_iff.mp r; simpa using Reps.drop i q
end
def fnm : List Str := [S "cells",S "is_wrapped",S "size",S "rows",S "columns",S "lines",S "most",S "gone",S "first",S "begins",S "is_whole",S "row",S "column",S "is_waiting",S "spots",
 S "wide",S "marks",S "joiners",S "states",S "kept",S "made",S "names",S "left",S "right",S "shift",S "pen",S "is_origin",S "is_guarding",S "top",S "bottom",S "stops",
 S "modes",S "widths",S "history",S "grid",S "cursor",S "margins",S "tabs",S "charsets",S "saved",S "last",S "has_right"]
def nmOf (i : Nat) : Str := (fnm[i]?).getD (S "?")
def flds : Nat → List Nat
 | 251 => [0,1,2]
 | 396 => [3,4,5]
 | 478 => [6,5,7]
 | 532 => [8,2,9,0,10]
 | 644 => [4,5,8,11,12,13,14]
 | 716 => [15,16,17]
 | 792 => [18,19]
 | 920 => [20,21,22,23,24]
 | 976 => [11,12,13,25,26,27]
 | 1109 => [3,4,28,29,22,23]
 | 1208 => [4,30]
 | 1485 => [3,4,31,32,33,34,35,36,37,38,39,40,41]
 | _ => []
def clsL : List Nat := [251,396,478,532,644,716,792,920,976,1109,1208,1485]
def okF (C f : Nat) : Bool := (flds C).contains f
def Flds (P : Params) (K : Fz) : List DictEntry → List (Nat × V) → Prop
 | es,[] => es = []
 | es,(i,x) :: fs => ∃ e r,es = e :: r ∧ (∃ t,e.key = .str (nmOf i) t) ∧ e.hash = PyData.keyHash P (nmOf i) ∧ Rep K x e.val ∧ Flds P K r fs
def Kvs {α : Type} (K : Fz) : List (α × Value) → List (α × V) → Prop
 | kvs,[] => kvs = []
 | kvs,(k,x) :: l => ∃ v r,kvs = (k,v) :: r ∧ Rep K x v ∧ Kvs K r l
theorem Flds.le {P : Params} {K K' : Fz} (h : ∀ a vs n,K a = some (tupO vs n) → K' a = some (tupO vs n)) : ∀ {fs : List (Nat × V)} {es : List DictEntry},Flds P K es fs → Flds P K' es fs
 | [],_,r => r
 | _ :: _,_,⟨e,r,h1,h2,h3,h4,h5⟩ => ⟨e,r,h1,h2,h3,Rep.mono h _ _ h4,Flds.le h h5⟩
theorem Kvs.le {α : Type} {K K' : Fz} (h : ∀ a vs n,K a = some (tupO vs n) → K' a = some (tupO vs n)) : ∀ {l : List (α × V)} {kvs : List (α × Value)},Kvs K kvs l → Kvs K' kvs l
 | [],_,r => r
 | _ :: _,_,⟨v,r,h1,h2,h3⟩ => ⟨v,r,h1,Rep.mono h _ _ h2,Kvs.le h h3⟩
def nodupKeys (fs : List (Nat × V)) : Prop := (fs.map (·.1)).Nodup
def ObjAt (w : World) (K : Fz) (D : Addr → Addr) (h : Heap) (a : Addr) : MO → Prop
 | .list l => ∃ vs n,h.get? a = some (listO vs n) ∧ Reps K l vs.toList
 | .dict l => a ≠ sysModules ∧ ∃ kvs,h.DictOf (strKind prg w) a kvs ∧ Kvs K kvs l
 | .dictB l => a ≠ sysModules ∧ ∃ kvs,h.DictOf (bytesKind prg w) a kvs ∧ Kvs K kvs l
 | .inst C fs => h.get? a = some (instObj C (D a)) ∧ ∃ es n,h.get? (D a) = some (dictOf es n) ∧ Flds w.params K es fs ∧ ∀ p ∈ fs,okF C p.1 = true
structure ObjsOk (w : World) (K X : Fz) (H : Hp) (D : Addr → Addr) (h : Heap) : Prop where
 at_ : ∀ a m,H a = some m → ObjAt w K D h a m
 free : ∀ a m,H a = some m → K a = none ∧ X a = none
 dfree : ∀ a C fs,H a = some (.inst C fs) → (K (D a) = none ∧ X (D a) = none) ∧ H (D a) = none
 inj : ∀ a b C fs C' fs',H a = some (.inst C fs) → H b = some (.inst C' fs') → D a = D b → a = b
structure Sat (w : World) (h₀ : Heap) (os₀ : OsState) (K X : Fz) (H : Hp) (s : Shared) : Prop where
 base : ∀ b o,h₀.get? b = some o → K b = some o
 keep : ∀ b o,K b = some o → s.heap.get? b = some o
 keepX : ∀ b o,X b = some o → s.heap.get? b = some o
 apart : ∀ b o,X b = some o → K b = none
 gens : s.gens = #[]
 os : s.os = os₀
 objs : ∃ D,ObjsOk w K X H D s.heap
theorem ltS {h : Heap} {a : Nat} {o : Obj} (e : h.get? a = some o) : @LT.lt Nat instLTNat a h.objs.size := Heap.lt_size e
theorem neN' {a b : Nat} (h : a ≠ b) : @Ne Addr a b := h
section
variable {w : World} {h₀ : Heap} {os₀ : OsState} {K X : Fz} {H : Hp} {s : Shared}
theorem Sat.stays (x : Sat w h₀ os₀ K X H s) : ∀ b o,h₀.get? b = some o → s.heap.get? b = some o := fun b o e => x.keep b o (x.base b o e)
theorem ObjsOk.lt {D : Addr → Addr} {h : Heap} (O : ObjsOk w K X H D h) {a : Addr} {m : MO} (e : H a = some m) : @LT.lt Nat instLTNat a h.objs.size := by
 have := O.at_ _ _ e
 cases m with
 | list l => obtain ⟨vs,n,e,_⟩ := this; exact ltS e
 | dict l => obtain ⟨_,kvs,⟨o,_,_,e,_⟩,_⟩ := this; exact ltS e
 | dictB l => obtain ⟨_,kvs,⟨o,_,_,e,_⟩,_⟩ := this; exact ltS e
 | inst C fs => exact ltS this.1
theorem ObjsOk.ltD {D : Addr → Addr} {h : Heap} (O : ObjsOk w K X H D h) {a C : Addr} {fs : List (Nat × V)} (e : H a = some (.inst C fs)) : @LT.lt Nat instLTNat (D a) h.objs.size := by
 obtain ⟨_,es,n,e2,_⟩ := O.at_ _ _ e
 exact ltS e2
theorem Sat.freshI (x : Sat w h₀ os₀ K X H s) (i : Nat) : K (s.heap.objs.size + i) = none ∧ X (s.heap.objs.size + i) = none ∧ H (s.heap.objs.size + i) = none := by
 obtain ⟨D,O⟩ := x.objs
 refine ⟨?_,?_,?_⟩
 ·cases q : K (s.heap.objs.size + i) with
  | none => rfl
  | some o => have := ltS (x.keep _ _ q); omega
 ·cases q : X (s.heap.objs.size + i) with
  | none => rfl
  | some o => have := ltS (x.keepX _ _ q); omega
 ·cases q : H (s.heap.objs.size + i) with
  | none => rfl
  | some m => have := O.lt q; omega
theorem Sat.fresh (x : Sat w h₀ os₀ K X H s) : K s.heap.objs.size = none ∧ X s.heap.objs.size = none ∧ H s.heap.objs.size = none := x.freshI 0
theorem Sat.of_heap (x : Sat w h₀ os₀ K X H s) {s' : Shared} (eh : s'.heap = s.heap) (eg : s'.gens = s.gens) (eo : s'.os = s.os) : Sat w h₀ os₀ K X H s' :=
 ⟨x.base,fun b o e => by rw [eh]; exact x.keep b o e,fun b o e => by rw [eh]; exact x.keepX b o e,x.apart,eg.trans x.gens,eo.trans x.os,let ⟨D,O⟩ := x.objs; ⟨D,by rw [eh]; exact O⟩⟩
theorem ObjAt.keeps {D : Addr → Addr} {h h' : Heap} {K' : Fz} {a : Addr} {m : MO} (k : ∀ a vs n,K a = some (tupO vs n) → K' a = some (tupO vs n)) (x : ObjAt w K D h a m) (e : ∀ b o,(b = a ∨ (b = D a ∧ ∃ C fs,m = .inst C fs)) → h.get? b = some o → h'.get? b = some o) : ObjAt w K' D h' a m := by
 cases m with
 | list l => obtain ⟨vs,n,e1,r⟩ := x; exact ⟨vs,n,e _ _ (.inl rfl) e1,Reps.mono k _ _ r⟩
 | dict l => obtain ⟨ns,kvs,⟨o,es,ep,e1,r0⟩,r⟩ := x; exact ⟨ns,kvs,⟨o,es,ep,e _ _ (.inl rfl) e1,r0⟩,Kvs.le k r⟩
 | dictB l => obtain ⟨ns,kvs,⟨o,es,ep,e1,r0⟩,r⟩ := x; exact ⟨ns,kvs,⟨o,es,ep,e _ _ (.inl rfl) e1,r0⟩,Kvs.le k r⟩
 | inst C fs => obtain ⟨e1,es,n,e2,r,q⟩ := x; exact ⟨e _ _ (.inl rfl) e1,es,n,e _ _ (.inr ⟨rfl,_,_,rfl⟩) e2,Flds.le k r,q⟩
theorem le_setF {K : Fz} {a : Addr} {o : Obj} (h : K a = none) : Le K (setF K a o) := fun b o' e => by
 rw [setF_ne]; · exact e
 intro q; subst q; rw [h] at e; cases e
theorem Sat.freeze (x : Sat w h₀ os₀ K X H s) (o : Obj) (hf : o.isFreed = false) {t : Nat} :
  Sat w h₀ os₀ (setF K s.heap.objs.size o) X H { s with heap := s.heap.push o,toks := t } ∧ Le K (setF K s.heap.objs.size o) := by
 have hfr := x.fresh
 have hle : Le K (setF K s.heap.objs.size o) := le_setF hfr.1
 refine ⟨⟨fun b o' e => hle _ _ (x.base b o' e),fun b o' e => ?_,fun b o' e => Heap.get?_push_of_some _ (x.keepX b o' e),fun b o' e => ?_,x.gens,x.os,?_⟩,hle⟩
 ·unfold setF at e
  split at e
  ·rename_i q; cases e; subst q; exact Heap.get?_push_size _ hf
  ·exact Heap.get?_push_of_some _ (x.keep b o' e)
 ·rw [setF_ne]; · exact x.apart b o' e
  intro q; subst q; rw [hfr.2.1] at e; cases e
 ·obtain ⟨D,O⟩ := x.objs
  refine ⟨D,⟨fun a m e => (O.at_ a m e).keeps (fun a vs n q => hle _ _ q) fun b o' _ q => Heap.get?_push_of_some _ q,fun a m e => ?_,fun a C fs e => ?_,O.inj⟩⟩
  ·have := O.lt e
   rw [setF_ne (neN' (by omega))]; exact O.free a m e
  ·have := O.ltD e
   rw [setF_ne (neN' (by omega))]; exact O.dfree a C fs e
theorem Sat.hold (x : Sat w h₀ os₀ K X H s) (o : Obj) (hf : o.isFreed = false) {t : Nat} : Sat w h₀ os₀ K (setF X s.heap.objs.size o) H { s with heap := s.heap.push o,toks := t } := by
 have hfr := x.fresh
 refine ⟨x.base,fun b o' e => Heap.get?_push_of_some _ (x.keep b o' e),fun b o' e => ?_,fun b o' e => ?_,x.gens,x.os,?_⟩
 ·unfold setF at e
  split at e
  ·rename_i q; cases e; subst q; exact Heap.get?_push_size _ hf
  ·exact Heap.get?_push_of_some _ (x.keepX b o' e)
 ·unfold setF at e
  split at e
  ·rename_i q; subst q; exact hfr.1
  ·exact x.apart b o' e
 ·obtain ⟨D,O⟩ := x.objs
  refine ⟨D,⟨fun a m e => (O.at_ a m e).keeps (fun a vs n q => q) fun b o' _ q => Heap.get?_push_of_some _ q,fun a m e => ?_,fun a C fs e => ?_,O.inj⟩⟩
  ·have := O.lt e
   rw [setF_ne (neN' (by omega))]; exact O.free a m e
  ·have := O.ltD e
   rw [setF_ne (neN' (by omega))]; exact O.dfree a C fs e
theorem Sat.drop (x : Sat w h₀ os₀ K X H s) {X' : Fz} (h : Le X' X) : Sat w h₀ os₀ K X' H s := by
 have hn : ∀ b,X b = none → X' b = none := fun b e => by
  cases q : X' b with
  | none => rfl
  | some o => rw [h _ _ q] at e; cases e
 obtain ⟨D,O⟩ := x.objs
 exact ⟨x.base,x.keep,fun b o e => x.keepX _ _ (h _ _ e),fun b o e => x.apart _ _ (h _ _ e),x.gens,x.os,D,O.at_,fun a m e => ⟨(O.free a m e).1,hn _ (O.free a m e).2⟩,fun a C fs e => ⟨⟨(O.dfree a C fs e).1.1,hn _ (O.dfree a C fs e).1.2⟩,(O.dfree a C fs e).2⟩,O.inj⟩
theorem Sat.alloc (x : Sat w h₀ os₀ K X H s) (o : Obj) (m : MO) (hm : ∀ C fs,m ≠ .inst C fs) (ho : ∀ D,ObjAt w K D (s.heap.push o) s.heap.objs.size m) {t : Nat} :
  Sat w h₀ os₀ K X (setF H s.heap.objs.size m) { s with heap := s.heap.push o,toks := t } := by
 have hfr := x.fresh
 obtain ⟨D,O⟩ := x.objs
 refine ⟨x.base,fun b o' e => Heap.get?_push_of_some _ (x.keep b o' e),fun b o' e => Heap.get?_push_of_some _ (x.keepX b o' e),x.apart,x.gens,x.os,D,⟨fun a m' e => ?_,fun a m' e => ?_,fun a C fs e => ?_,fun a b C fs C' fs' e e' => ?_⟩⟩
 ·unfold setF at e
  split at e
  ·rename_i q; cases e; subst q; exact ho D
  ·exact (O.at_ a m' e).keeps (fun _ _ _ q => q) fun b o' _ q => Heap.get?_push_of_some _ q
 ·unfold setF at e
  split at e
  ·rename_i q; subst q; exact ⟨hfr.1,hfr.2.1⟩
  ·exact O.free a m' e
 ·unfold setF at e
  split at e
  ·cases e; exact absurd rfl (hm C fs)
  ·refine ⟨(O.dfree a C fs e).1,?_⟩
   have := O.ltD e
   rw [setF_ne (neN' (by omega))]; exact (O.dfree a C fs e).2
 ·unfold setF at e e'
  split at e
  ·cases e; exact absurd rfl (hm C fs)
  ·split at e'
   ·cases e'; exact absurd rfl (hm C' fs')
   ·exact O.inj a b C fs C' fs' e e'
theorem Sat.allocI (x : Sat w h₀ os₀ K X H s) (C : Addr) {t : Nat} :
  H (s.heap.objs.size + 1) = none ∧ Sat w h₀ os₀ K X (setF H (s.heap.objs.size + 1) (.inst C [])) { s with heap := (s.heap.push emptyDict).push (instObj C s.heap.objs.size),toks := t } := by
 have f0 := x.freshI 0
 have f1 := x.freshI 1
 obtain ⟨D,O⟩ := x.objs
 have up : ∀ b o,s.heap.get? b = some o → ((s.heap.push emptyDict).push (instObj C s.heap.objs.size)).get? b = some o := fun b o e => Heap.get?_push_of_some _ (Heap.get?_push_of_some _ e)
 have hd : ((s.heap.push emptyDict).push (instObj C s.heap.objs.size)).get? s.heap.objs.size = some emptyDict := Heap.get?_push_of_some _ (Heap.get?_push_size _ rfl)
 have hi : ((s.heap.push emptyDict).push (instObj C s.heap.objs.size)).get? (s.heap.objs.size + 1) = some (instObj C s.heap.objs.size) := by
  have := Heap.get?_push_size (s.heap.push emptyDict) (o := instObj C s.heap.objs.size) rfl
  rwa [Heap.size_push] at this
 refine ⟨f1.2.2,x.base,fun b o' e => up _ _ (x.keep b o' e),fun b o' e => up _ _ (x.keepX b o' e),x.apart,x.gens,x.os,fun a => if a = s.heap.objs.size + 1 then s.heap.objs.size else D a,⟨fun a m' e => ?_,fun a m' e => ?_,fun a C' fs e => ?_,fun a b C fs C' fs' e e' hD => ?_⟩⟩
 ·unfold setF at e
  split at e
  ·rename_i q; cases e; subst q
   refine ⟨?_,[],0,?_,rfl,fun _ h => nomatch h⟩
   ·simp only [if_true]; exact hi
   ·simp only [if_true]; exact hd
  ·rename_i q
   have := (O.at_ a m' e).keeps (K' := K) (fun _ _ _ q => q) (fun b o' _ q => up b o' q)
   cases m' with
   | list l => exact this
   | dict l => exact this
   | dictB l => exact this
   | inst C' fs => unfold ObjAt at this ⊢; simpa only [q,if_false] using this
 ·unfold setF at e
  split at e
  ·rename_i q; subst q; exact ⟨f1.1,f1.2.1⟩
  ·exact O.free a m' e
 ·unfold setF at e
  split at e
  ·rename_i q; subst q
   simp only [if_true]
   refine ⟨⟨f0.1,f0.2.1⟩,?_⟩
   rw [setF_ne (neN' (by omega))]; exact f0.2.2
  ·rename_i q
   simp only [q,if_false]
   refine ⟨(O.dfree a C' fs e).1,?_⟩
   have := O.ltD e
   rw [setF_ne (neN' (by omega))]; exact (O.dfree a C' fs e).2
 ·unfold setF at e e'
  split at e
  ·rename_i q
   split at e'
   ·rename_i q'; rw [q,q']
   ·rename_i q'
    simp only [q,q',if_true,if_false] at hD
    have := O.ltD e'; exact absurd hD (neN' (by omega))
  ·rename_i q
   split at e'
   ·rename_i q'
    simp only [q,q',if_true,if_false] at hD
    have := O.ltD e; exact absurd hD (neN' (by omega))
   ·rename_i q'
    simp only [q,q',if_false] at hD
    exact O.inj a b C fs C' fs' e e' hD
theorem Sat.update (x : Sat w h₀ os₀ K X H s) {a : Addr} {m m' : MO} {h' : Heap} (hm : H a = some m) (hs : Heap.SameBut a s.heap h')
  (hc' : ∀ C fs,m' ≠ .inst C fs) (hn : ∀ D,ObjAt w K D h' a m') {t : Nat} :
  Sat w h₀ os₀ K X (setF H a m') { s with heap := h',toks := t } := by
 obtain ⟨D,O⟩ := x.objs
 have kn := O.free _ _ hm
 have nD : ∀ b C fs,H b = some (.inst C fs) → D b ≠ a := fun b C fs e q => by have := (O.dfree b C fs e).2; rw [q,hm] at this; cases this
 refine ⟨x.base,fun b o' e' => (hs.2 b ?_).trans (x.keep b o' e'),fun b o' e' => (hs.2 b ?_).trans (x.keepX b o' e'),x.apart,x.gens,x.os,D,⟨fun b m'' e' => ?_,fun b m'' e' => ?_,fun b C fs e' => ?_,fun b c C fs C' fs' e' e'' => ?_⟩⟩
 ·intro q; subst q; rw [kn.1] at e'; cases e'
 ·intro q; subst q; rw [kn.2] at e'; cases e'
 ·unfold setF at e'
  split at e'
  ·rename_i q; cases e'; subst q; exact hn D
  ·rename_i q
   refine (O.at_ b m'' e').keeps (fun _ _ _ q => q) fun c o' hc0 q' => (hs.2 c ?_).trans q'
   rcases hc0 with rfl | ⟨rfl,C,fs,rfl⟩
   ·exact q
   ·exact nD _ _ _ e'
 ·unfold setF at e'
  split at e'
  ·rename_i q; subst q; exact kn
  ·exact O.free b m'' e'
 ·unfold setF at e'
  split at e'
  ·cases e'; exact absurd rfl (hc' C fs)
  ·rename_i q
   refine ⟨(O.dfree b C fs e').1,?_⟩
   rw [setF_ne (nD _ _ _ e')]; exact (O.dfree b C fs e').2
 ·unfold setF at e' e''
  split at e'
  ·cases e'; exact absurd rfl (hc' C fs)
  ·split at e''
   ·cases e''; exact absurd rfl (hc' C' fs')
   ·exact O.inj b c C fs C' fs' e' e''
theorem Sat.updI (x : Sat w h₀ os₀ K X H s) {a C : Addr} {fs : List (Nat × V)} (hm : H a = some (.inst C fs)) :
  ∃ d es n,s.heap.get? a = some (instObj C d) ∧ s.heap.get? d = some (dictOf es n) ∧ Flds w.params K es fs ∧ (∀ p ∈ fs,okF C p.1 = true) ∧
   ∀ (f : Obj → Obj) es' n' fs' t,f (dictOf es n) = dictOf es' n' → Flds w.params K es' fs' → (∀ p ∈ fs',okF C p.1 = true) → Sat w h₀ os₀ K X (setF H a (.inst C fs')) { s with heap := s.heap.update d f,toks := t } := by
 obtain ⟨D,O⟩ := x.objs
 obtain ⟨h1,es,n,h2,h3,h4⟩ := O.at_ _ _ hm
 obtain ⟨kd,hd⟩ := O.dfree _ _ _ hm
 refine ⟨D a,es,n,h1,h2,h3,h4,fun f es' n' fs' t e q q2 => ?_⟩
 have nK : ∀ b o,K b = some o → b ≠ D a := fun b o e q => by rw [q,kd.1] at e; cases e
 have nX : ∀ b o,X b = some o → b ≠ D a := fun b o e q => by rw [q,kd.2] at e; cases e
 have nH : ∀ b m,H b = some m → b ≠ D a := fun b m e q => by rw [q,hd] at e; cases e
 refine ⟨x.base,fun b o' e' => by rw [Heap.get?_update_ne _ _ _ _ (nK _ _ e')]; exact x.keep b o' e',fun b o' e' => by rw [Heap.get?_update_ne _ _ _ _ (nX _ _ e')]; exact x.keepX b o' e',x.apart,x.gens,x.os,D,⟨fun b m'' e' => ?_,fun b m'' e' => ?_,fun b C fs e' => ?_,fun b c C1 fs1 C2 fs2 e' e'' => ?_⟩⟩
 ·unfold setF at e'
  split at e'
  ·rename_i q0
   cases e'; subst q0
   refine ⟨by rw [Heap.get?_update_ne _ _ _ _ (nH _ _ hm)]; exact h1,es',n',?_,q,q2⟩
   rw [← e]; exact Heap.get?_update_self _ h2 (by rw [e]; rfl)
  ·rename_i q0
   refine (O.at_ b m'' e').keeps (fun _ _ _ q => q) fun c o' hc0 q' => ?_
   have hne : c ≠ D a := by
    rcases hc0 with rfl | ⟨rfl,C',fs'',rfl⟩
    ·exact nH _ _ e'
    ·exact fun z => q0 (O.inj _ _ _ _ _ _ e' hm z)
   rw [Heap.get?_update_ne _ _ _ _ hne]; exact q'
 ·unfold setF at e'
  split at e'
  ·rename_i q0; subst q0; exact O.free _ _ hm
  ·exact O.free b m'' e'
 ·unfold setF at e'
  split at e'
  ·rename_i q0
   cases e'; subst q0
   exact ⟨kd,by rw [setF_ne (nH _ _ hm).symm]; exact hd⟩
  ·rename_i q0
   refine ⟨(O.dfree b C fs e').1,?_⟩
   rw [setF_ne]; · exact (O.dfree b C fs e').2
   intro z; have := (O.dfree b C fs e').2; rw [z,hm] at this; cases this
 ·unfold setF at e' e''
  split at e'
  ·rename_i q0
   cases e'; subst q0
   split at e''
   ·rename_i q1; exact fun _ => q1.symm
   ·exact O.inj _ _ _ _ _ _ hm e''
  ·split at e''
   ·rename_i q1
    cases e''; subst q1
    exact O.inj _ _ _ _ _ _ e' hm
   ·exact O.inj b c C1 fs1 C2 fs2 e' e''
theorem Sat.change (x : Sat w h₀ os₀ K X H s) {a : Addr} {o o' : Obj} {h' : Heap} (hk : X a = some o) (hs : Heap.SameBut a s.heap h') (e : h'.get? a = some o') {t : Nat} :
  Sat w h₀ os₀ K (setF X a o') H { s with heap := h',toks := t } := by
 obtain ⟨D,O⟩ := x.objs
 have ka := x.apart _ _ hk
 have nH : ∀ b m,H b = some m → b ≠ a := fun b m e q => by have := (O.free _ _ e).2; rw [q,hk] at this; cases this
 have nD : ∀ b C fs,H b = some (.inst C fs) → D b ≠ a := fun b C fs e q => by have := (O.dfree _ _ _ e).1.2; rw [q,hk] at this; cases this
 refine ⟨x.base,fun b ob q => (hs.2 b ?_).trans (x.keep _ _ q),fun b ob q => ?_,fun b ob q => ?_,x.gens,x.os,D,⟨fun b m q => ?_,fun b m q => ?_,fun b C fs q => ?_,O.inj⟩⟩
 ·intro z; subst z; rw [ka] at q; cases q
 ·unfold setF at q
  split at q
  ·rename_i z; cases q; subst z; exact e
  ·rename_i z; exact (hs.2 b z).trans (x.keepX _ _ q)
 ·unfold setF at q
  split at q
  ·rename_i z; subst z; exact ka
  ·exact x.apart _ _ q
 ·refine (O.at_ b m q).keeps (fun _ _ _ q => q) fun c oc hc qc => (hs.2 c ?_).trans qc
  rcases hc with rfl | ⟨rfl,C,fs,rfl⟩
  ·exact nH _ _ q
  ·exact nD _ _ _ q
 ·rw [setF_ne (nH _ _ q)]; exact O.free _ _ q
 ·rw [setF_ne (nD _ _ _ q)]; exact O.dfree _ _ _ q
theorem Sat.thaw (x : Sat w h₀ os₀ K X H s) {a : Addr} {o : Obj} {m : MO} {h' : Heap} {X' : Fz} (hk : X a = some o) (hX : Le X' X) (hXa : X' a = none) (hm : ∀ C fs,m ≠ .inst C fs) (hs : Heap.SameBut a s.heap h')
  (e : ∀ D,ObjAt w K D h' a m) {t : Nat} : H a = none ∧ Sat w h₀ os₀ K X' (setF H a m) { s with heap := h',toks := t } := by
 obtain ⟨D,O⟩ := x.objs
 have ka := x.apart _ _ hk
 have hn : ∀ b,X b = none → X' b = none := fun b e => by
  cases q : X' b with
  | none => rfl
  | some o => rw [hX _ _ q] at e; cases e
 have nH : ∀ b m,H b = some m → b ≠ a := fun b m e q => by have := (O.free _ _ e).2; rw [q,hk] at this; cases this
 have nD : ∀ b C fs,H b = some (.inst C fs) → D b ≠ a := fun b C fs e q => by have := (O.dfree _ _ _ e).1.2; rw [q,hk] at this; cases this
 refine ⟨?_,x.base,fun b ob q => (hs.2 b ?_).trans (x.keep _ _ q),fun b ob q => (hs.2 b ?_).trans (x.keepX _ _ (hX _ _ q)),fun b ob q => x.apart _ _ (hX _ _ q),x.gens,x.os,D,⟨fun b m' q => ?_,fun b m' q => ?_,fun b C fs q => ?_,fun b c C fs C' fs' q q' => ?_⟩⟩
 ·cases q : H a with
  | none => rfl
  | some m => exact absurd rfl (nH _ _ q)
 ·intro z; subst z; rw [ka] at q; cases q
 ·intro z; subst z; rw [hXa] at q; cases q
 ·unfold setF at q
  split at q
  ·rename_i z; cases q; subst z; exact e D
  ·refine (O.at_ b m' q).keeps (fun _ _ _ q => q) fun c oc hc qc => (hs.2 c ?_).trans qc
   rcases hc with rfl | ⟨rfl,C,fs,rfl⟩
   ·exact nH _ _ q
   ·exact nD _ _ _ q
 ·unfold setF at q
  split at q
  ·rename_i z; subst z; exact ⟨ka,hXa⟩
  ·exact ⟨(O.free _ _ q).1,hn _ (O.free _ _ q).2⟩
 ·unfold setF at q
  split at q
  ·cases q; exact absurd rfl (hm C fs)
  ·refine ⟨⟨(O.dfree _ _ _ q).1.1,hn _ (O.dfree _ _ _ q).1.2⟩,?_⟩
   rw [setF_ne (nD _ _ _ q)]; exact (O.dfree _ _ _ q).2
 ·unfold setF at q q'
  split at q
  ·cases q; exact absurd rfl (hm C fs)
  ·split at q'
   ·cases q'; exact absurd rfl (hm C' fs')
   ·exact O.inj _ _ _ _ _ _ q q'
theorem Sat.ext (x : Sat w h₀ os₀ K X H s) {h' : Heap} {F : Addr → Prop} {K' X' : Fz} (hF : ∀ b,F b → ∃ o,X b = some o) (hk : ∀ b o,¬ F b → s.heap.get? b = some o → h'.get? b = some o)
  (leK : Le K K') (hK : ∀ b o,K' b = some o → K b = some o ∨ (@LE.le Nat instLENat s.heap.objs.size b ∧ h'.get? b = some o)) (hX : ∀ b o,X' b = some o → K' b = none ∧ h'.get? b = some o ∧ (X b ≠ none ∨ @LE.le Nat instLENat s.heap.objs.size b)) {t : Nat} :
  Sat w h₀ os₀ K' X' H { s with heap := h',toks := t } := by
 obtain ⟨D,O⟩ := x.objs
 have nF : ∀ b,X b = none → ¬ F b := fun b e f => by obtain ⟨o,q⟩ := hF b f; rw [e] at q; cases q
 have nK : ∀ b o,K b = some o → ¬ F b := fun b o e f => by obtain ⟨o',q⟩ := hF b f; rw [x.apart _ _ q] at e; cases e
 have kN : ∀ b,K b = none → @LT.lt Nat instLTNat b s.heap.objs.size → K' b = none := fun b e l => by
  cases q : K' b with
  | none => rfl
  | some o =>
   rcases hK b o q with h | h
   ·rw [e] at h; cases h
   ·exact absurd h.1 (Nat.not_le_of_lt l)
 have xN : ∀ b,X b = none → @LT.lt Nat instLTNat b s.heap.objs.size → X' b = none := fun b e l => by
  cases q : X' b with
  | none => rfl
  | some o => rcases (hX b o q).2.2 with h | h; · exact absurd e h
        ·exact absurd h (Nat.not_le_of_lt l)
 refine ⟨fun b o e => leK _ _ (x.base b o e),fun b o e => ?_,fun b o e => (hX b o e).2.1,fun b o e => (hX b o e).1,x.gens,x.os,D,⟨fun a m e => ?_,fun a m e => ?_,fun a C fs e => ?_,O.inj⟩⟩
 ·rcases hK b o e with h | h
  ·exact hk _ _ (nK _ _ h) (x.keep _ _ h)
  ·exact h.2
 ·refine (O.at_ a m e).keeps (fun _ _ _ q => leK _ _ q) fun b o hb q => hk b o (nF b ?_) q
  rcases hb with rfl | ⟨rfl,C,fs,rfl⟩
  ·exact (O.free _ _ e).2
  ·exact (O.dfree _ _ _ e).1.2
 ·exact ⟨kN _ (O.free _ _ e).1 (O.lt e),xN _ (O.free _ _ e).2 (O.lt e)⟩
 ·exact ⟨⟨kN _ (O.dfree _ _ _ e).1.1 (O.ltD e),xN _ (O.dfree _ _ _ e).1.2 (O.ltD e)⟩,(O.dfree _ _ _ e).2⟩
end
structure Wx where
 w : World
 h₀ : Heap
 os₀ : OsState
 p : Program
 loose : List Str
 mg : Str → Option Value
 mb : Str → Option Value
 says : Says w h₀
 top : TopRead p loose mg mb h₀
abbrev Wx.M (W : Wx) : Model := model prg W.w
abbrev Wx.Sat (W : Wx) (K X : Fz) (H : Hp) (s : Shared) : Prop := Mine.Sat W.w W.h₀ W.os₀ K X H s
structure Room (d : Nat) (A : Around) : Prop where
 handled : A.handled = none
 depth : A.depth + 10 * d ≤ 900
 units : A.units + 100 * d ≤ 9000
abbrev Ro := List (Option V)
def Post (W : Wx) (K X : Fz) (R : V → Hp → Prop) (v : Value) (s' : Shared) : Prop := ∃ K' x H',Le K K' ∧ W.Sat K' X H' s' ∧ Rep K' x v ∧ R x H'
abbrev NoE : Value → Shared → Prop := fun _ _ => False
def OpW (W : Wx) (d : Nat) (t : List Value → Sem Value) (args : List V) (H : Hp) (R : V → Hp → Prop) : Prop :=
 ∀ A s K X vs,Room d A → W.Sat K X H s → Reps K args vs → wpAny W.M A (t vs) (Post W K X R) NoE s
def EffW (W : Wx) (d : Nat) (t : List Value → Sem Unit) (args : List V) (H : Hp) (R : Hp → Prop) : Prop :=
 ∀ A s K X vs,Room d A → W.Sat K X H s → Reps K args vs → wpAny W.M A (t vs) (fun _ s' => ∃ K' H',Le K K' ∧ W.Sat K' X H' s' ∧ R H') NoE s
def CallW (W : Wx) (d : Nat) (f : Value) (args : List V) (H : Hp) (R : V → Hp → Prop) : Prop :=
 ∀ A s K X vs,Room d A → W.Sat K X H s → Reps K args vs → codeAny W.M A (.call f ⟨vs,[]⟩) (fun r s' => ∃ v,r = .ok (.ret v) ∧ Post W K X R v s') s
abbrev sliceO (l u : Value) : Obj := { cls := .type "slice",data := .fields #[l,u,.none] }
def SlcW (W : Wx) (d : Nat) (a b c : V) (H : Hp) (R : V → Hp → Prop) : Prop :=
 ∀ A s K X o sl l u,Room d A → W.Sat K X H s → Rep K a o → K sl = some (sliceO l u) → Rep K b l → Rep K c u → wpAny W.M A (getItem o (.ref sl)) (Post W K X R) NoE s
def CallT (W : Wx) (d : Nat) (f : Value) (args : List V) (H : Hp) (R : V → Hp → Prop) : Prop :=
 ∀ A s K X vs,Room d A → W.Sat K X H s → Reps K args vs → wpAny W.M A (PySem.call f vs) (Post W K X R) NoE s
def notInst (W : Wx) (H : Hp) : V → Prop
 | .ref a => ∃ m,H a = some m ∧ ∀ C fs,m ≠ .inst C fs
 | .tup _ => True
 | .raw v => ∃ a vs n,v = .ref a ∧ W.h₀.get? a = some ⟨.type "list",none,.seq vs n,#[]⟩
 | _ => False
def MthW (W : Wx) (d : Nat) (m : Str) (o : V) (H : Hp) (f : Value) : Prop :=
 ∀ A s K X v pl,Room d A → W.Sat K X H s → Rep K o v → ∀ Q : Value × List Value → Shared → Prop,Q (f,[v]) s → wpAny W.M A (getMethod v m pl) Q NoE s
def t1 (f : Value → Sem Value) : List Value → Sem Value | [a] => f a | _ => unsupported ""
def t2 (f : Value → Value → Sem Value) : List Value → Sem Value | [a,b] => f a b | _ => unsupported ""
def t3 (f : Value → Value → Value → Sem Value) : List Value → Sem Value | [a,b,c] => f a b c | _ => unsupported ""
def u2 (f : Value → Value → Sem Unit) : List Value → Sem Unit | [a,b] => f a b | _ => unsupported ""
def u3 (f : Value → Value → Value → Sem Unit) : List Value → Sem Unit | [a,b,c] => f a b c | _ => unsupported ""
section
variable {W : Wx} {d : Nat} {H : Hp} {R : V → Hp → Prop}
theorem OpW.one {f : Value → Sem Value} {x : V} (h : ∀ A s K X a,Room d A → W.Sat K X H s → Rep K x a → wpAny W.M A (f a) (Post W K X R) NoE s) : OpW W d (t1 f) [x] H R := by
 intro A s K X vs hA hS hr
 obtain ⟨a,r,rfl,h1,h2⟩ := Reps.cons_iff.mp hr
 rw [Reps.nil_iff.mp h2]
 exact h A s K X a hA hS h1
theorem OpW.two {f : Value → Value → Sem Value} {x y : V} (h : ∀ A s K X a b,Room d A → W.Sat K X H s → Rep K x a → Rep K y b → wpAny W.M A (f a b) (Post W K X R) NoE s) : OpW W d (t2 f) [x,y] H R := by
 intro A s K X vs hA hS hr
 obtain ⟨a,r,rfl,h1,h2⟩ := Reps.cons_iff.mp hr
 obtain ⟨b,r,rfl,h3,h4⟩ := Reps.cons_iff.mp h2
 rw [Reps.nil_iff.mp h4]
 exact h A s K X a b hA hS h1 h3
theorem OpW.three {f : Value → Value → Value → Sem Value} {x y z : V} (h : ∀ A s K X a b c,Room d A → W.Sat K X H s → Rep K x a → Rep K y b → Rep K z c → wpAny W.M A (f a b c) (Post W K X R) NoE s) : OpW W d (t3 f) [x,y,z] H R := by
 intro A s K X vs hA hS hr
 obtain ⟨a,r,rfl,h1,h2⟩ := Reps.cons_iff.mp hr
 obtain ⟨b,r,rfl,h3,h4⟩ := Reps.cons_iff.mp h2
 obtain ⟨c,r,rfl,h5,h6⟩ := Reps.cons_iff.mp h4
 rw [Reps.nil_iff.mp h6]
 exact h A s K X a b c hA hS h1 h3 h5
theorem EffW.two {R : Hp → Prop} {f : Value → Value → Sem Unit} {x y : V} (h : ∀ A s K X a b,Room d A → W.Sat K X H s → Rep K x a → Rep K y b → wpAny W.M A (f a b) (fun _ s' => ∃ K' H',Le K K' ∧ W.Sat K' X H' s' ∧ R H') NoE s) : EffW W d (u2 f) [x,y] H R := by
 intro A s K X vs hA hS hr
 obtain ⟨a,r,rfl,h1,h2⟩ := Reps.cons_iff.mp hr
 obtain ⟨b,r,rfl,h3,h4⟩ := Reps.cons_iff.mp h2
 rw [Reps.nil_iff.mp h4]
 exact h A s K X a b hA hS h1 h3
theorem EffW.three {R : Hp → Prop} {f : Value → Value → Value → Sem Unit} {x y z : V} (h : ∀ A s K X a b c,Room d A → W.Sat K X H s → Rep K x a → Rep K y b → Rep K z c → wpAny W.M A (f a b c) (fun _ s' => ∃ K' H',Le K K' ∧ W.Sat K' X H' s' ∧ R H') NoE s) : EffW W d (u3 f) [x,y,z] H R := by
 intro A s K X vs hA hS hr
 obtain ⟨a,r,rfl,h1,h2⟩ := Reps.cons_iff.mp hr
 obtain ⟨b,r,rfl,h3,h4⟩ := Reps.cons_iff.mp h2
 obtain ⟨c,r,rfl,h5,h6⟩ := Reps.cons_iff.mp h4
 rw [Reps.nil_iff.mp h6]
 exact h A s K X a b c hA hS h1 h3 h5
theorem post_same {K X : Fz} {s s' : Shared} {x : V} {v : Value} (hS : W.Sat K X H s) (r : Rep K x v) (h : R x H) (eh : s'.heap = s.heap := by rfl) (eg : s'.gens = s.gens := by rfl) (eo : s'.os = s.os := by rfl) : Post W K X R v s' :=
 ⟨K,x,H,Le.rfl,hS.of_heap eh eg eo,r,h⟩
theorem OpW.mono {t : List Value → Sem Value} {args : List V} {R' : V → Hp → Prop} (h : OpW W d t args H R) (k : ∀ x H',R x H' → R' x H') : OpW W d t args H R' :=
 fun A s K X vs hA hS hr => wpAny_mono (h A s K X vs hA hS hr) (fun _ _ ⟨K',x,H',a,b,c,e⟩ => ⟨K',x,H',a,b,c,k _ _ e⟩) fun _ _ e => e
theorem CallW.mono {f : Value} {args : List V} {R' : V → Hp → Prop} (h : CallW W d f args H R) (k : ∀ x H',R x H' → R' x H') : CallW W d f args H R' :=
 fun A s K X vs hA hS hr => codeAny_mono (h A s K X vs hA hS hr) (fun _ _ ⟨v,q,K',x,H',a,b,c,e⟩ => ⟨v,q,K',x,H',a,b,c,k _ _ e⟩)
theorem CallW.t {f : Value} {args : List V} (h : CallW W d f args H R) : CallT W d f args H R :=
 fun A s K X vs hA hS hr => wpAny_call (codeAny_mono (h A s K X vs hA hS hr) fun _ _ ⟨v,q,p⟩ => by subst q; exact p)
theorem CallT.mono {f : Value} {args : List V} {R' : V → Hp → Prop} (h : CallT W d f args H R) (k : ∀ x H',R x H' → R' x H') : CallT W d f args H R' :=
 fun A s K X vs hA hS hr => wpAny_mono (h A s K X vs hA hS hr) (fun _ _ ⟨K',x,H',a,b,c,e⟩ => ⟨K',x,H',a,b,c,k _ _ e⟩) fun _ _ e => e
theorem Room.up {d d' : Nat} {A : Around} (h : Room d' A) (le : d ≤ d') : Room d A := ⟨h.handled,by have := h.depth; omega,by have := h.units; omega⟩
theorem CallW.up {d' : Nat} {f : Value} {args : List V} (h : CallW W d f args H R) (le : d ≤ d') : CallW W d' f args H R := fun A s K X vs hA hS hr => h A s K X vs (hA.up le) hS hr
end
inductive Kd where
 | plain | range | enum | zip
inductive I where
 | lit (v : V) | loc (i : Nat) | sto (i : Nat) | attr (f : Nat) | sattr (f : Nat) | mth (m : Nat) | call (n : Nat) | bin (op : Operator) | cmp (op : CmpOp) | cmpk (op : CmpOp) | neg | notb | chk
 | ite (t e : List I) | tup (n : Nat) | lst (n : Nat) | dct (n : Nat) | idx | sidx | slc | pop | ret | unp (n : Nat) | fr (k : Kd) (n : Nat) (t b : List I) | whl (t b : List I) | lc (k : Kd) (n : Nat) (vs : List (Option Nat)) (t e : List I) | has (vs : List (Option Nat)) | bad
def mnm : List Str := [S "part",S "put",S "equals",S "line",S "is_wide",S "fresh",S "part_above",S "scroll_up",S "push",S "kept_to",S "size_of",S "offset_of",S "go_behind",S "give_up",S "top",
 S "width_of",S "is_on",S "table",S "reset",S "mapped",S "place",S "area",S "put_eighths",S "told",S "resize",S "width_of_line",S "right_bound",S "left_bound",S "is_between_sides",S "is_whole",
 S "put_code",S "place_ahead",S "join",S "is_narrow",S "put_sign",S "advance",S "wrap",S "index",S "keep_within_line",S "carriage_return",S "next_line",S "append",S "extend",S "pop",S "get"]
def mnOf (i : Nat) : Str := (mnm[i]?).getD (S "?")
def Src (H : Hp) : Kd → List V → List V → Prop
 | .plain,[.ref a],l => H a = some (.list l)
 | .plain,[.tup l'],l => l' = l
 | .range,[.int n],l => -1000 ≤ n ∧ n ≤ 1000 ∧ l = (List.range n.toNat).map fun i => .int i
 | .range,[.int a,.int b],l => -1000 ≤ a ∧ a ≤ 1000 ∧ -1000 ≤ b ∧ b ≤ 1000 ∧ l = (List.range (b - a).toNat).map fun i => .int (a + i)
 | .range,[.int a,.int b,.int c],l => 0 ≤ a ∧ a ≤ 1000 ∧ 0 ≤ b ∧ b ≤ a ∧ 0 < c ∧ c ≤ 1000 ∧ l = []
 | .enum,[.ref a],l => ∃ l₀,H a = some (.list l₀) ∧ l = l₀.zipIdx.map fun p => .tup [.int p.2,p.1]
 | .zip,[.ref a,.ref b],l => ∃ l₁ l₂,H a = some (.list l₁) ∧ H b = some (.list l₂) ∧ l = l₁.zipWith (fun x y => .tup [x,y]) l₂
 | _,_,_ => False
theorem src_range {H : Hp} {args l : List V} (h : Src H .range args l) : (∃ n,args = [.int n] ∧ -1000 ≤ n ∧ n ≤ 1000 ∧ l = (List.range n.toNat).map fun i => .int i) ∨
  (∃ a b,args = [.int a,.int b] ∧ -1000 ≤ a ∧ a ≤ 1000 ∧ -1000 ≤ b ∧ b ≤ 1000 ∧ l = (List.range (b - a).toNat).map fun i => .int (a + i)) ∨
  (∃ a b c,args = [.int a,.int b,.int c] ∧ 0 ≤ a ∧ a ≤ 1000 ∧ 0 ≤ b ∧ b ≤ a ∧ 0 < c ∧ c ≤ 1000 ∧ l = []) := by
 unfold Src at h
 split at h <;> first | exact h.elim | exact .inl ⟨_,rfl,h⟩ | exact .inr (.inl ⟨_,_,rfl,h⟩) | exact .inr (.inr ⟨_,_,_,rfl,h⟩) | (exact Kd.noConfusion (by assumption)) | (rename_i q; cases q; done) | (rename_i q _; cases q; done)
theorem src_enum {H : Hp} {args l : List V} (h : Src H .enum args l) : ∃ a l₀,args = [.ref a] ∧ H a = some (.list l₀) ∧ l = l₀.zipIdx.map fun p => .tup [.int p.2,p.1] := by
 unfold Src at h
 split at h <;> first | exact h.elim | exact ⟨_,_,rfl,h.choose_spec⟩ | (exact Kd.noConfusion (by assumption)) | (rename_i q; cases q; done) | (rename_i q _; cases q; done)
theorem src_zip {H : Hp} {args l : List V} (h : Src H .zip args l) : ∃ a b l₁ l₂,args = [.ref a,.ref b] ∧ H a = some (.list l₁) ∧ H b = some (.list l₂) ∧ l = l₁.zipWith (fun x y => .tup [x,y]) l₂ := by
 unfold Src at h
 split at h <;> first | exact h.elim | exact ⟨_,_,_,_,rfl,h.choose_spec.choose_spec⟩ | (exact Kd.noConfusion (by assumption)) | (rename_i q; cases q; done) | (rename_i q _; cases q; done)
inductive Out where
 | nxt (st : List V) (ρ : Ro) (H : Hp) | ret (v : V) (H : Hp)
def calleeL : List Nat := [62,69,76,83,90,98,105,112,140,162,169,248,251,267,274,288,293,300,307,388,396,428,442,475,478,487,501,508,515,522,529,532,543,550,557,564,571,578,585,592,606,613,620,634,641,644,655,662,678,685,699,706,716,775,782,792,831,846,853,860,910,920,945,966,973,976,994,1036,1109,1127,1134,1169,1198,1208,1228,1235,1242,1249,1256,1263,1270,1277,1284,1291,1305,1312,1319,1326,1333,1347,1361,1375,1382,1389,1485,1496,1510,1517,1524,1531,1538,1545,1550,1555,1560]
def calleeOk : Value → Bool | .ref a => calleeL.contains a | .builtin _ | .type _ => true | _ => false
inductive Run (W : Wx) (d : Nat) : List I → List V → Ro → Hp → (Out → Prop) → Prop where
 | nil {st ρ H Q} : Q (.nxt st ρ H) → Run W d [] st ρ H Q
 | has {k st ρ H Q vs} : (∀ j,some j ∈ vs → ∃ y,ρ[j]? = some (some y)) → Run W d k st ρ H Q → Run W d (.has vs :: k) st ρ H Q
 | lit {k st ρ H Q v} : Run W d k (v :: st) ρ H Q → Run W d (.lit v :: k) st ρ H Q
 | loc {k st ρ H Q i v} : ρ[i]? = some (some v) → Run W d k (v :: st) ρ H Q → Run W d (.loc i :: k) st ρ H Q
 | sto {k st ρ H Q i v} : i < ρ.length → Run W d k st (ρ.set i (some v)) H Q → Run W d (.sto i :: k) (v :: st) ρ H Q
 | attr {k st ρ H Q f v R} : OpW W d (t1 fun o => getAttr o (nmOf f) true) [v] H R → (∀ x H',R x H' → Run W d k (x :: st) ρ H' Q) → Run W d (.attr f :: k) (v :: st) ρ H Q
 | sattr {k st ρ H Q f v o} {R : Hp → Prop} : EffW W d (u2 fun v o => setAttr o (nmOf f) v) [v,o] H R → (∀ H',R H' → Run W d k st ρ H' Q) → Run W d (.sattr f :: k) (o :: v :: st) ρ H Q
 | mth {k st ρ H Q m o f} : MthW W d (mnOf m) o H f → Run W d k (o :: .raw f :: st) ρ H Q → Run W d (.mth m :: k) (o :: st) ρ H Q
 | call {k st st' ρ H Q n f l R} : l.length = n → st' = l.reverse ++ .raw f :: st → calleeOk f = true → CallT W d f l H R → (∀ x H',R x H' → Run W d k (x :: st) ρ H' Q) → Run W d (.call n :: k) st' ρ H Q
 | bin {k st ρ H Q op a b R} : OpW W d (t2 (binaryOp op)) [a,b] H R → (∀ x H',R x H' → Run W d k (x :: st) ρ H' Q) → Run W d (.bin op :: k) (b :: a :: st) ρ H Q
 | cmp {k st ρ H Q op a b R} : OpW W d (t2 (compareOp op)) [a,b] H R → (∀ x H',R x H' → Run W d k (x :: st) ρ H' Q) → Run W d (.cmp op :: k) (b :: a :: st) ρ H Q
 | cmpk {k st ρ H Q op a b} {c : Bool} : OpW W d (t2 (compareOp op)) [a,b] H (fun x H' => x = .bool c ∧ H' = H) → Run W d k (.bool c :: b :: st) ρ H Q → Run W d (.cmpk op :: k) (b :: a :: st) ρ H Q
 | neg {k st ρ H Q a} : Run W d k (.int (-a) :: st) ρ H Q → Run W d (.neg :: k) (.int a :: st) ρ H Q
 | notb {k st ρ H Q b} : Run W d k (.bool (!b) :: st) ρ H Q → Run W d (.notb :: k) (.bool b :: st) ρ H Q
 | chk {k st ρ H Q b} : Run W d k (.bool b :: st) ρ H Q → Run W d (.chk :: k) (.bool b :: st) ρ H Q
 | ite {k st ρ H Q t e} {b : Bool} : Run W d ((if b then t else e) ++ k) st ρ H Q → Run W d (.ite t e :: k) (.bool b :: st) ρ H Q
 | tup {k st st' ρ H Q n} {l : List V} : l.length = n → n ≤ 1000 → st' = l.reverse ++ st → Run W d k (.tup l :: st) ρ H Q → Run W d (.tup n :: k) st' ρ H Q
 | lst {k st st' ρ H Q n} {l : List V} : l.length = n → n ≤ 1000 → st' = l.reverse ++ st → (∀ a,H a = none → Run W d k (.ref a :: st) ρ (setF H a (.list l)) Q) → Run W d (.lst n :: k) st' ρ H Q
 | dct0 {k st ρ H Q} : (∀ a,H a = none → Run W d k (.ref a :: st) ρ (setF H a (.dict [])) Q) → Run W d (.dct 0 :: k) st ρ H Q
 | dct2 {k st ρ H Q p q x y} : p ≠ q → (∀ a,H a = none → Run W d k (.ref a :: st) ρ (setF H a (.dict [(p,x),(q,y)])) Q) → Run W d (.dct 4 :: k) (y :: .str q :: x :: .str p :: st) ρ H Q
 | idx {k st ρ H Q a b R} : OpW W d (t2 getItem) [a,b] H R → notInst W H a → (∀ x H',R x H' → Run W d k (x :: st) ρ H' Q) → Run W d (.idx :: k) (b :: a :: st) ρ H Q
 | slc {k st ρ H Q a b c R} : SlcW W d a b c H R → notInst W H a → (∀ x H',R x H' → Run W d k (x :: st) ρ H' Q) → Run W d (.slc :: k) (c :: b :: a :: st) ρ H Q
 | sidx {k st ρ H Q v o i} {R : Hp → Prop} : EffW W d (u3 fun v o i => setItem o i v) [v,o,i] H R → (∀ H',R H' → Run W d k st ρ H' Q) → Run W d (.sidx :: k) (i :: o :: v :: st) ρ H Q
 | pop {k st ρ H Q v} : Run W d k st ρ H Q → Run W d (.pop :: k) (v :: st) ρ H Q
 | ret {k st ρ H Q v} : Q (.ret v H) → Run W d (.ret :: k) (v :: st) ρ H Q
 | unp {k st ρ H Q n l} : l.length = n → Run W d k (l ++ st) ρ H Q → Run W d (.unp n :: k) (.tup l :: st) ρ H Q
 | fr {k st st' ρ H Q kd n t b l args} (J : Nat → Ro → Hp → Prop) (Z : V → Hp → Prop) : args.length = n → st' = args.reverse ++ st → J 0 ρ H → (∀ i ρ H,i ≤ l.length → J i ρ H → Src H kd args l) →
   (∀ i x ρ H,l[i]? = some x → J i ρ H → Run W d (t ++ b) [x] ρ H (fun o => match o with | .nxt [] ρ' H' => J (i + 1) ρ' H' | .ret v H' => Z v H' | _ => False)) →
   (∀ ρ H,J l.length ρ H → Run W d k st ρ H Q) → (∀ v H,Z v H → Q (.ret v H)) → Run W d (.fr kd n t b :: k) st' ρ H Q
 | whl {k st ρ H Q t b} (J : Nat → Ro → Hp → Prop) (B : Nat → Ro → Hp → Prop) (N : Ro → Hp → Prop) (Z : V → Hp → Prop) (n : Nat) : J n ρ H →
   (∀ n ρ H,J n ρ H → Run W d t [] ρ H (fun o => match o with | .nxt [.bool true] ρ' H' => ρ' = ρ ∧ B n ρ' H' | .nxt [.bool false] ρ' H' => ρ' = ρ ∧ N ρ' H' | _ => False)) →
   (∀ n ρ H,B n ρ H → Run W d b [] ρ H (fun o => match o with | .nxt [] ρ' H' => ∃ m,m < n ∧ J m ρ' H' | .ret v H' => Z v H' | _ => False)) →
   (∀ ρ H,N ρ H → Run W d k st ρ H Q) → (∀ v H,Z v H → Q (.ret v H)) → Run W d (.whl t b :: k) st ρ H Q
 | lc {k st st' ρ H Q kd n vs t e l args} (J : Nat → List V → Hp → Prop) : args.length = n → st' = args.reverse ++ st → J 0 [] H → (∀ i acc H,i ≤ l.length → J i acc H → Src H kd args l) → l.length ≤ 1000 →
   (∀ i x acc H,l[i]? = some x → acc.length = i → J i acc H → Run W d (t ++ e) [x] (vs.map fun j => j.bind fun j => (ρ[j]?).join) H (fun o => match o with | .nxt [y] _ H' => J (i + 1) (acc ++ [y]) H' | _ => False)) →
   (∀ acc H,acc.length = l.length → J l.length acc H → ∀ a,H a = none → Run W d k (.ref a :: st) ρ (setF H a (.list acc)) Q) → Run W d (.lc kd n vs t e :: k) st' ρ H Q
section
variable {W : Wx} {d : Nat} {H : Hp} {R : V → Hp → Prop}
theorem op_add {a b : Int} (h : R (.int (a + b)) H) : OpW W d (t2 (binaryOp .Add)) [.int a,.int b] H R :=
 OpW.two fun A s K X x y hA hS rx ry => by
  obtain ⟨t,rfl⟩ := Rep.int_iff.mp rx
  obtain ⟨u,rfl⟩ := Rep.int_iff.mp ry
  exact wpAny_add_int (post_same hS (Rep.int_iff.mpr ⟨_,rfl⟩) h)
theorem op_sub {a b : Int} (h : R (.int (a - b)) H) : OpW W d (t2 (binaryOp .Sub)) [.int a,.int b] H R :=
 OpW.two fun A s K X x y hA hS rx ry => by
  obtain ⟨t,rfl⟩ := Rep.int_iff.mp rx
  obtain ⟨u,rfl⟩ := Rep.int_iff.mp ry
  exact PyProof.Rows.sub_int (post_same hS (Rep.int_iff.mpr ⟨_,rfl⟩) h)
theorem op_mul {a b : Int} (hm : IntMulOk a b) (h : R (.int (a * b)) H) : OpW W d (t2 (binaryOp .Mult)) [.int a,.int b] H R :=
 OpW.two fun A s K X x y hA hS rx ry => by
  obtain ⟨t,rfl⟩ := Rep.int_iff.mp rx
  obtain ⟨u,rfl⟩ := Rep.int_iff.mp ry
  exact PyProof.Rows.mul_int (post_same hS (Rep.int_iff.mpr ⟨_,rfl⟩) h) hm
theorem op_mod {a b : Int} (hb : b ≠ 0) (h : R (.int (a.fmod b)) H) : OpW W d (t2 (binaryOp .Mod)) [.int a,.int b] H R :=
 OpW.two fun A s K X x y hA hS rx ry => by
  obtain ⟨t,rfl⟩ := Rep.int_iff.mp rx
  obtain ⟨u,rfl⟩ := Rep.int_iff.mp ry
  exact PyProof.Rows.mod_int hb (post_same hS (Rep.int_iff.mpr ⟨_,rfl⟩) h)
theorem op_fdiv {a b : Int} (hb : b ≠ 0) (hp : Builtin.divisionGoesByPylong a b = false) (h : R (.int (a.fdiv b)) H) : OpW W d (t2 (binaryOp .FloorDiv)) [.int a,.int b] H R :=
 OpW.two fun A s K X x y hA hS rx ry => by
  obtain ⟨t,rfl⟩ := Rep.int_iff.mp rx
  obtain ⟨u,rfl⟩ := Rep.int_iff.mp ry
  exact PyProof.Rows.floordiv_int hb (post_same hS (Rep.int_iff.mpr ⟨_,rfl⟩) h) (.inl hp)
theorem op_neg {a : Int} (h : R (.int (-a)) H) : OpW W d (t1 (unaryOp .USub)) [.int a] H R :=
 OpW.one fun A s K X x hA hS rx => by
  obtain ⟨t,rfl⟩ := Rep.int_iff.mp rx
  exact PyProof.Rows.neg_int (post_same hS (Rep.int_iff.mpr ⟨_,rfl⟩) h)
theorem op_lt {a b : Int} (h : R (.bool (decide (a < b))) H) : OpW W d (t2 (compareOp .Lt)) [.int a,.int b] H R :=
 OpW.two fun A s K X x y hA hS rx ry => by
  obtain ⟨t,rfl⟩ := Rep.int_iff.mp rx
  obtain ⟨u,rfl⟩ := Rep.int_iff.mp ry
  exact wpAny_lt_int (post_same hS (Rep.bool_iff.mpr rfl) h)
theorem op_le {a b : Int} (h : R (.bool (decide (a ≤ b))) H) : OpW W d (t2 (compareOp .LtE)) [.int a,.int b] H R :=
 OpW.two fun A s K X x y hA hS rx ry => by
  obtain ⟨t,rfl⟩ := Rep.int_iff.mp rx
  obtain ⟨u,rfl⟩ := Rep.int_iff.mp ry
  exact PyProof.Rows.le_int (post_same hS (Rep.bool_iff.mpr rfl) h)
theorem op_gt {a b : Int} (h : R (.bool (decide (b < a))) H) : OpW W d (t2 (compareOp .Gt)) [.int a,.int b] H R :=
 OpW.two fun A s K X x y hA hS rx ry => by
  obtain ⟨t,rfl⟩ := Rep.int_iff.mp rx
  obtain ⟨u,rfl⟩ := Rep.int_iff.mp ry
  exact PyProof.Rows.gt_int (post_same hS (Rep.bool_iff.mpr rfl) h)
theorem op_ge {a b : Int} (h : R (.bool (decide (b ≤ a))) H) : OpW W d (t2 (compareOp .GtE)) [.int a,.int b] H R :=
 OpW.two fun A s K X x y hA hS rx ry => by
  obtain ⟨t,rfl⟩ := Rep.int_iff.mp rx
  obtain ⟨u,rfl⟩ := Rep.int_iff.mp ry
  exact PyProof.Rows.ge_int (post_same hS (Rep.bool_iff.mpr rfl) h)
theorem op_eq {a b : Int} (h : R (.bool (a == b)) H) : OpW W d (t2 (compareOp .Eq)) [.int a,.int b] H R :=
 OpW.two fun A s K X x y hA hS rx ry => by
  obtain ⟨t,rfl⟩ := Rep.int_iff.mp rx
  obtain ⟨u,rfl⟩ := Rep.int_iff.mp ry
  exact PyProof.Rows.eq_int (post_same hS (Rep.bool_iff.mpr rfl) h)
theorem op_ne {a b : Int} (h : R (.bool (a != b)) H) : OpW W d (t2 (compareOp .NotEq)) [.int a,.int b] H R :=
 OpW.two fun A s K X x y hA hS rx ry => by
  obtain ⟨t,rfl⟩ := Rep.int_iff.mp rx
  obtain ⟨u,rfl⟩ := Rep.int_iff.mp ry
  exact PyProof.Rows.ne_int (post_same hS (Rep.bool_iff.mpr rfl) h)
theorem op_eqs {a b : Str} (h : R (.bool (a == b)) H) : OpW W d (t2 (compareOp .Eq)) [.str a,.str b] H R :=
 OpW.two fun A s K X x y hA hS rx ry => by
  obtain ⟨t,rfl⟩ := Rep.str_iff.mp rx
  obtain ⟨u,rfl⟩ := Rep.str_iff.mp ry
  exact PyProof.Rows.eq_str (post_same hS (Rep.bool_iff.mpr rfl) h)
theorem op_nes {a b : Str} (h : R (.bool (a != b)) H) : OpW W d (t2 (compareOp .NotEq)) [.str a,.str b] H R :=
 OpW.two fun A s K X x y hA hS rx ry => by
  obtain ⟨t,rfl⟩ := Rep.str_iff.mp rx
  obtain ⟨u,rfl⟩ := Rep.str_iff.mp ry
  exact PyProof.Rows.ne_str (post_same hS (Rep.bool_iff.mpr rfl) h)
theorem op_eqb {a b : Bool} (h : R (.bool (a == b)) H) : OpW W d (t2 (compareOp .Eq)) [.bool a,.bool b] H R :=
 OpW.two fun A s K X x y hA hS rx ry => by
  obtain rfl := Rep.bool_iff.mp rx
  obtain rfl := Rep.bool_iff.mp ry
  exact PyProof.Rows.eq_bool (post_same hS (Rep.bool_iff.mpr rfl) h)
theorem op_neb {a b : Bool} (h : R (.bool (a != b)) H) : OpW W d (t2 (compareOp .NotEq)) [.bool a,.bool b] H R :=
 OpW.two fun A s K X x y hA hS rx ry => by
  obtain rfl := Rep.bool_iff.mp rx
  obtain rfl := Rep.bool_iff.mp ry
  exact PyProof.Rows.ne_bool (post_same hS (Rep.bool_iff.mpr rfl) h)
def V.isNone : V → Bool | .none => true | .raw v => v == .none | _ => false
theorem rep_none {K : Fz} {x : V} {v : Value} (r : Rep K x v) : (v == Value.none) = x.isNone := by
 cases x <;> simp only [V.isNone]
 case none => rw [Rep.none_iff.mp r]; rfl
 case bool => rw [Rep.bool_iff.mp r]; rfl
 case int => obtain ⟨_,rfl⟩ := Rep.int_iff.mp r; rfl
 case str => obtain ⟨_,rfl⟩ := Rep.str_iff.mp r; rfl
 case bytes => obtain ⟨_,rfl⟩ := Rep.bytes_iff.mp r; rfl
 case tup => obtain ⟨_,_,_,rfl,_⟩ := Rep.tup_iff.mp r; rfl
 case ref => rw [Rep.ref_iff.mp r]; rfl
 case raw => rw [Rep.raw_iff.mp r]
theorem op_is {x : V} (h : R (.bool x.isNone) H) : OpW W d (t2 (compareOp .Is)) [x,.none] H R :=
 OpW.two fun A s K X a b hA hS rx ry => by
  obtain rfl := Rep.none_iff.mp ry
  exact is_none (post_same hS (Rep.bool_iff.mpr rfl) (by rw [rep_none rx]; exact h))
theorem op_isnt {x : V} (h : R (.bool (!x.isNone)) H) : OpW W d (t2 (compareOp .IsNot)) [x,.none] H R :=
 OpW.two fun A s K X a b hA hS rx ry => by
  obtain rfl := Rep.none_iff.mp ry
  exact isNot_none (post_same hS (Rep.bool_iff.mpr rfl) (by rw [rep_none rx]; exact h))
theorem post_freeze {K X : Fz} {s : Shared} {l : List V} {vs : List Value} {n t : Nat} (hS : W.Sat K X H s) (r : Reps K l vs) (h : R (.tup l) H) :
  Post W K X R (.ref s.heap.objs.size) { s with heap := s.heap.push (tupO vs.toArray n),toks := t } := by
 obtain ⟨S',le⟩ := Sat.freeze hS (tupO vs.toArray n) rfl (t := t)
 exact ⟨_,.tup l,H,le,S',Rep.tup_iff.mpr ⟨_,n,vs.toArray,rfl,setF_same,r.le le⟩,h⟩
theorem op_tup {l : List V} (hl : l.length ≤ 1000) (h : R (.tup l) H) : OpW W d newTuple l H R := fun A s K X vs hA hS r => by
 refine wpAny_newTuple (post_freeze hS r h) ?_
 rw [r.length,sizeLine_eq]; omega
theorem post_list {K X : Fz} {s : Shared} {l : List V} {vs : Array Value} {n t : Nat} (hS : W.Sat K X H s) (r : Reps K l vs.toList) (h : ∀ a,H a = none → R (.ref a) (setF H a (.list l))) :
  Post W K X R (.ref s.heap.objs.size) { s with heap := s.heap.push (listO vs n),toks := t } :=
 ⟨K,.ref s.heap.objs.size,_,Le.rfl,Sat.alloc hS (listO vs n) (.list l) (fun _ _ e => nomatch e) (fun D => ⟨vs,n,Heap.get?_push_size _ rfl,r⟩),Rep.ref_iff.mpr rfl,h _ (Sat.fresh hS).2.2⟩
theorem op_lst {l : List V} (hl : l.length ≤ 1000) (h : ∀ a,H a = none → R (.ref a) (setF H a (.list l))) : OpW W d newList l H R := fun A s K X vs hA hS r => by
 refine wpAny_newList (post_list (vs := vs.toArray) (n := 0) hS r h) ?_
 rw [r.length,sizeLine_eq]; omega
theorem Wx.Sat.list {K X : Fz} {s : Shared} {a : Addr} {l : List V} (hS : W.Sat K X H s) (e : H a = some (.list l)) : ∃ vs n,s.heap.get? a = some (listO vs n) ∧ Reps K l vs.toList :=
 let ⟨_,O⟩ := hS.objs; O.at_ _ _ e
theorem isList_of {h : Heap} {a : Addr} {vs : Array Value} {n : Nat} (e : h.get? a = some (listO vs n)) : h.IsList a vs := ⟨_,e,rfl,n,rfl⟩
theorem isTup_of {h : Heap} {a : Addr} {vs : Array Value} {n : Nat} (e : h.get? a = some (tupO vs n)) : IsTup h a vs := ⟨_,e,rfl,n,rfl⟩
theorem reps_size {K : Fz} {l : List V} {vs : Array Value} (r : Reps K l vs.toList) : vs.size = l.length := by rw [← r.length]; simp
def at? (l : List V) (i : Int) : Option V := if i < 0 then (if -(l.length : Int) ≤ i then l[(i + l.length).toNat]? else none) else l[i.toNat]?
theorem op_item {a : Addr} {l : List V} {i : Int} {x : V} (e : H a = some (.list l)) (hi : -1000 ≤ i ∧ i ≤ 1000) (hx : at? l i = some x) (h : R x H) : OpW W d (t2 getItem) [.ref a,.int i] H R :=
 OpW.two fun A s K X p q hA hS rx ry => by
  obtain rfl := Rep.ref_iff.mp rx
  obtain ⟨u,rfl⟩ := Rep.int_iff.mp ry
  obtain ⟨vs,n,e1,r⟩ := hS.list e
  have hs := reps_size r
  unfold at? at hx
  split at hx
  ·split at hx
   ·obtain ⟨v,hv,rv⟩ := r.get _ hx
    refine wpAny_getItem_list_neg (isList_of e1) (by omega) (by rw [hs]; omega) (by omega) (x := v) ?_ (post_same hS rv h)
    rw [hs]; simpa using hv
   ·cases hx
  ·obtain ⟨v,hv,rv⟩ := r.get _ hx
   exact wpAny_getItem_list (isList_of e1) (by omega) (by omega) (x := v) (by simpa using hv) (post_same hS rv h)
theorem op_itemT {l : List V} {i : Int} {x : V} (hi : -1000 ≤ i ∧ i ≤ 1000) (hx : at? l i = some x) (h : R x H) : OpW W d (t2 getItem) [.tup l,.int i] H R :=
 OpW.two fun A s K X p q hA hS rx ry => by
  obtain ⟨a,n,vs,rfl,e1,r⟩ := Rep.tup_iff.mp rx
  obtain ⟨u,rfl⟩ := Rep.int_iff.mp ry
  have hs := reps_size r
  unfold at? at hx
  split at hx
  ·split at hx
   ·obtain ⟨v,hv,rv⟩ := r.get _ hx
    refine PyProof.Rows.getItem_tuple (isTup_of (hS.keep _ _ e1)) (by omega) (by omega) (j := (i + l.length).toNat) (x := v) ?_ (by simpa using hv) (post_same hS rv h)
    rename_i h1 h2
    have := (List.getElem?_eq_some_iff.mp hx).1
    unfold seqIndex?
    simp only [h1,if_true,hs]
    rw [if_pos]
    simp only [Bool.and_eq_true,decide_eq_true_eq]; omega
   ·cases hx
  ·obtain ⟨v,hv,rv⟩ := r.get _ hx
   refine PyProof.Rows.getItem_tuple (isTup_of (hS.keep _ _ e1)) (by omega) (by omega) (j := i.toNat) (x := v) ?_ (by simpa using hv) (post_same hS rv h)
   rename_i h1
   have := (List.getElem?_eq_some_iff.mp hx).1
   unfold seqIndex?
   simp only [h1,if_false,hs]
   rw [if_pos]
   simp only [Bool.and_eq_true,decide_eq_true_eq]; omega
theorem CallW.of_call {f : Value} {args : List V} (h : ∀ A s K X vs,Room d A → W.Sat K X H s → Reps K args vs → wpAny W.M A (PySem.call f vs) (Post W K X R) NoE s) : OpW W d (fun vs => PySem.call f vs) args H R := h
end
def fAll : List Nat := List.range 42
def clsOk (P : Params) : Bool := clsL.all fun C =>
 (findIn (KF P) (.ref C) "__getattribute__" == some (some (.builtin "object.__getattribute__"))) && (findIn (KF P) (.ref C) "__getattr__" == some none) && hasDictIn (KF P) C &&
 (findIn (KF P) (.ref C) "__setattr__" == some (some (.builtin "object.__setattr__"))) && plainOver (KF P) C && makesIn (KF P) C &&
 (flds C).all fun f => (findIn (KF P) (.ref C) (nmOf f) == some none) && Nat.blt f 42
theorem cls_ok (P : Params) : clsOk P = true := by kernel_rfl
theorem fnm_inj : fAll.all (fun i => fAll.all fun j => (nmOf i == nmOf j) == (i == j)) = true := by kernel_rfl
theorem okF_cls {C f : Nat} (h : okF C f = true) : C ∈ clsL := by
 unfold okF at h
 unfold clsL
 unfold flds at h
 split at h <;> first | (cases h; done) | simp
structure ClsF (P : Params) (C : Nat) : Prop where
 ga : findIn (KF P) (.ref C) "__getattribute__" = some (some (.builtin "object.__getattribute__"))
 gt : findIn (KF P) (.ref C) "__getattr__" = some none
 hd : hasDictIn (KF P) C = true
 sa : findIn (KF P) (.ref C) "__setattr__" = some (some (.builtin "object.__setattr__"))
 po : plainOver (KF P) C = true
 mkI : makesIn (KF P) C = true
 fl : ∀ f,okF C f = true → findIn (KF P) (.ref C) (nmOf f) = some none ∧ f < 42
theorem cls_f (P : Params) {C : Nat} (h : C ∈ clsL) : ClsF P C := by
 have := List.all_eq_true.mp (cls_ok P) C h
 simp only [Bool.and_eq_true,beq_iff_eq,List.all_eq_true] at this
 obtain ⟨⟨⟨⟨⟨⟨a1,a2⟩,a3⟩,a4⟩,a5⟩,a6⟩,a7⟩ := this
 refine ⟨a1,a2,a3,a4,a5,a6,fun f hf => ?_⟩
 have := a7 f (by unfold okF at hf; exact List.contains_iff_mem.mp hf)
 exact ⟨this.1,by have := this.2; unfold Nat.blt at this; exact Nat.le_of_ble_eq_true this⟩
theorem nm_inj {i j : Nat} (hi : i < 42) (hj : j < 42) : (nmOf i == nmOf j) = (i == j) := by
 have := List.all_eq_true.mp (List.all_eq_true.mp fnm_inj i (List.mem_range.mpr hi)) j (List.mem_range.mpr hj)
 exact beq_iff_eq.mp this
def look (f : Nat) : List (Nat × V) → Option V
 | [] => none
 | p :: r => if p.1 = f then some p.2 else look f r
def putF (f : Nat) (x : V) : List (Nat × V) → List (Nat × V)
 | [] => [(f,x)]
 | p :: r => if p.1 = f then (f,x) :: r else p :: putF f x r
theorem flds_find {P : Params} {K : Fz} {f : Nat} (hf : f < 42) : ∀ {fs : List (Nat × V)} {es : List DictEntry},Flds P K es fs → (∀ p ∈ fs,p.1 < 42) → ∀ {x},look f fs = some x → ∃ e,es.find? (fun e => e.key.isStr (nmOf f)) = some e ∧ Rep K x e.val
 | (i,y) :: fs,_,⟨e,r,rfl,⟨t,hk⟩,_,hr,h⟩,hl,x,q => by
  have hi : i < 42 := hl _ (.head _)
  unfold look at q
  have hb : e.key.isStr (nmOf f) = (i == f) := by rw [hk]; exact nm_inj hi hf
  rw [List.find?_cons,hb]
  by_cases z : i = f
  ·rw [if_pos z] at q; cases q
   have : (i == f) = true := by rw [z]; simp
   rw [this]; exact ⟨_,rfl,hr⟩
  ·rw [if_neg z] at q
   have : (i == f) = false := by simpa using z
   rw [this]
   exact flds_find hf h (fun p hp => hl p (.tail _ hp)) q
theorem flds_get {P : Params} {K : Fz} {f : Nat} (hf : f < 42) {fs : List (Nat × V)} {es : List DictEntry} (h : Flds P K es fs) (hl : ∀ p ∈ fs,p.1 < 42) {x} (q : look f fs = some x) : ∃ v,getL (nmOf f) es = some (some v) ∧ Rep K x v := by
 obtain ⟨e,h1,h2⟩ := flds_find hf h hl q
 exact ⟨e.val,by unfold getL; rw [h1],h2⟩
theorem flds_put {P : Params} {K : Fz} {f : Nat} {x : V} {v : Value} (hf : f < 42) (hx : Rep K x v) (t : Tok) : ∀ {fs : List (Nat × V)} {es : List DictEntry},Flds P K es fs → (∀ p ∈ fs,p.1 < 42) →
  Flds P K (putL (nmOf f) (PyData.keyHash P (nmOf f)) (.str (nmOf f) t) v es) (putF f x fs)
 | [],_,h,_ => by rw [show (_ : List DictEntry) = [] from h]; exact ⟨_,_,rfl,⟨t,rfl⟩,rfl,hx,rfl⟩
 | (i,y) :: fs,_,⟨e,r,rfl,⟨t',hk⟩,hh,hr,h⟩,hl => by
  have hi : i < 42 := hl _ (.head _)
  unfold putL putF
  have hb : e.key.isStr (nmOf f) = (i == f) := by rw [hk]; exact nm_inj hi hf
  rw [hb]
  by_cases z : i = f
  ·rw [if_pos z]
   have : (i == f) = true := by rw [z]; simp
   rw [if_pos this]
   subst z
   exact ⟨_,_,rfl,⟨t',hk⟩,hh,hx,h⟩
  ·rw [if_neg z]
   have : ¬ (i == f) = true := by simpa using z
   rw [if_neg this]
   exact ⟨_,_,rfl,⟨t',hk⟩,hh,hr,flds_put hf hx t h fun p hp => hl p (.tail _ hp)⟩
theorem flds_len {P : Params} {K : Fz} : ∀ {fs : List (Nat × V)} {es : List DictEntry},Flds P K es fs → es.length = fs.length
 | [],_,h => by rw [show (_ : List DictEntry) = [] from h]; rfl
 | _ :: _,_,⟨e,r,rfl,_,_,_,h⟩ => by simp [flds_len h]
theorem flds_noRef {P : Params} {K : Fz} : ∀ {fs : List (Nat × V)} {es : List DictEntry},Flds P K es fs → es.any (·.refKey) = false
 | [],_,h => by rw [show (_ : List DictEntry) = [] from h]; rfl
 | _ :: _,_,⟨e,r,rfl,⟨t,hk⟩,_,_,h⟩ => by rw [List.any_cons,flds_noRef h]; simp [DictEntry.refKey,hk]
theorem putF_len {f : Nat} {x : V} : ∀ fs : List (Nat × V),(putF f x fs).length ≤ fs.length + 1
 | [] => Nat.le_refl _
 | p :: r => by have := putF_len (f := f) (x := x) r; unfold putF; split <;> simp only [List.length_cons] <;> omega
theorem putF_mem {f : Nat} {x : V} : ∀ {fs : List (Nat × V)} {p : Nat × V},p ∈ putF f x fs → p.1 = f ∨ p ∈ fs
 | [],p,h => by simp [putF] at h; subst h; exact .inl rfl
 | q :: fs,p,h => by
  unfold putF at h
  split at h
  ·rcases List.mem_cons.mp h with rfl | h
   ·exact .inl rfl
   ·exact .inr (.tail _ h)
  ·rcases List.mem_cons.mp h with rfl | h
   ·exact .inr (.head _)
   ·exact (putF_mem h).imp id (.tail _)
def V.hand : V → Bool | .raw v => handedIn v | _ => true
theorem hand_of {K : Fz} {x : V} {v : Value} (r : Rep K x v) (h : x.hand = true) : handedIn v = true := by
 cases x
 case none => rw [Rep.none_iff.mp r]; rfl
 case bool => rw [Rep.bool_iff.mp r]; rfl
 case int => obtain ⟨_,rfl⟩ := Rep.int_iff.mp r; rfl
 case str => obtain ⟨_,rfl⟩ := Rep.str_iff.mp r; rfl
 case bytes => obtain ⟨_,rfl⟩ := Rep.bytes_iff.mp r; rfl
 case tup => obtain ⟨_,_,_,rfl,_⟩ := Rep.tup_iff.mp r; rfl
 case ref => rw [Rep.ref_iff.mp r]; rfl
 case raw => rw [Rep.raw_iff.mp r]; exact h
section
variable {W : Wx} {d : Nat} {H : Hp} {R : V → Hp → Prop}
theorem Wx.frag (W : Wx) {K X : Fz} {s : Shared} {H : Hp} (hS : W.Sat K X H s) : (KF W.w.params).In s.heap := W.says.1.keeps hS.stays
theorem look_mem {f : Nat} {x : V} : ∀ {fs : List (Nat × V)},look f fs = some x → (f,x) ∈ fs
 | p :: r,h => by
  unfold look at h
  split at h
  ·rename_i q; cases h; rw [← q]; exact .head _
  ·exact .tail _ (look_mem h)
theorem instAt_of {h : Heap} {a C dx : Nat} {od : Obj} (h1 : h.get? a = some (instObj C dx)) (h2 : h.get? dx = some od) : InstAt h a (instObj C dx) C (some od) := ⟨h1,rfl,rfl,h2⟩
theorem op_attr {a C f : Nat} {fs : List (Nat × V)} {x : V} (e : H a = some (.inst C fs)) (hx : look f fs = some x) (hh : x.hand = true) (h : R x H) : OpW W d (t1 fun o => getAttr o (nmOf f) true) [.ref a] H R :=
 OpW.one fun A s K X p hA hS rx => by
  obtain rfl := Rep.ref_iff.mp rx
  obtain ⟨D,O⟩ := hS.objs
  obtain ⟨h1,es,n,h2,h3,h4⟩ := O.at_ _ _ e
  have hf := h4 _ (look_mem hx)
  have c := cls_f W.w.params (okF_cls hf)
  have lt : ∀ p ∈ fs,p.1 < 42 := fun p hp => (c.fl _ (h4 p hp)).2
  obtain ⟨v,hv,rv⟩ := flds_get (c.fl _ hf).2 h3 lt hx
  refine get_value (W.frag hS) (instAt_of h1 h2) c.ga (findObj_own c.hd (c.fl _ hf).1 rfl hv) (hand_of rv hh) (post_same hS rv h)
theorem takerIn_none {K : Frag} {C : Addr} {n : Str} (h : findIn K (.ref C) n = some none) : takerIn K C n = some none := by unfold takerIn; rw [h]; rfl
theorem ef_sattr {a C f : Nat} {fs : List (Nat × V)} {x : V} {R : Hp → Prop} (e : H a = some (.inst C fs)) (hf : okF C f = true) (hl : fs.length ≤ 100) (h : R (setF H a (.inst C (putF f x fs)))) :
  EffW W d (u2 fun v o => setAttr o (nmOf f) v) [x,.ref a] H R :=
 EffW.two fun A s K X p q hA hS rx ry => by
  obtain rfl := Rep.ref_iff.mp ry
  obtain ⟨dx,es,n,h1,h2,h3,h4,k⟩ := Sat.updI hS e
  have c := cls_f W.w.params (okF_cls hf)
  have lt : ∀ p ∈ fs,p.1 < 42 := fun p hp => (c.fl _ (h4 p hp)).2
  have X := W.frag hS
  have I := instAt_of h1 h2
  refine set_plain X I c.sa ?_
  have X' : (KF W.w.params).In ({ s with toks := s.toks + 1 } : Shared).heap := X
  refine osa_open (s := { s with toks := s.toks + 1 }) X' I c.po (takerIn_none (c.fl _ hf).1) fun b => ?_
  obtain ⟨cd,hc,hd'⟩ := any_some c.hd
  refine wpAny_bind (wpAny_pure (wpAny_bind (wpAny_bind (wpAny_loadPart h1 (wpAny_bind ((looks_clsIn X' hc).here ?_))))))
  rw [hd']
  refine wpAny_pure (a := some dx) (wpAny_bind (wpAny_pure (wpAny_bind ?_)))
  unfold nsSet
  refine wpAny_bind (wpAny_bind (wpAny_askSetting (wpAny_pure (wpAny_bind (wpAny_mkText (wpAny_bind (wpAny_loadPart h2 ?_)))))))
  have cc : (!(es.toArray).any (·.key.isStr (nmOf f)) && (es.toArray).any (·.refKey)) = false := by
   rw [← Array.any_toList,← Array.any_toList]
   show (_ && es.any (·.refKey)) = false
   rw [flds_noRef h3,Bool.and_false]
  dsimp only
  rw [aRefKeyMayBeTheName_at,cc]
  refine wpAny_updatePart h2 ?_
  have eP := putName_dict (nmOf f) (PyData.keyHash W.w.params (nmOf f)) (.str (nmOf f) (s.toks + 1)) p es n
  have Fl := flds_put (c.fl _ hf).2 rx (s.toks + 1) h3 lt
  have S' := k _ _ _ _ (s.toks + 2) eP Fl (fun p hp => (putF_mem hp).elim (fun q => by rw [q]; exact hf) (h4 p))
  have D' : (s.heap.update dx (Obj.putName (nmOf f) (PyData.keyHash W.w.params (nmOf f)) (.str (nmOf f) (s.toks + 1)) p)).get? dx = some (dictOf (putL (nmOf f) (PyData.keyHash W.w.params (nmOf f)) (.str (nmOf f) (s.toks + 1)) p es) (putN (nmOf f) es n)) := by
   rw [← eP]; exact Heap.get?_update_self _ h2 (by rw [eP]; rfl)
  refine wpAny_bind (wpAny_lookBehind D' ?_ ?_)
  ·refine pastItsLine_dict ?_
   have h5 := flds_len Fl
   have h6 := putF_len (f := f) (x := x) fs
   rw [List.size_toArray,sizeLine_eq]; omega
  ·exact wpAny_pure ⟨K,_,Le.rfl,S',h⟩
end
def gtab : List (Str × V) := [
 (S "clamp",.raw (.ref 62)),
 (S "erased_pen",.raw (.ref 69)),
 (S "blank_cell",.raw (.ref 76)),
 (S "is_blank",.raw (.ref 83)),
 (S "is_plain_blank",.raw (.ref 90)),
 (S "line_blanks",.raw (.ref 98)),
 (S "right_half",.raw (.ref 105)),
 (S "line_part",.raw (.ref 112)),
 (S "reflow_lines_equal",.raw (.ref 487)),
 (S "reflow_used",.raw (.ref 543)),
 (S "reflow_begins_wide",.raw (.ref 550)),
 (S "reflow_part",.raw (.ref 557)),
 (S "reflow_goes_on",.raw (.ref 564)),
 (S "logical_of",.raw (.ref 571)),
 (S "cut_with_places",.raw (.ref 578)),
 (S "reflow_place",.raw (.ref 585)),
 (S "reflow_line",.raw (.ref 592)),
 (S "reflow_cutting",.raw (.ref 655)),
 (S "reflowed",.raw (.ref 662)),
 (S "width_in_ranges",.raw (.ref 678)),
 (S "width_check_ranges",.raw (.ref 685)),
 (S "charset_table",.raw (.ref 831)),
 (S "terminal_fit",.raw (.ref 1496)),
 (S "_law_take",.raw (.ref 1510)),
 (S "_law_screen",.raw (.ref 1517)),
 (S "_law_written",.raw (.ref 1524)),
 (S "_law_group",.raw (.ref 1531)),
 (S "_law_texts",.raw (.ref 1538)),
 (S "_law_laid",.raw (.ref 1545)),
 (S "_law_seen",.raw (.ref 1550)),
 (S "_law_is_so",.raw (.ref 1555)),
 (S "law",.raw (.ref 1560)),
 (S "Line",.raw (.ref 251)),
 (S "Grid",.raw (.ref 396)),
 (S "History",.raw (.ref 478)),
 (S "LogicalLine",.raw (.ref 532)),
 (S "Cutting",.raw (.ref 644)),
 (S "WidthTable",.raw (.ref 716)),
 (S "Modes",.raw (.ref 792)),
 (S "Charsets",.raw (.ref 920)),
 (S "Cursor",.raw (.ref 976)),
 (S "Margins",.raw (.ref 1109)),
 (S "Tabs",.raw (.ref 1208)),
 (S "Screen",.raw (.ref 1485)),
 (S "NO_COLOUR",.int (-1)),
 (S "PLAIN",.tup [.int (0),.int (-1),.int (-1),.int (-1),.int (0)]),
 (S "BACK",.int (2)),
 (S "LINE_SIZES",.tup [.str (S "single"),.str (S "wide"),.str (S "top"),.str (S "bottom")]),
 (S "SINGLE",.str (S "single")),
 (S "LEFT_FIRST",.int (32)),
 (S "LEFT_LAST",.int (127)),
 (S "RIGHT_FIRST",.int (160)),
 (S "RIGHT_LAST",.int (255)),
 (S "ASCII_SET",.bytes #[66]),
 (S "SUPPLEMENT_SET",.bytes #[37,53]),
 (S "FIRST_ON",.tup [.str (S "send_receive"),.str (S "autowrap"),.str (S "autorepeat"),.str (S "show_cursor"),.str (S "num_lock")]),
 (S "TAB_WIDTH",.int (8)),
 (S "WIDE_SIZES",.tup [.str (S "wide"),.str (S "top"),.str (S "bottom")]),
 (S "_law_bare",.tup [.tup [],.int (1),.tup [.int (0),.int (-1),.int (-1),.int (-1),.int (0)],.bool false]),
 (S "_law_looks",.tup [.tup [.int (0),.int (-1),.int (-1),.int (-1),.int (0)],.tup [.int (1),.int (3),.int (-1),.int (-1),.int (0)],.tup [.int (4),.int (-1),.int (-1),.int (5),.int (0)]])]
def mtab : List (Nat × Nat × Nat) := [
 (251,0,162),
 (251,1,169),
 (251,2,248),
 (396,3,274),
 (396,4,288),
 (396,5,293),
 (396,6,300),
 (396,7,307),
 (396,2,388),
 (478,8,442),
 (478,2,475),
 (532,1,508),
 (532,9,515),
 (532,10,522),
 (532,11,529),
 (644,1,613),
 (644,12,620),
 (644,13,634),
 (644,14,641),
 (716,15,706),
 (792,16,782),
 (920,17,853),
 (920,18,860),
 (920,19,910),
 (976,20,966),
 (976,2,973),
 (1109,21,1036),
 (1208,22,1134),
 (1208,23,1169),
 (1208,24,1198),
 (1485,3,1235),
 (1485,25,1242),
 (1485,26,1249),
 (1485,27,1256),
 (1485,28,1263),
 (1485,29,1270),
 (1485,20,1277),
 (1485,30,1284),
 (1485,31,1291),
 (1485,32,1305),
 (1485,33,1312),
 (1485,34,1319),
 (1485,35,1326),
 (1485,36,1333),
 (1485,7,1347),
 (1485,37,1361),
 (1485,38,1375),
 (1485,39,1382),
 (1485,40,1389)]
def itab : List (Nat × Nat) := [(251,140),(396,267),(478,428),(532,501),(644,606),(716,699),(792,775),(920,846),(976,945),(1109,994),(1208,1127),(1485,1228)]
def btab : List (Str × Value) := [(S "len",.builtin "len"),(S "max",.builtin "max"),(S "min",.builtin "min"),(S "all",.builtin "all"),(S "sorted",.builtin "sorted"),(S "list",.type "list"),(S "int",.type "int"),
 (S "range",.type "range"),(S "enumerate",.type "enumerate"),(S "zip",.type "zip")]
structure Cx where
 names : List (Str × NameKind)
 vars : List Str
def place? (l : List Str) (x : Str) : Option Nat := l.findIdx? (· == x)
def fid (x : Str) : Option Nat := place? fnm x
def mid (x : Str) : Option Nat := place? mnm x
def isB (cx : Cx) (x : Str) : Bool := cx.names.lookup x == some .globalImplicit && (gtab.lookup x).isNone && (btab.lookup x).isSome
def compN (cx : Cx) (x : Str) : List I := if x == S "__debug__" || x == S "__classdict__" then [.bad] else match cx.names.lookup x with
 | some .local | some .cell | some .free => (match place? cx.vars x with | some i => [.loc i] | none => [.bad])
 | some .globalImplicit => (match gtab.lookup x with | some v => [.lit v] | none => (match btab.lookup x with | some v => [.lit (.raw v)] | none => [.bad]))
 | _ => [.bad]
def compC : Const → List I
 | .none => [.lit .none] | .bool b => [.lit (.bool b)] | .int i => [.lit (.int i)] | .str s => [.lit (.str s)] | .bytes b => [.lit (.bytes b.toArray)] | _ => [.bad]
def starE : Expr → Bool | .Starred .. => true | _ => false
def nodupB : List Str → Bool | [] => true | x :: r => !r.contains x && nodupB r
def compT0 : Nat → Cx → Expr → List I
 | n + 1,cx,.Name x _ => (match cx.names.lookup x,place? cx.vars x with | some .local,some i => [.sto i] | _,_ => [.bad])
 | n + 1,cx,.Tuple es _ _ => if es.any starE then [.bad] else .unp es.length :: es.flatMap (compT0 n cx)
 | _,_,_ => [.bad]
def cvars (names : List (Str × NameKind)) : List Str := (names.filter fun p => (p.2 == .local && p.1 != S ".0") || p.2 == .free).map (·.1)
def lcOk (cx : Cx) (sc : Scope) : Bool := sc.kind == .function && nodupB (cvars sc.names) && sc.names.all fun p => p.2 != .cell && (p.2 != .local || sc.names.lookup p.1 == some .local) &&
 (p.2 != .free || (sc.names.lookup p.1 == some .free && (place? cx.vars p.1).isSome && (cx.names.lookup p.1 == some .cell || cx.names.lookup p.1 == some .free)))
abbrev Rc := Cx → Expr → List I
def isTest : Expr → Bool | .UnaryOp .Not _ _ | .BoolOp .. => true | _ => false
def isIfExp : Expr → Bool | .IfExp .. => true | _ => false
def compB (rc : Rc) (cx : Cx) (e : Expr) : List I := if isTest e then rc cx e else if isIfExp e then [.bad] else rc cx e ++ [.chk]
def compBs (rc : Rc) (cx : Cx) (op : BoolOp) : List Expr → List I
 | [] => [.bad]
 | e :: r => compB rc cx e ++ (if r.isEmpty then [] else match op with
  | .And => [.ite (compBs rc cx op r) [.lit (.bool false)]]
  | .Or => [.ite [.lit (.bool true)] (compBs rc cx op r)])
def compEs (rc : Rc) (cx : Cx) : List Expr → List I
 | [] => []
 | e :: r => rc cx e ++ compEs rc cx r
def callName : Expr → Option Str | .Name x _ => some x | _ => none
def iterKd (cx : Cx) : Expr → Kd
 | .Call f _ [] _ => (match callName f with
  | some x => if isB cx x then (if x == S "range" then .range else if x == S "enumerate" then .enum else if x == S "zip" then .zip else .plain) else .plain
  | none => .plain)
 | _ => .plain
def isSetE : Expr → Bool | .Set .. => true | _ => false
def iterArgs : Expr → List Expr | .Call _ args _ _ => args | _ => []
def compI (rc : Rc) (cx : Cx) (it : Expr) : List I := match iterKd cx it with
 | .plain => rc cx it
 | _ => compEs rc cx (iterArgs it)
def iterN (cx : Cx) (it : Expr) : Nat := match iterKd cx it with | .plain => 1 | _ => (iterArgs it).length
def isTuple : Expr → Bool | .Tuple .. => true | _ => false
def iterBad (cx : Cx) (t it : Expr) : Bool := match iterKd cx it with
 | .plain => isSetE it
 | .range => (iterArgs it).any starE
 | _ => (iterArgs it).any starE || !isTuple t
def superish : Expr → Bool | .Call (.Name _ _) [] [] _ => true | _ => false
abbrev star : Expr → Bool := starE
def compCall (rc : Rc) (cx : Cx) (f : Expr) (args : List Expr) (pos : Pos) : List I := if args.any star || 28 < args.length then [.bad] else match f with
 | .Attribute o m p => if superish o || p.endLine != pos.line then [.bad] else (match mid m with | some i => rc cx o ++ [.mth i] ++ compEs rc cx args ++ [.call (args.length + 1)] | none => [.bad])
 | _ => rc cx f ++ compEs rc cx args ++ [.call args.length]
def ten9 : Operator → Expr → Expr → Bool
 | .Pow,.Constant (.int a) _ _,.Constant (.int b) _ _ => a == 10 && b == 9
 | _,_,_ => false
def isSet : Expr → Bool | .Set .. => true | _ => false
def compCmp (rc : Rc) (cx : Cx) (l : Expr) (ops : List CmpOp) (cs : List Expr) : List I := if cs.any isSet then [.bad] else match ops,cs with
 | [op],[r] => rc cx l ++ rc cx r ++ [.cmp op]
 | [op,op'],[r,r'] => rc cx l ++ rc cx r ++ [.cmpk op,.ite (rc cx r' ++ [.cmp op']) [.pop,.lit (.bool false)]]
 | _,_ => [.bad]
def compO (rc : Rc) (cx : Cx) : Option Expr → List I | some e => rc cx e | none => [.lit .none]
def keyOf : Option Expr → Option Str | some (.Constant (.str a) _ _) => some a | _ => none
def compD (rc : Rc) (cx : Cx) (ks : List (Option Expr)) (vs : List Expr) : List I := match ks.map keyOf,vs with
 | [],[] => [.dct 0]
 | [some a,some b],[x,y] => [.lit (.str a)] ++ rc cx x ++ [.lit (.str b)] ++ rc cx y ++ [.dct 4]
 | _,_ => [.bad]
def compSub (rc : Rc) (cx : Cx) (o i : Expr) : List I := match i with
 | .Slice l u none _ => rc cx o ++ compO rc cx l ++ compO rc cx u ++ [.slc]
 | .Slice .. => [.bad]
 | _ => rc cx o ++ rc cx i ++ [.idx]
abbrev lcVars (cx : Cx) (sc : Scope) : List (Option Nat) := (cvars sc.names).map fun x => if sc.names.lookup x == some .free then place? cx.vars x else none
def compL (rc : Rc) (cx : Cx) (e : Expr) (gs : List Comprehension) (sc : Scope) : List I := match gs with
 | [⟨t,it,[],0⟩] => if iterBad cx t it || !lcOk cx sc then [.bad] else .has (lcVars cx sc) :: compI rc cx it ++ [.lc (iterKd cx it) (iterN cx it) (lcVars cx sc) (compT0 8 ⟨sc.names,cvars sc.names⟩ t) (rc ⟨sc.names,cvars sc.names⟩ e)]
 | _ => [.bad]
def stepE (rc : Rc) (cx : Cx) (e : Expr) : List I := match e with
 | .Constant c _ _ => compC c
 | .Name x _ => compN cx x
 | .Attribute e f _ => if superish e then [.bad] else (match fid f with | some i => rc cx e ++ [.attr i] | none => [.bad])
 | .Call f args kws pos => if kws.isEmpty then compCall rc cx f args pos else [.bad]
 | .BinOp l op r _ => if ten9 op l r then [.lit (.int 1000000000)] else rc cx l ++ rc cx r ++ [.bin op]
 | .UnaryOp op e _ => (match op with | .USub => rc cx e ++ [.neg] | .Not => compB rc cx e ++ [.notb] | _ => [.bad])
 | .BoolOp op vs _ => compBs rc cx op vs
 | .Compare l ops cs _ => compCmp rc cx l ops cs
 | .IfExp t a b _ => compB rc cx t ++ [.ite (rc cx a) (rc cx b)]
 | .Tuple es _ _ => if es.any star then [.bad] else compEs rc cx es ++ [.tup es.length]
 | .List es _ => if es.any star then [.bad] else compEs rc cx es ++ [.lst es.length]
 | .Dict ks vs _ => compD rc cx ks vs
 | .Subscript o i _ => compSub rc cx o i
 | .ListComp e gs sc _ => compL rc cx e gs sc
 | _ => [.bad]
def compE : Nat → Rc
 | 0 => fun _ _ => [.bad]
 | n + 1 => stepE (compE n)
def compT (rc : Rc) (cx : Cx) (t : Expr) : List I := match t with
 | .Attribute o f _ => (match fid f with | some i => rc cx o ++ [.sattr i] | none => [.bad])
 | .Subscript o i _ => (match i with | .Slice .. => [.bad] | _ => rc cx o ++ rc cx i ++ [.sidx])
 | t => compT0 8 cx t
def compTs (rc : Rc) (cx : Cx) : List Expr → List I
 | [] => []
 | t :: r => compT rc cx t ++ compTs rc cx r
def compA (rc : Rc) (cx : Cx) (t : Expr) : List I := match t with
 | .Tuple es _ _ => if es.any starE then [.bad] else .unp es.length :: compTs rc cx es
 | t => compT rc cx t
def isComp : Expr → Bool | .ListComp .. | .SetComp .. | .DictComp .. => true | _ => false
def threes : Expr → Expr → Bool | .Tuple ts _ _,.Tuple vs _ _ => ts.length == 3 || (vs.all (constantsAlone 8) && !vs.all (foldedForSure 8)) | .List ..,_ => true | _,_ => false
def lcBad (cx : Cx) : Expr → Expr → Bool | .Name y _,.ListComp .. => !(cx.names.lookup y == some .local && (place? cx.vars y).isSome) | _,_ => false
abbrev Sc := Cx → Stmt → List I
def compSs (sc : Sc) (cx : Cx) : List Stmt → List I
 | [] => []
 | s :: r => sc cx s ++ compSs sc cx r
def stepS (rc : Rc) (sc : Sc) (cx : Cx) (s : Stmt) : List I := match s with
 | .Assign ts v _ => (match ts with | [t] => if threes t v || lcBad cx t v then [.bad] else rc cx v ++ compA rc cx t | _ => [.bad])
 | .Expr e _ => if isComp e then [.bad] else rc cx e ++ [.pop]
 | .Return v _ => compO rc cx v ++ [.ret]
 | .If t b e _ => compB rc cx t ++ [.ite (compSs sc cx b) (compSs sc cx e)]
 | .While t b e _ => if e.isEmpty then [.whl (compB rc cx t) (compSs sc cx b)] else [.bad]
 | .For t it b e _ => if e.isEmpty && !iterBad cx t it then compI rc cx it ++ [.fr (iterKd cx it) (iterN cx it) (compT0 8 cx t) (compSs sc cx b)] else [.bad]
 | .Pass _ => []
 | _ => [.bad]
def compS : Nat → Sc
 | 0 => fun _ _ => [.bad]
 | n + 1 => stepS (compE 20) (compS n)
def cxOf (st : Stmt) : Cx := ⟨(dScope st).names,((dScope st).names.filter fun p => p.2 == .local || p.2 == .cell).map (·.1)⟩
def codeAt (i j : Nat) : List I := compSs (compS 12) (cxOf (dg i j)) (dBody (dg i j))
mutual
def chkV (F : Frag) : V → Value → Bool
 | .none,.none => true
 | .bool b,.bool c => b == c
 | .int i,.int j _ => i == j
 | .str s,.str u _ => s == u
 | .bytes s,.bytes u _ => s == u
 | .tup l,.ref a => (match F.lookup a with | some ⟨.type T,none,.seq vs _,sl⟩ => T == "tuple" && sl.isEmpty && chkVs F l vs.toList | _ => false)
 | .raw w,v => v == w
 | _,_ => false
def chkVs (F : Frag) : List V → List Value → Bool
 | [],[] => true
 | x :: l,v :: r => chkV F x v && chkVs F l r
 | _,_ => false
end
mutual
theorem chkV_rep {F : Frag} {K : Fz} (h : ∀ a o,F.lookup a = some o → K a = some o) : ∀ (x : V) (v : Value),chkV F x v = true → Rep K x v
 | .none,v,e => by cases v <;> first | exact Rep.none_iff.mpr rfl | (simp [chkV] at e)
 | .bool b,v,e => by cases v <;> first | (simp [chkV] at e; done) | (simp only [chkV,beq_iff_eq] at e; rw [e]; exact Rep.bool_iff.mpr rfl)
 | .int b,v,e => by cases v <;> first | (simp [chkV] at e; done) | (simp only [chkV,beq_iff_eq] at e; rw [e]; exact Rep.int_iff.mpr ⟨_,rfl⟩)
 | .str b,v,e => by cases v <;> first | (simp [chkV] at e; done) | (simp only [chkV,beq_iff_eq] at e; rw [e]; exact Rep.str_iff.mpr ⟨_,rfl⟩)
 | .bytes b,v,e => by cases v <;> first | (simp [chkV] at e; done) | (simp only [chkV,beq_iff_eq] at e; rw [e]; exact Rep.bytes_iff.mpr ⟨_,rfl⟩)
 | .tup l,v,e => by
  cases v <;> first | (simp [chkV] at e; done) | skip
  rename_i a
  unfold chkV at e
  split at e
  ·rename_i T vs n sl hl
   simp only [Bool.and_eq_true,beq_iff_eq] at e
   obtain ⟨⟨rfl,e2⟩,e3⟩ := e
   have : sl = #[] := by simpa using e2
   subst this
   exact Rep.tup_iff.mpr ⟨a,n,vs,rfl,h _ _ hl,chkVs_rep h l _ e3⟩
  ·cases e
 | .ref _,v,e => by cases v <;> simp [chkV] at e
 | .raw w,v,e => by
  have : v = w := by cases v <;> (unfold chkV at e; exact beq_iff_eq.mp e)
  exact Rep.raw_iff.mpr this
theorem chkVs_rep {F : Frag} {K : Fz} (h : ∀ a o,F.lookup a = some o → K a = some o) : ∀ (l : List V) (vs : List Value),chkVs F l vs = true → Reps K l vs
 | [],vs,e => by cases vs <;> first | exact Reps.nil | (simp [chkVs] at e)
 | x :: l,vs,e => by
  cases vs with
  | nil => simp [chkVs] at e
  | cons v r =>
   simp only [chkVs,Bool.and_eq_true] at e
   exact Reps.cons (chkV_rep h x v e.1) (chkVs_rep h l r e.2)
end
def gOk (P : Params) : Bool := gtab.all fun p => match nsIn (KF P) mainGlobals p.1 with | some (some v) => chkV (KF P) p.2 v | _ => false
theorem g_ok (P : Params) : gOk P = true := by kernel_rfl
def bOk (P : Params) : Bool := btab.all fun p => nsIn (KF P) mainGlobals p.1 == some none && bootBuiltins p.1 == some p.2 && p.1 != "__name__"
theorem b_ok (P : Params) : bOk P = true := by kernel_rfl
section
variable {W : Wx} {P : Params}
theorem lookup_mem {α : Type} {x : Str} {y : α} : ∀ {l : List (Str × α)},l.lookup x = some y → (x,y) ∈ l
 | (a,b) :: r,h => by
  rw [List.lookup_cons] at h
  split at h
  ·rename_i q; cases h; rw [beq_iff_eq.mp q]; exact .head _
  ·exact .tail _ (lookup_mem h)
theorem gtab_sound {x : Str} {y : V} (h : gtab.lookup x = some y) (P : Params) : ∃ v,nsIn (KF P) mainGlobals x = some (some v) ∧ chkV (KF P) y v = true := by
 have := List.all_eq_true.mp (g_ok P) _ (lookup_mem h)
 split at this
 ·rename_i v q; exact ⟨v,q,this⟩
 ·cases this
theorem btab_sound {x : Str} {y : Value} (h : btab.lookup x = some y) (P : Params) : nsIn (KF P) mainGlobals x = some none ∧ bootBuiltins x = some y ∧ x ≠ "__name__" := by
 have := List.all_eq_true.mp (b_ok P) _ (lookup_mem h)
 simp only [Bool.and_eq_true,beq_iff_eq,bne_iff_ne] at this
 exact ⟨this.1.1,this.1.2,this.2⟩
def KNs (K : Fz) (L : Addr) (m : Str → Option Value) : Prop := ∃ o es ep,K L = some o ∧ o.data = .dict es ep ∧ StrKeys es ∧ ∀ n,nsFind es n = m n
def SlotOk (K X : Fz) (env : Env) (m : Str → Option Value) (x : Str) : Option V → Prop
 | none => True
 | some y => match env.scope.names.lookup x with
  | some .local => ∃ v,m x = some v ∧ Rep K y v
  | some .cell | some .free => ∃ c oc v,env.cells.lookup x = some c ∧ X c = some oc ∧ oc.data = .cell (some v) ∧ Rep K y v
  | _ => False
structure FrOk (W : Wx) (K X : Fz) (cx : Cx) (env : Env) (ρ : Ro) : Prop where
 names : ∀ x,env.scope.names.lookup x = cx.names.lookup x ∨ (cx.names.lookup x = some .free ∧ env.scope.names.lookup x = some .cell)
 kind : env.scope.kind = .function
 glob : env.globals = mainGlobals
 blt : env.builtins = builtinsNs
 nd : cx.vars.Nodup
 len : ρ.length = cx.vars.length
 ns : ∃ m,KNs X env.locals m ∧ ∀ (i : Nat) (x : Str),cx.vars[i]? = some x → SlotOk K X env m x (ρ[i]?.join)
 base : W.h₀.get? env.locals = none
theorem SlotOk.le {K K' X : Fz} {env : Env} {m : Str → Option Value} {x : Str} {y : Option V} (h : Le K K') (s : SlotOk K X env m x y) : SlotOk K' X env m x y := by
 cases y with
 | none => trivial
 | some y =>
  unfold SlotOk at s ⊢
  cases q : env.scope.names.lookup x with
  | none => rw [q] at s; exact s
  | some kd =>
   rw [q] at s
   cases kd with
   | «local» => obtain ⟨v,a,b⟩ := s; exact ⟨v,a,b.le h⟩
   | cell => obtain ⟨c,oc,v,a,b,e,r⟩ := s; exact ⟨c,oc,v,a,b,e,r.le h⟩
   | free => obtain ⟨c,oc,v,a,b,e,r⟩ := s; exact ⟨c,oc,v,a,b,e,r.le h⟩
   | globalExplicit => exact s
   | globalImplicit => exact s
theorem FrOk.le {K K' X : Fz} {cx : Cx} {env : Env} {ρ : Ro} (h : Le K K') (F : FrOk W K X cx env ρ) : FrOk W K' X cx env ρ :=
 let ⟨m,⟨o,es,ep,a,b⟩,c⟩ := F.ns
 ⟨F.names,F.kind,F.glob,F.blt,F.nd,F.len,⟨m,⟨o,es,ep,a,b⟩,fun i x q => (c i x q).le h⟩,F.base⟩
theorem SlotOk.leX {K X X' : Fz} {env : Env} {m : Str → Option Value} {x : Str} {y : Option V} (h : Le X X') (s : SlotOk K X env m x y) : SlotOk K X' env m x y := by
 cases y with
 | none => trivial
 | some y =>
  unfold SlotOk at s ⊢
  cases q : env.scope.names.lookup x with
  | none => rw [q] at s; exact s
  | some kd =>
   rw [q] at s
   cases kd with
   | «local» => exact s
   | cell => obtain ⟨c,oc,v,a,b,e,r⟩ := s; exact ⟨c,oc,v,a,h _ _ b,e,r⟩
   | free => obtain ⟨c,oc,v,a,b,e,r⟩ := s; exact ⟨c,oc,v,a,h _ _ b,e,r⟩
   | globalExplicit => exact s
   | globalImplicit => exact s
theorem FrOk.leX {W : Wx} {K X X' : Fz} {cx : Cx} {env : Env} {ρ : Ro} (h : Le X X') (F : FrOk W K X cx env ρ) : FrOk W K X' cx env ρ :=
 let ⟨m,⟨o,es,ep,a,b⟩,c⟩ := F.ns
 ⟨F.names,F.kind,F.glob,F.blt,F.nd,F.len,⟨m,⟨o,es,ep,h _ _ a,b⟩,fun i x q => (c i x q).leX h⟩,F.base⟩
theorem KNs.ns {K X : Fz} {L : Addr} {m : Str → Option Value} {H : Hp} {s : Shared} (h : KNs X L m) (hS : W.Sat K X H s) : s.heap.Ns L m :=
 let ⟨o,es,ep,a,b⟩ := h; ⟨o,es,ep,hS.keepX _ _ a,b⟩
def SE (W : Wx) (rc : Rc) : Prop := ∀ d cx e k st ρ H Q,Run W d (rc cx e ++ k) st ρ H Q → ∀ A s K X env,Room d A → W.Sat K X H s → FrOk W K X cx env ρ →
 wpAny W.M A (eval e env) (Post W K X fun x H' => Run W d k (x :: st) ρ H' Q) NoE s
def ST (W : Wx) (rc : Rc) : Prop := ∀ d cx e k st ρ H Q,Run W d (compB rc cx e ++ k) st ρ H Q → ∀ A s K X env,Room d A → W.Sat K X H s → FrOk W K X cx env ρ →
 wpAny W.M A (isTrue e env (eval e env)) (fun b s' => ∃ K' H',Le K K' ∧ W.Sat K' X H' s' ∧ Run W d k (.bool b :: st) ρ H' Q) NoE s
theorem place_get {l : List Str} {x : Str} {i : Nat} (h : place? l x = some i) : l[i]? = some x := by
 unfold place? at h
 obtain ⟨a,b,_⟩ := List.findIdx?_eq_some_iff_getElem.mp h
 rw [List.getElem?_eq_getElem a,beq_iff_eq.mp b]
theorem join_some {α : Type} {o : Option (Option α)} {a : α} (h : o = some (some a)) : o.join = some a := by rw [h]; rfl
theorem se_name {d cx x k st ρ H Q pos} (h : Run W d (compN cx x ++ k) st ρ H Q) {A s K env} (hS : W.Sat K X H s) (F : FrOk W K X cx env ρ) :
  wpAny W.M A (eval (.Name x pos) env) (Post W K X fun y H' => Run W d k (y :: st) ρ H' Q) NoE s := by
 unfold compN at h
 split at h
 ·cases h
 rename_i hx
 simp only [Bool.or_eq_true,beq_iff_eq,not_or] at hx
 have hd : (x == ("__debug__" : Str)) = false := beq_eq_false_iff_ne.mpr hx.1
 have hc : (x == ("__classdict__" : Str)) = false := beq_eq_false_iff_ne.mpr hx.2
 have kd0 : cx.names.lookup x ≠ some .free → env.scope.names.lookup x = cx.names.lookup x := fun n => (F.names x).resolve_right fun q => n q.1
 have kd : cx.names.lookup x ≠ some .free → env.kindOf x = cx.names.lookup x := kd0
 have slot : ∀ i,place? cx.vars x = some i → ∀ y,ρ[i]? = some (some y) → ∃ m,KNs X env.locals m ∧ SlotOk K X env m x (some y) := fun i hi y hy => by
  obtain ⟨m,h1,h2⟩ := F.ns
  have := h2 i x (place_get hi)
  rw [join_some hy] at this
  exact ⟨m,h1,this⟩
 split at h
 case h_1 q =>
  split at h
  ·rename_i i hi
   rw [List.singleton_append] at h
   cases h
   rename_i y hy hr
   obtain ⟨m,h1,h2⟩ := slot i hi y hy
   unfold SlotOk at h2
   rw [(kd0 (by rw [q]; simp)).trans q] at h2
   obtain ⟨v,hv,rv⟩ := h2
   exact wpAny_Name (wpAny_loadName_local F.kind ((kd (by rw [q]; simp)).trans q) (h1.ns hS) hv (post_same hS rv hr)) hd
  ·cases h
 case h_2 q =>
  split at h
  ·rename_i i hi
   rw [List.singleton_append] at h
   cases h
   rename_i y hy hr
   obtain ⟨m,h1,h2⟩ := slot i hi y hy
   unfold SlotOk at h2
   rw [(kd0 (by rw [q]; simp)).trans q] at h2
   obtain ⟨c,oc,v,e1,e2,e3,rv⟩ := h2
   exact wpAny_Name (wpAny_loadName_cell F.kind ((kd (by rw [q]; simp)).trans q) e1 ⟨oc,hS.keepX _ _ e2,e3⟩ (post_same hS rv hr)) hd
  ·cases h
 case h_3 q =>
  split at h
  ·rename_i i hi
   rw [List.singleton_append] at h
   cases h
   rename_i y hy hr
   obtain ⟨m,h1,h2⟩ := slot i hi y hy
   unfold SlotOk at h2
   rcases F.names x with q' | ⟨_,q'⟩
   ·rw [q'.trans q] at h2
    obtain ⟨c,oc,v,e1,e2,e3,rv⟩ := h2
    exact wpAny_Name (wpAny_loadName_free F.kind (q'.trans q) e1 ⟨oc,hS.keepX _ _ e2,e3⟩ (post_same hS rv hr) hc) hd
   ·rw [q'] at h2
    obtain ⟨c,oc,v,e1,e2,e3,rv⟩ := h2
    exact wpAny_Name (wpAny_loadName_cell F.kind q' e1 ⟨oc,hS.keepX _ _ e2,e3⟩ (post_same hS rv hr)) hd
  ·cases h
 case h_4 q =>
  have hT := W.top.keeps hS.stays
  split at h
  ·rename_i y hy
   rw [List.singleton_append] at h
   cases h
   rename_i hr
   obtain ⟨v,e1,e2⟩ := gtab_sound hy W.w.params
   refine Name_function_global F.kind ((kd (by rw [q]; simp)).trans q) (loadGlobal_global (by rw [F.glob]; exact hT.g) (mg_of (W.frag hS) hT.g e1) (post_same hS ?_ hr)) hd
   exact chkV_rep (fun a o e => hS.base _ _ (W.says.1 a o e)) _ _ e2
  ·split at h
   ·rename_i y hy
    rw [List.singleton_append] at h
    cases h
    rename_i hr
    obtain ⟨e1,e2,e3⟩ := btab_sound hy W.w.params
    exact Name_function_global F.kind ((kd (by rw [q]; simp)).trans q) (loadGlobal_builtin (by rw [F.glob]; exact hT.g) (mg_none_of (W.frag hS) hT.g e1) (by rw [F.blt]; exact hT.b) ((W.top.builtins x e3).trans e2) (post_same hS (Rep.raw_iff.mpr rfl) hr)) hd
   ·cases h
 case h_5 => cases h
theorem se_const {d c kk k st ρ H Q pos} (h : Run W d (compC c ++ k) st ρ H Q) {A s K env} (hS : W.Sat K X H s) :
  wpAny W.M A (eval (.Constant c kk pos) env) (Post W K X fun y H' => Run W d k (y :: st) ρ H' Q) NoE s := by
 unfold compC at h
 split at h <;> rw [List.singleton_append] at h <;> cases h <;> rename_i hr
 ·exact fun _ _ _ => post_same hS (Rep.none_iff.mpr rfl) hr
 ·exact fun _ _ _ => post_same hS (Rep.bool_iff.mpr rfl) hr
 ·exact fun _ _ _ => post_same hS (Rep.int_iff.mpr ⟨_,rfl⟩) hr
 ·exact fun _ _ _ => post_same hS (Rep.str_iff.mpr ⟨_,rfl⟩) hr
 ·exact fun _ _ _ => post_same hS (Rep.bytes_iff.mpr ⟨_,rfl⟩) hr
end
theorem callee_ok (P : Params) : (calleeL.all fun a => keepIn (KF P) (.ref a)) = true := by kernel_rfl
theorem base_plain {o : Expr} {f : Str} {env : Env} {w : Sem Value} (h : superish o = false) : attributeBase o f env w = w := by
 unfold attributeBase
 split
 ·simp [superish] at h
 ·rfl
theorem fid_nm {f : Str} {i : Nat} (h : fid f = some i) : nmOf i = f := by unfold nmOf; rw [place_get h]; rfl
theorem mid_nm {f : Str} {i : Nat} (h : mid f = some i) : mnOf i = f := by unfold mnOf; rw [place_get h]; rfl
section
variable {W : Wx} {rc : Rc} {d : Nat} {cx : Cx} {k : List I} {st : List V} {ρ : Ro} {H : Hp} {Q : Out → Prop} {A : Around} {s : Shared} {K X : Fz} {env : Env}
theorem Post.up {K K' X : Fz} {R : V → Hp → Prop} {v : Value} (h : Le K K') (p : Post W K' X R v s) : Post W K X R v s := let ⟨K2,x,H',a,b⟩ := p; ⟨K2,x,H',h.trans a,b⟩
theorem Post.mono {R R' : V → Hp → Prop} {v : Value} (p : Post W K X R v s) (h : ∀ x H',R x H' → R' x H') : Post W K X R' v s := let ⟨K2,x,H',a,b,c,e⟩ := p; ⟨K2,x,H',a,b,c,h _ _ e⟩
abbrev PR (W : Wx) (d : Nat) (k : List I) (st : List V) (ρ : Ro) (Q : Out → Prop) (K X : Fz) (v : Value) (s' : Shared) : Prop := Post W K X (fun x H' => Run W d k (x :: st) ρ H' Q) v s'
theorem bindP {α : Type} {t : Sem Value} {f : Value → Sem α} {R : V → Hp → Prop} {Q' : α → Shared → Prop} (h : wpAny W.M A t (Post W K X R) NoE s) (g : ∀ v s' K' x H',Le K K' → W.Sat K' X H' s' → Rep K' x v → R x H' → wpAny W.M A (f v) Q' NoE s') : wpAny W.M A (t >>= f) Q' NoE s :=
 wpAny_bind (wpAny_mono h (fun v s' ⟨K',x,H',a,b,c,e⟩ => g v s' K' x H' a b c e) fun _ _ e => e)
theorem se_attr (ih : SE W rc) {e f pos} (h : Run W d ((if superish e then [.bad] else match fid f with | some i => rc cx e ++ [.attr i] | none => [.bad]) ++ k) st ρ H Q) (hA : Room d A) (hS : W.Sat K X H s) (F : FrOk W K X cx env ρ) :
  wpAny W.M A (eval (.Attribute e f pos) env) (PR W d k st ρ Q K X) NoE s := by
 split at h
 ·cases h
 rename_i hs
 split at h
 ·rename_i i hi
  rw [List.append_assoc,List.singleton_append] at h
  rw [arm_eval_Attribute]
  rw [base_plain (by simpa using hs)]
  refine bindP (ih _ _ _ _ _ _ _ _ h _ _ _ _ _ hA hS F) fun v s' K' x H' le hS' rv hr => wpAny_bind (wpAny_standAt (wpAny_bind (wpAny_holding ?_)))
  cases hr
  rename_i hop hk
  have := hop A s' K' _ [v] hA hS' (Reps.cons rv Reps.nil)
  rw [fid_nm hi] at this
  exact wpAny_mono this (fun r s'' p => wpAny_bind (wpAny_letTemporaryGo (wpAny_pure ((p.up le).mono hk)))) fun _ _ e => e
 ·cases h
theorem ten_pow {s : Shared} {t u : Tok} {R : V → Hp → Prop} (hS : W.Sat K X H s) (h : R (.int 1000000000) H) : wpAny W.M A (binaryOp .Pow (.int 10 t) (.int 9 u)) (Post W K X R) NoE s := by
 refine AutoIntOps.pow_4 (by decide) (by decide) (by decide) (by decide) (by decide +kernel) ?_
 exact post_same hS (Rep.int_iff.mpr ⟨_,rfl⟩) h
theorem const_int {i : Int} {kk : Nat} {pos : Pos} {s : Shared} {Q' : Value → Shared → Prop} (h : Q' (.int i s.toks) { s with toks := s.toks + 1 }) : wpAny W.M A (eval (.Constant (.int i) kk pos) env) Q' NoE s := fun _ _ _ => h
theorem se_bin (ih : SE W rc) {l r op pos} (h : Run W d ((if ten9 op l r then [.lit (.int 1000000000)] else rc cx l ++ rc cx r ++ [.bin op]) ++ k) st ρ H Q) (hA : Room d A) (hS : W.Sat K X H s) (F : FrOk W K X cx env ρ) :
  wpAny W.M A (eval (.BinOp l op r pos) env) (PR W d k st ρ Q K X) NoE s := by
 split at h
 ·rename_i q
  rw [List.singleton_append] at h
  cases h
  rename_i hr
  unfold ten9 at q
  split at q
  ·simp only [Bool.and_eq_true,beq_iff_eq] at q
   obtain ⟨rfl,rfl⟩ := q
   rw [arm_eval_BinOp]
   refine wpAny_bind (const_int (wpAny_bind (wpAny_holding (const_int (wpAny_bind (wpAny_standAt (wpAny_operateT ?_)))))))
   have S2 : W.Sat K X H { heap := s.heap,gens := s.gens,drawn := s.drawn,toks := s.toks + 1 + 1,os := s.os } := Sat.of_heap hS rfl rfl rfl
   exact ten_pow S2 hr
  ·cases q
 ·simp only [List.append_assoc,List.singleton_append] at h
  rw [arm_eval_BinOp]
  refine bindP (ih _ _ _ _ _ _ _ _ h _ _ _ _ _ hA hS F) fun v s' K' x H' le hS' rv hr => ?_
  refine wpAny_bind (wpAny_holding (wpAny_mono (ih _ _ _ _ _ _ _ _ hr _ _ _ _ _ hA hS' (F.le le)) (fun v2 s2 ⟨K2,x2,H2,le2,hS2,rv2,hr2⟩ => ?_) fun _ _ e => e))
  refine wpAny_bind (wpAny_standAt (wpAny_operateT ?_))
  cases hr2
  rename_i hop hk
  exact wpAny_mono (hop A s2 K2 _ [v,v2] hA hS2 (Reps.cons (rv.le le2) (Reps.cons rv2 Reps.nil))) (fun r s'' p => (p.up (le.trans le2)).mono hk) fun _ _ e => e
theorem se_all (ih : SE W rc) {pos : Pos} : ∀ {es : List Expr} {st ρ H} {K X : Fz} {s : Shared},es.any star = false → Run W d (compEs rc cx es ++ k) st ρ H Q → Room d A → W.Sat K X H s → FrOk W K X cx env ρ →
  wpAny W.M A (spliced (backTo pos (starEach es env))) (fun vs s' => ∃ K' H' l,Le K K' ∧ W.Sat K' X H' s' ∧ Reps K' l vs ∧ l.length = es.length ∧ Run W d k (l.reverse ++ st) ρ H' Q) NoE s
 | [],st,ρ,H,K,X,s,_,h,hA,hS,F => by
  rw [arm_starEach_nil]
  exact wpAny_pure ⟨K,H,[],Le.rfl,hS,Reps.nil,rfl,by simpa [compEs] using h⟩
 | e :: es,st,ρ,H,K,X,s,hst,h,hA,hS,F => by
  simp only [List.any_cons,Bool.or_eq_false_iff] at hst
  have he : starEach (e :: es) env = (false,eval e env) :: starEach es env := by
   cases e <;> first | rfl | (exact absurd hst.1 (by simp [star,starE]))
  rw [he]
  unfold compEs at h
  rw [List.append_assoc] at h
  show wpAny _ _ (spliced ((false,eval e env) :: backTo pos (starEach es env))) _ _ _
  unfold spliced
  refine bindP (ih _ _ _ _ _ _ _ _ h _ _ _ _ _ hA hS F) fun v s' K' x H' le hS' rv hr => ?_
  refine wpAny_bind (wpAny_pure ?_)
  refine wpAny_bind (wpAny_holding (wpAny_mono (se_all ih hst.2 hr hA hS' (F.le le)) (fun vs s2 ⟨K2,H2,l,le2,hS2,rl,hl,hr2⟩ => ?_) fun _ _ e => e))
  exact wpAny_pure ⟨K2,H2,x :: l,le.trans le2,hS2,Reps.cons (rv.le le2) rl,by simp [hl],by simpa using hr2⟩
theorem se_tup (ih : SE W rc) {es kk pos} (h : Run W d ((if es.any star then [.bad] else compEs rc cx es ++ [.tup es.length]) ++ k) st ρ H Q) (hA : Room d A) (hS : W.Sat K X H s) (F : FrOk W K X cx env ρ) :
  wpAny W.M A (eval (.Tuple es kk pos) env) (PR W d k st ρ Q K X) NoE s := by
 split at h
 ·cases h
 rename_i hst
 rw [List.append_assoc,List.singleton_append] at h
 rw [arm_eval_Tuple]
 refine wpAny_bind (wpAny_standAt (wpAny_bind (wpAny_mono (se_all ih (by simpa using hst) h hA hS F) (fun vs s2 ⟨K2,H2,l,le2,hS2,rl,hl,hr2⟩ => ?_) fun _ _ e => e)))
 cases hr2
 rename_i l' h1 h2 h3 h4
 obtain ⟨e1,rfl⟩ := List.append_inj h3 (by simp [hl,h1])
 have e1 := List.reverse_inj.mp e1
 subst e1
 exact wpAny_newTuple ((post_freeze hS2 rl h4).up le2) (by rw [rl.length,sizeLine_eq]; omega)
theorem se_lst (ih : SE W rc) {es pos} (h : Run W d ((if es.any star then [.bad] else compEs rc cx es ++ [.lst es.length]) ++ k) st ρ H Q) (hA : Room d A) (hS : W.Sat K X H s) (F : FrOk W K X cx env ρ) :
  wpAny W.M A (eval (.List es pos) env) (PR W d k st ρ Q K X) NoE s := by
 split at h
 ·cases h
 rename_i hst
 rw [List.append_assoc,List.singleton_append] at h
 rw [arm_eval_List]
 refine wpAny_bind (wpAny_standAt (wpAny_bind (wpAny_mono (se_all ih (by simpa using hst) h hA hS F) (fun vs s2 ⟨K2,H2,l,le2,hS2,rl,hl,hr2⟩ => ?_) fun _ _ e => e)))
 cases hr2
 rename_i l' h1 h2 h3 h4
 obtain ⟨e1,rfl⟩ := List.append_inj h3 (by simp [hl,h1])
 have e1 := List.reverse_inj.mp e1
 subst e1
 exact wpAny_newList ((post_list (vs := vs.toArray) (n := 0) hS2 rl h4).up le2) (by rw [rl.length,sizeLine_eq]; omega)
theorem truthy_b {b : Bool} {Q : Bool → Shared → Prop} (h : Q b s) : wpAny W.M A (truthy (.bool b)) Q NoE s := fun _ _ _ => h
theorem se_not (ih : SE W rc) (it : ST W rc) {e pos} (h : Run W d (compB rc cx e ++ [.notb] ++ k) st ρ H Q) (hA : Room d A) (hS : W.Sat K X H s) (F : FrOk W K X cx env ρ) :
  wpAny W.M A (eval (.UnaryOp .Not e pos) env) (PR W d k st ρ Q K X) NoE s := by
 rw [arm_eval_UnaryOp]
 rw [List.append_assoc,List.singleton_append] at h
 have fin : ∀ {v s' K' H'} {b : Bool},Le K K' → W.Sat K' X H' s' → Rep K' (.bool b) v → Run W d k (.bool (!b) :: st) ρ H' Q → wpAny W.M A (do standAt pos; holding [v] (unaryOp .Not v)) (PR W d k st ρ Q K X) NoE s' := fun le hS' rv hr => by
  obtain rfl := Rep.bool_iff.mp rv
  refine wpAny_bind (wpAny_standAt (wpAny_holding ?_))
  exact not_value (truthy_b ((post_same hS' (Rep.bool_iff.mpr rfl) hr).up le))
 unfold compB at h
 split at h
 ·refine bindP (ih _ _ _ _ _ _ _ _ h _ _ _ _ _ hA hS F) fun v s' K' x H' le hS' rv hr => ?_
  cases hr
  rename_i hr
  exact fin le hS' rv hr
 ·split at h
  ·cases h
  ·rw [List.append_assoc,List.singleton_append] at h
   refine bindP (ih _ _ _ _ _ _ _ _ h _ _ _ _ _ hA hS F) fun v s' K' x H' le hS' rv hr => ?_
   cases hr
   rename_i hr
   cases hr
   rename_i hr
   exact fin le hS' rv hr
theorem se_neg (ih : SE W rc) {e pos} (h : Run W d (rc cx e ++ [.neg] ++ k) st ρ H Q) (hA : Room d A) (hS : W.Sat K X H s) (F : FrOk W K X cx env ρ) :
  wpAny W.M A (eval (.UnaryOp .USub e pos) env) (PR W d k st ρ Q K X) NoE s := by
 rw [arm_eval_UnaryOp]
 rw [List.append_assoc,List.singleton_append] at h
 refine bindP (ih _ _ _ _ _ _ _ _ h _ _ _ _ _ hA hS F) fun v s' K' x H' le hS' rv hr => ?_
 cases hr
 rename_i a hr
 obtain ⟨t,rfl⟩ := Rep.int_iff.mp rv
 exact wpAny_bind (wpAny_standAt (wpAny_holding (PyProof.Rows.neg_int ((post_same hS' (Rep.int_iff.mpr ⟨_,rfl⟩) hr).up le))))
theorem se_ifexp (ih : SE W rc) (it : ST W rc) {t a b pos} (h : Run W d (compB rc cx t ++ [.ite (rc cx a) (rc cx b)] ++ k) st ρ H Q) (hA : Room d A) (hS : W.Sat K X H s) (F : FrOk W K X cx env ρ) :
  wpAny W.M A (eval (.IfExp t a b pos) env) (PR W d k st ρ Q K X) NoE s := by
 rw [List.append_assoc,List.singleton_append] at h
 refine wpAny_IfExp (wpAny_mono (it _ _ _ _ _ _ _ _ h _ _ _ _ _ hA hS F) (fun c s' ⟨K',H',le,hS',hr⟩ => ?_) fun _ _ e => e)
 cases hr
 rename_i hr
 cases c
 ·exact wpAny_mono (ih _ _ _ _ _ _ _ _ hr _ _ _ _ _ hA hS' (F.le le)) (fun _ _ p => p.up le) fun _ _ e => e
 ·exact wpAny_mono (ih _ _ _ _ _ _ _ _ hr _ _ _ _ _ hA hS' (F.le le)) (fun _ _ p => p.up le) fun _ _ e => e
end
section
variable {W : Wx} {rc : Rc} {d : Nat} {cx : Cx} {k : List I} {st : List V} {ρ : Ro} {H : Hp} {Q : Out → Prop} {A : Around} {s : Shared} {K X : Fz} {env : Env}
theorem wpAny_rel {M : Model} {vs keep : List Value} {Q : Unit → Shared → Prop} {E : Value → Shared → Prop} (h : Q () s) : wpAny M A (release vs keep) Q E s := fun Γ p _ => by rw [Sem.wp_release]; exact h
theorem se_B (ih : SE W rc) {e} (h : Run W d (compB rc cx e ++ k) st ρ H Q) (hA : Room d A) (hS : W.Sat K X H s) (F : FrOk W K X cx env ρ) :
  wpAny W.M A (eval e env) (PR W d k st ρ Q K X) NoE s := by
 unfold compB at h
 split at h
 ·exact ih _ _ _ _ _ _ _ _ h _ _ _ _ _ hA hS F
 ·split at h
  ·cases h
  ·rw [List.append_assoc,List.singleton_append] at h
   refine wpAny_mono (ih _ _ _ _ _ _ _ _ h _ _ _ _ _ hA hS F) (fun v s' p => p.mono fun x H' hr => ?_) fun _ _ e => e
   cases hr
   assumption
theorem se_bools (ih : SE W rc) {op : BoolOp} {pos : Pos} : ∀ {es : List Expr} {st H} {K X : Fz} {s : Shared},Run W d (compBs rc cx op es ++ k) st ρ H Q → Room d A → W.Sat K X H s → FrOk W K X cx env ρ →
  wpAny W.M A (boolOp pos op (evalEach es env)) (PR W d k st ρ Q K X) NoE s
 | [],st,H,K,X,s,h,_,_,_ => by unfold compBs at h; cases h
 | [e],st,H,K,X,s,h,hA,hS,F => by
  unfold compBs at h
  simp only [List.isEmpty_nil,if_true,List.append_nil] at h
  exact se_B ih h hA hS F
 | e :: e2 :: r,st,H,K,X,s,h,hA,hS,F => by
  unfold compBs at h
  simp only [List.isEmpty_cons,Bool.false_eq_true,if_false,List.append_assoc] at h
  show wpAny _ _ (boolOp pos op (eval e env :: eval e2 env :: evalEach r env)) _ _ _
  unfold boolOp
  refine bindP (se_B ih h hA hS F) fun v s' K' x H' le hS' rv hr => ?_
  have tail : ∀ {v : Value} {b : Bool} {s' : Shared} {K' : Fz} {H' : Hp},Le K K' → W.Sat K' X H' s' → Rep K' (.bool b) v → Run W d ((if b then compBs rc cx op (e2 :: r) else [.lit (.bool false)]) ++ k) st ρ H' Q → op = .And →
    wpAny W.M A (do standAt pos; let t ← holding [v] (truthy v); match op,t with | .And,false | .Or,true => pure v | _,_ => boolOp pos op (eval e2 env :: evalEach r env)) (PR W d k st ρ Q K X) NoE s' := by
   intro v b s' K' H' le hS' rv hr hop
   subst hop
   obtain rfl := Rep.bool_iff.mp rv
   refine wpAny_bind (wpAny_standAt (wpAny_bind (wpAny_holding (truthy_b ?_))))
   cases b
   ·rw [if_neg (by simp),List.singleton_append] at hr
    cases hr
    rename_i hr
    exact wpAny_pure ((post_same hS' (Rep.bool_iff.mpr rfl) hr).up le)
   ·rw [if_pos rfl] at hr
    exact wpAny_mono (se_bools ih hr hA hS' (F.le le)) (fun _ _ p => p.up le) fun _ _ e => e
  have tail' : ∀ {v : Value} {b : Bool} {s' : Shared} {K' : Fz} {H' : Hp},Le K K' → W.Sat K' X H' s' → Rep K' (.bool b) v → Run W d ((if b then [.lit (.bool true)] else compBs rc cx op (e2 :: r)) ++ k) st ρ H' Q → op = .Or →
    wpAny W.M A (do standAt pos; let t ← holding [v] (truthy v); match op,t with | .And,false | .Or,true => pure v | _,_ => boolOp pos op (eval e2 env :: evalEach r env)) (PR W d k st ρ Q K X) NoE s' := by
   intro v b s' K' H' le hS' rv hr hop
   subst hop
   obtain rfl := Rep.bool_iff.mp rv
   refine wpAny_bind (wpAny_standAt (wpAny_bind (wpAny_holding (truthy_b ?_))))
   cases b
   ·rw [if_neg (by simp)] at hr
    exact wpAny_mono (se_bools ih hr hA hS' (F.le le)) (fun _ _ p => p.up le) fun _ _ e => e
   ·rw [if_pos rfl,List.singleton_append] at hr
    cases hr
    rename_i hr
    exact wpAny_pure ((post_same hS' (Rep.bool_iff.mpr rfl) hr).up le)
  cases hop : op with
  | And =>
   rw [hop] at hr
   simp only [List.singleton_append] at hr
   cases hr
   rename_i hr
   have := tail le hS' rv (by rw [hop]; exact hr) hop
   rw [hop] at this
   exact this
  | Or =>
   rw [hop] at hr
   simp only [List.singleton_append] at hr
   cases hr
   rename_i hr
   have := tail' le hS' rv (by rw [hop]; exact hr) hop
   rw [hop] at this
   exact this
theorem marks_none : ∀ {ops : List CmpOp} {cs : List Expr},cs.any isSet = false → lastMarks ops cs = false
 | [],_,_ => by simp [lastMarks]
 | [op],[],_ => by simp [lastMarks]
 | [op],[e],h => by
  simp only [List.any_cons,List.any_nil,Bool.or_false] at h
  unfold lastMarks behindInMarks
  cases e <;> first | rfl | (simp [isSet] at h)
 | [op],e :: e2 :: r,h => by
  simp only [List.any_cons,Bool.or_eq_false_iff] at h
  unfold lastMarks
  exact marks_none (ops := []) (cs := e2 :: r) (by simp [h.2])
 | op :: op2 :: ops,[],_ => by simp [lastMarks]
 | op :: op2 :: ops,e :: r,h => by
  simp only [List.any_cons,Bool.or_eq_false_iff] at h
  unfold lastMarks
  exact marks_none h.2
theorem se_cmp (ih : SE W rc) {l ops cs pos} (h : Run W d (compCmp rc cx l ops cs ++ k) st ρ H Q) (hA : Room d A) (hS : W.Sat K X H s) (F : FrOk W K X cx env ρ) :
  wpAny W.M A (eval (.Compare l ops cs pos) env) (PR W d k st ρ Q K X) NoE s := by
 unfold compCmp at h
 split at h
 ·cases h
 rename_i hset
 rw [arm_eval_Compare,markedEach_of_false _ _ _ (marks_none (by simpa using hset))]
 split at h
 ·rename_i op r
  simp only [List.append_assoc,List.singleton_append] at h
  refine bindP (ih _ _ _ _ _ _ _ _ h _ _ _ _ _ hA hS F) fun v s' K' x H' le hS' rv hr => ?_
  show wpAny _ _ (compareChain pos v [op] [eval r env]) _ _ _
  unfold compareChain
  refine wpAny_bind (wpAny_holding (wpAny_mono (ih _ _ _ _ _ _ _ _ hr _ _ _ _ _ hA hS' (F.le le)) (fun v2 s2 ⟨K2,x2,H2,le2,hS2,rv2,hr2⟩ => ?_) fun _ _ e => e))
  refine wpAny_bind (wpAny_standAt (wpAny_operateT ?_))
  cases hr2
  rename_i hop hk
  exact wpAny_mono (hop A s2 K2 _ [v,v2] hA hS2 (Reps.cons (rv.le le2) (Reps.cons rv2 Reps.nil))) (fun r s'' p => (p.up (le.trans le2)).mono hk) fun _ _ e => e
 ·rename_i op op' r r'
  simp only [List.append_assoc,List.cons_append,List.nil_append] at h
  refine bindP (ih _ _ _ _ _ _ _ _ h _ _ _ _ _ hA hS F) fun v s' K' x H' le hS' rv hr => ?_
  show wpAny _ _ (compareChain pos v [op,op'] [eval r env,eval r' env]) _ _ _
  unfold compareChain
  refine wpAny_bind (wpAny_holding (wpAny_mono (ih _ _ _ _ _ _ _ _ hr _ _ _ _ _ hA hS' (F.le le)) (fun v2 s2 ⟨K2,x2,H2,le2,hS2,rv2,hr2⟩ => ?_) fun _ _ e => e))
  refine wpAny_bind (wpAny_standAt ?_)
  cases hr2
  rename_i c hop hk
  refine wpAny_bind (wpAny_holding (wpAny_mono (hop A s2 K2 _ [v,v2] hA hS2 (Reps.cons (rv.le le2) (Reps.cons rv2 Reps.nil))) (fun cv s3 ⟨K3,x3,H3,le3,hS3,rv3,e1,e2⟩ => ?_) fun _ _ e => e))
  subst e1 e2
  obtain rfl := Rep.bool_iff.mp rv3
  refine wpAny_bind (wpAny_rel (wpAny_bind (wpAny_holding (truthy_b ?_))))
  cases hk
  rename_i hk
  cases c
  ·simp only [Bool.false_eq_true,if_false,List.cons_append,List.nil_append] at hk ⊢
   cases hk
   rename_i hk
   cases hk
   rename_i hk
   exact wpAny_pure ((post_same hS3 (Rep.bool_iff.mpr rfl) hk).up ((le.trans le2).trans le3))
  ·simp only [if_true,List.append_assoc,List.singleton_append] at hk ⊢
   unfold compareChain
   refine wpAny_bind (wpAny_holding (wpAny_mono (ih _ _ _ _ _ _ _ _ hk _ _ _ _ _ hA hS3 (F.le ((le.trans le2).trans le3))) (fun v4 s4 ⟨K4,x4,H4,le4,hS4,rv4,hr4⟩ => ?_) fun _ _ e => e))
   refine wpAny_bind (wpAny_standAt (wpAny_operateT ?_))
   cases hr4
   rename_i hop' hk'
   exact wpAny_mono (hop' A s4 K4 _ [v2,v4] hA hS4 (Reps.cons (rv2.le (le3.trans le4)) (Reps.cons rv4 Reps.nil))) (fun r s'' p => (p.up (((le.trans le2).trans le3).trans le4)).mono hk') fun _ _ e => e
 ·cases h
theorem st_bools (it : ST W rc) {op : BoolOp} : ∀ {es : List Expr} {st H} {K X : Fz} {s : Shared},Run W d (compBs rc cx op es ++ k) st ρ H Q → Room d A → W.Sat K X H s → FrOk W K X cx env ρ →
  wpAny W.M A (allTrue op es env) (fun b s' => ∃ K' H',Le K K' ∧ W.Sat K' X H' s' ∧ Run W d k (.bool b :: st) ρ H' Q) NoE s
 | [],st,H,K,X,s,h,_,_,_ => by unfold compBs at h; cases h
 | [e],st,H,K,X,s,h,hA,hS,F => by
  unfold compBs at h
  simp only [List.isEmpty_nil,if_true,List.append_nil] at h
  rw [arm_allTrue_cons]
  refine wpAny_bind (wpAny_mono (it _ _ _ _ _ _ _ _ h _ _ _ _ _ hA hS F) (fun b s' p => ?_) fun _ _ e => e)
  cases op <;> cases b <;> exact wpAny_pure p
 | e :: e2 :: r,st,H,K,X,s,h,hA,hS,F => by
  unfold compBs at h
  simp only [List.isEmpty_cons,Bool.false_eq_true,if_false,List.append_assoc] at h
  rw [arm_allTrue_cons]
  refine wpAny_bind (wpAny_mono (it _ _ _ _ _ _ _ _ h _ _ _ _ _ hA hS F) (fun b s' ⟨K',H',le,hS',hr⟩ => ?_) fun _ _ e => e)
  cases op
  ·simp only [List.singleton_append] at hr
   cases hr
   rename_i hr
   cases b
   ·rw [if_neg (by simp),List.singleton_append] at hr
    cases hr
    rename_i hr
    exact wpAny_pure ⟨K',H',le,hS',hr⟩
   ·rw [if_pos rfl] at hr
    exact wpAny_mono (st_bools it hr hA hS' (F.le le)) (fun _ _ ⟨K2,H2,a,b,c⟩ => ⟨K2,H2,le.trans a,b,c⟩) fun _ _ e => e
  ·simp only [List.singleton_append] at hr
   cases hr
   rename_i hr
   cases b
   ·rw [if_neg (by simp)] at hr
    exact wpAny_mono (st_bools it hr hA hS' (F.le le)) (fun _ _ ⟨K2,H2,a,b,c⟩ => ⟨K2,H2,le.trans a,b,c⟩) fun _ _ e => e
   ·rw [if_pos rfl,List.singleton_append] at hr
    cases hr
    rename_i hr
    exact wpAny_pure ⟨K',H',le,hS',hr⟩
theorem st_cmp (ih : SE W rc) {l ops cs pos w} (h : Run W d (compCmp rc cx l ops cs ++ k) st ρ H Q) (hk : ∀ {x H'},Run W d k (x :: st) ρ H' Q → ∃ b,x = .bool b) (hA : Room d A) (hS : W.Sat K X H s) (F : FrOk W K X cx env ρ) :
  wpAny W.M A (isTrue (.Compare l ops cs pos) env w) (fun b s' => ∃ K' H',Le K K' ∧ W.Sat K' X H' s' ∧ Run W d k (.bool b :: st) ρ H' Q) NoE s := by
 unfold compCmp at h
 split at h
 ·cases h
 rename_i hset
 have fin : ∀ {v s' K'},Le K K' → PR W d k st ρ Q K' X v s' → wpAny W.M A (holding [v] (truthy v)) (fun b s' => ∃ K' H',Le K K' ∧ W.Sat K' X H' s' ∧ Run W d k (.bool b :: st) ρ H' Q) NoE s' := by
  rintro v s' K' le ⟨K2,x,H2,le2,hS2,rv2,hr2⟩
  obtain ⟨b,rfl⟩ := hk hr2
  obtain rfl := Rep.bool_iff.mp rv2
  exact wpAny_holding (truthy_b ⟨K2,H2,le.trans le2,hS2,hr2⟩)
 rw [arm_isTrue_Compare,markedEach_of_false _ _ _ (marks_none (by simpa using hset))]
 split at h
 ·rename_i op r
  simp only [List.append_assoc,List.singleton_append] at h
  refine bindP (ih _ _ _ _ _ _ _ _ h _ _ _ _ _ hA hS F) fun v s' K' x H' le hS' rv hr => ?_
  show wpAny _ _ (testChain pos v [op] [eval r env]) _ _ _
  unfold testChain
  refine wpAny_bind (wpAny_holding (wpAny_mono (ih _ _ _ _ _ _ _ _ hr _ _ _ _ _ hA hS' (F.le le)) (fun v2 s2 ⟨K2,x2,H2,le2,hS2,rv2,hr2⟩ => ?_) fun _ _ e => e))
  refine wpAny_bind (wpAny_standAt (wpAny_bind (wpAny_operateT ?_)))
  cases hr2
  rename_i hop hk'
  exact wpAny_mono (hop A s2 K2 _ [v,v2] hA hS2 (Reps.cons (rv.le le2) (Reps.cons rv2 Reps.nil))) (fun r s'' p => fin (le.trans le2) (p.mono hk')) fun _ _ e => e
 ·rename_i op op' r r'
  simp only [List.append_assoc,List.cons_append,List.nil_append] at h
  refine bindP (ih _ _ _ _ _ _ _ _ h _ _ _ _ _ hA hS F) fun v s' K' x H' le hS' rv hr => ?_
  show wpAny _ _ (testChain pos v [op,op'] [eval r env,eval r' env]) _ _ _
  unfold testChain
  refine wpAny_bind (wpAny_holding (wpAny_mono (ih _ _ _ _ _ _ _ _ hr _ _ _ _ _ hA hS' (F.le le)) (fun v2 s2 ⟨K2,x2,H2,le2,hS2,rv2,hr2⟩ => ?_) fun _ _ e => e))
  refine wpAny_bind (wpAny_standAt ?_)
  cases hr2
  rename_i c hop hk'
  refine wpAny_bind (wpAny_holding (wpAny_mono (hop A s2 K2 _ [v,v2] hA hS2 (Reps.cons (rv.le le2) (Reps.cons rv2 Reps.nil))) (fun cv s3 ⟨K3,x3,H3,le3,hS3,rv3,e1,e2⟩ => ?_) fun _ _ e => e))
  subst e1 e2
  obtain rfl := Rep.bool_iff.mp rv3
  refine wpAny_bind (wpAny_rel (wpAny_bind (wpAny_holding (truthy_b ?_))))
  cases hk'
  rename_i hk'
  cases c
  ·simp only [Bool.false_eq_true,if_false,List.cons_append,List.nil_append] at hk' ⊢
   cases hk'
   rename_i hk'
   cases hk'
   rename_i hk'
   exact wpAny_pure ⟨K3,_,(le.trans le2).trans le3,hS3,hk'⟩
  ·simp only [if_true,List.append_assoc,List.singleton_append] at hk' ⊢
   unfold testChain
   refine wpAny_bind (wpAny_holding (wpAny_mono (ih _ _ _ _ _ _ _ _ hk' _ _ _ _ _ hA hS3 (F.le ((le.trans le2).trans le3))) (fun v4 s4 ⟨K4,x4,H4,le4,hS4,rv4,hr4⟩ => ?_) fun _ _ e => e))
   refine wpAny_bind (wpAny_standAt (wpAny_bind (wpAny_operateT ?_)))
   cases hr4
   rename_i hop' hk2
   exact wpAny_mono (hop' A s4 K4 _ [v2,v4] hA hS4 (Reps.cons (rv2.le (le3.trans le4)) (Reps.cons rv4 Reps.nil))) (fun r s'' p => fin (((le.trans le2).trans le3).trans le4) (p.mono hk2)) fun _ _ e => e
 ·cases h
end
section
variable {W : Wx} {rc : Rc} {d : Nat} {cx : Cx} {k : List I} {st : List V} {ρ : Ro} {H : Hp} {Q : Out → Prop} {A : Around} {s : Shared} {K X : Fz} {env : Env}
theorem keeper_ok {f : Value} (hf : calleeOk f = true) (hS : W.Sat K X H s) : ∃ k,(k = Keeper.frame ∨ k = Keeper.machine ∨ k = Keeper.boundFrame) ∧ Looks W.M s.heap (keeperOf f) k := by
 cases f <;> first | (cases hf; done) | skip
 ·exact ⟨.machine,.inr (.inl rfl),Looks.of_pure rfl⟩
 ·exact ⟨.machine,.inr (.inl rfl),Looks.of_pure rfl⟩
 ·rename_i a
  exact keeps_K (List.all_eq_true.mp (callee_ok W.w.params) a (List.contains_iff_mem.mp hf)) _ (W.frag hS)
theorem callWith_mine {pos : Pos} {f : Value} {first : List Value} {args : List (Bool × Sem Value)} {Q' : Value → Shared → Prop} (hplain : args.any (·.1) = false)
  (h : wpAny W.M A (evalArgs f true args []) (fun a s₁ => (∃ k,(k = Keeper.frame ∨ k = Keeper.machine ∨ k = Keeper.boundFrame) ∧ Looks W.M s₁.heap (keeperOf f) k) ∧ wpAny W.M A (PySem.call f (first ++ a.pos) a.kw) Q' NoE s₁) NoE s) : wpAny W.M A (callWith pos f first args []) Q' NoE s := by
 unfold callWith
 refine wpAny_bind (wpAny_holding (wpAny_mono h (fun a s₁ h₁ => wpAny_bind (wpAny_standAt ?_)) fun _ _ x => x))
 obtain ⟨⟨k,hk',L⟩,h₁⟩ := h₁
 simp only [hplain,List.any_nil,Bool.or_false]
 refine wpAny_bind (L.here ?_)
 have tail : ∀ {t : Sem Value},wpAny W.M A t Q' NoE s₁ → wpAny W.M A (t >>= fun r => holding [r] point >>= fun _ => pure r) Q' NoE s₁ :=
  fun ht => wpAny_bind (wpAny_mono ht (fun r s₂ hr => wpAny_bind (wpAny_holding (wpAny_point (wpAny_pure hr)))) fun _ _ x => x)
 have marked (mk : Value) : wpAny W.M A (callMarked mk f (first ++ a.pos) a.kw) Q' NoE s₁ := by unfold callMarked; exact Calls.wpAny_keep h₁
 rcases hk' with rfl | rfl | rfl <;> dsimp only <;> first | exact tail h₁ | (split <;> first | exact tail h₁ | exact tail (marked _))
theorem stars_none : ∀ {es : List Expr},es.any star = false → ∀ (pos : Pos) (env : Env),(backTo pos (starEach es env)).any (·.1) = false
 | [],_,_,_ => rfl
 | e :: es,h,pos,env => by
  simp only [List.any_cons,Bool.or_eq_false_iff] at h
  have he : starEach (e :: es) env = (false,eval e env) :: starEach es env := by
   cases e <;> first | rfl | (exact absurd h.1 (by simp [star,starE]))
  rw [he]
  exact stars_none h.2 pos env
theorem evalArgs_mine {f : Value} {es : List Expr} {pos : Pos} {Q' : Args → Shared → Prop} (hst : es.any star = false) (h : wpAny W.M A (spliced (backTo pos (starEach es env))) (fun vs s' => Q' ⟨vs,[]⟩ s') NoE s) :
  wpAny W.M A (evalArgs f true (backTo pos (starEach es env)) []) Q' NoE s := by
 cases es with
 | nil =>
  rw [arm_starEach_nil] at h ⊢
  unfold evalArgs
  show wpAny _ A (spliced [] >>= _) _ _ s
  refine wpAny_bind (wpAny_mono h (fun vs s' h' => wpAny_bind (wpAny_pure (wpAny_holding ?_))) fun _ _ x => x)
  exact wpAny_bind (wpAny_pure (wpAny_bind (wpAny_pure (wpAny_pure h'))))
 | cons e es =>
  simp only [List.any_cons,Bool.or_eq_false_iff] at hst
  have he : starEach (e :: es) env = (false,eval e env) :: starEach es env := by
   cases e <;> first | rfl | (exact absurd hst.1 (by simp [star,starE]))
  rw [he] at h ⊢
  exact evalArgs_plain h
theorem call_args (ih : SE W rc) {es : List Expr} {pos : Pos} {f : Value} {n : Nat} {pre : List Value} {pl : List V} {x₀ : V} (hst : es.any star = false) (r₀ : Rep K x₀ f) (h : Run W d (compEs rc cx es ++ (.call n :: k)) (pl.reverse ++ x₀ :: st) ρ H Q) (hn : n = pl.length + es.length)
  (hpre : Reps K pl pre) (hA : Room d A) (hS : W.Sat K X H s) (F : FrOk W K X cx env ρ) : wpAny W.M A (callWith pos f pre (backTo pos (starEach es env)) []) (PR W d k st ρ Q K X) NoE s := by
 refine callWith_mine (stars_none hst _ _) (evalArgs_mine hst (wpAny_mono (se_all ih hst h hA hS F) (fun vs s2 ⟨K2,H2,l,le2,hS2,rl,hl,hr2⟩ => ?_) fun _ _ e => e))
 cases hr2
 rename_i st2 f' l' R h3 h1 h2 h4 h5
 have h2' : (pl ++ l).reverse ++ (x₀ :: st) = l'.reverse ++ (.raw f' :: st2) := by rw [← h2]; simp
 obtain ⟨e1,e2⟩ := List.append_inj h2' (by simp [h1,hn,hl]; omega)
 have e3 := (List.cons.inj e2).1
 have e4 := (List.cons.inj e2).2
 subst e3 e4
 obtain rfl := Rep.raw_iff.mp r₀
 have e1 := List.reverse_inj.mp e1
 subst e1
 exact ⟨keeper_ok h3 hS2,wpAny_mono (h4 A s2 K2 _ (pre ++ vs) hA hS2 ((hpre.le le2).append rl)) (fun v s3 p => (p.up le2).mono h5) fun _ _ e => e⟩
theorem se_call (ih : SE W rc) {f args pos} (h : Run W d (compCall rc cx f args pos ++ k) st ρ H Q) (hA : Room d A) (hS : W.Sat K X H s) (F : FrOk W K X cx env ρ) :
  wpAny W.M A (eval (.Call f args [] pos) env) (PR W d k st ρ Q K X) NoE s := by
 unfold compCall at h
 split at h
 ·cases h
 rename_i hq
 simp only [Bool.or_eq_true,decide_eq_true_eq,not_or,Bool.not_eq_true] at hq
 have hst := hq.1
 split at h
 ·rename_i o m p
  split at h
  ·cases h
  rename_i hq2
  simp only [Bool.or_eq_true,bne_iff_ne,not_or,Bool.not_eq_true,Decidable.not_not] at hq2
  split at h
  ·rename_i i hi
   simp only [List.append_assoc,List.singleton_append,List.cons_append,List.nil_append] at h
   rw [arm_eval_Call,base_plain hq2.1]
   refine bindP (ih _ _ _ _ _ _ _ _ h _ _ _ _ _ hA hS F) fun v s' K' x H' le hS' rv hr => wpAny_bind (wpAny_standAt ?_)
   cases hr
   rename_i f' hm hr
   unfold methodCall
   have few : methodCallForm (args.length + ([] : List Keyword).length) (backTo pos (starEach args env)) (backToKw pos (keywordEach [] env)) = true := by
    have e1 := stars_none hst pos env
    unfold methodCallForm
    have : (backTo pos (starEach args env)).all (fun x => !x.1) = true := by
     rw [List.all_eq_not_any_not]; simpa using e1
    rw [this]
    show (true && true && decide (args.length + 0 + 0 < 30)) = true
    simp; omega
   rw [few]
   refine wpAny_bind (wpAny_holding ?_)
   have hg := hm A s' K' _ v (do return (← importBound o env).getD true) hA hS' rv
   rw [mid_nm hi] at hg
   refine hg _ ?_
   refine wpAny_bind ?_
   unfold methodCallPos
   rw [if_pos (by rw [hq2.2]; simp)]
   refine wpAny_pure ?_
   exact wpAny_mono (call_args ih (pl := [x]) (pre := [v]) hst (Rep.raw_iff.mpr rfl) hr (by simp; omega) (Reps.cons rv Reps.nil) hA hS' (F.le le)) (fun _ _ p => p.up le) fun _ _ e => e
  ·cases h
 ·rename_i hna
  simp only [List.append_assoc,List.singleton_append] at h
  have he : eval (.Call f args [] pos) env = (do callWith pos (← eval f env) [] (backTo pos (starEach args env)) (backToKw pos (keywordEach [] env))) := by
   cases f <;> first | rfl | (exact absurd rfl (hna _ _ _))
  rw [he]
  refine bindP (ih _ _ _ _ _ _ _ _ h _ _ _ _ _ hA hS F) fun v s' K' x H' le hS' rv hr => ?_
  exact wpAny_mono (call_args ih (pl := []) (pre := []) hst rv hr (by simp) Reps.nil hA hS' (F.le le)) (fun _ _ p => p.up le) fun _ _ e => e
end
section
variable {W : Wx} {rc : Rc} {d : Nat} {cx : Cx} {k : List I} {st : List V} {ρ : Ro} {H : Hp} {Q : Out → Prop} {A : Around} {s : Shared} {K X : Fz} {env : Env}
theorem kind_of {x : V} {v : Value} (hS : W.Sat K X H s) (n : notInst W H x) (r : Rep K x v) : ∃ T id,s.TypeIs v T ∧ typeLookup (.type T) "__getitem__" = pure (some (.builtin id)) := by
 cases x <;> try exact n.elim
 ·obtain ⟨a,n,vs,rfl,e,_⟩ := Rep.tup_iff.mp r
  exact ⟨"tuple",_,(isTup_of (hS.keep _ _ e)).typeIs,slot_tuple_getitem.lookup⟩
 ·obtain rfl := Rep.ref_iff.mp r
  obtain ⟨m,hm,hn⟩ := n
  obtain ⟨D,O⟩ := hS.objs
  have := O.at_ _ _ hm
  cases m with
  | list l => obtain ⟨vs,n,e,_⟩ := this; exact ⟨"list",_,(isList_of e).typeIs,slot_list_getitem.lookup⟩
  | dict l => obtain ⟨_,kvs,hd,_⟩ := this; exact ⟨"dict",_,hd.typeIs,PySem.slot_dict_getitem.lookup⟩
  | dictB l => obtain ⟨_,kvs,hd,_⟩ := this; exact ⟨"dict",_,hd.typeIs,PySem.slot_dict_getitem.lookup⟩
  | inst C fs => exact absurd rfl (hn C fs)
 ·obtain rfl := Rep.raw_iff.mp r
  obtain ⟨a,vs,n,rfl,e⟩ := n
  exact ⟨"list",_,⟨_,hS.stays _ _ e,rfl⟩,slot_list_getitem.lookup⟩
theorem se_opt (ih : SE W rc) {e : Option Expr} (h : Run W d (compO rc cx e ++ k) st ρ H Q) (hA : Room d A) (hS : W.Sat K X H s) (F : FrOk W K X cx env ρ) : wpAny W.M A (valueOrNone (evalOpt e env)) (PR W d k st ρ Q K X) NoE s := by
 cases e with
 | none =>
  unfold compO at h
  rw [List.singleton_append] at h
  cases h
  rename_i h
  exact wpAny_pure (post_same hS (Rep.none_iff.mpr rfl) h)
 | some e => exact ih _ _ _ _ _ _ _ _ h _ _ _ _ _ hA hS F
theorem se_sub (ih : SE W rc) {o i pos} (h : Run W d (compSub rc cx o i ++ k) st ρ H Q) (hA : Room d A) (hS : W.Sat K X H s) (F : FrOk W K X cx env ρ) :
  wpAny W.M A (eval (.Subscript o i pos) env) (PR W d k st ρ Q K X) NoE s := by
 unfold compSub at h
 refine Subscript_ ?_
 split at h
 ·rename_i l u p
  simp only [List.append_assoc,List.singleton_append] at h
  refine wpAny_mono (ih _ _ _ _ _ _ _ _ h _ _ _ _ _ hA hS F) (fun ov s1 ⟨K1,x,H1,le1,hS1,rv,hr⟩ => ?_) fun _ _ e => e
  rw [arm_eval_Slice]
  refine bindP (se_opt ih hr hA hS1 (F.le le1)) fun lv s2 K2 y H2 le2 hS2 rl hr => ?_
  refine wpAny_bind (wpAny_holding (wpAny_mono (se_opt ih hr hA hS2 (F.le (le1.trans le2))) (fun uv s3 ⟨K3,z,H3,le3,hS3,ru,hr⟩ => ?_) fun _ _ e => e))
  refine wpAny_bind (wpAny_holding (wpAny_pure ?_))
  refine wpAny_newObj_type (s := s3) (data := .fields #[lv,uv,.none]) ?_ ?_
  ·obtain ⟨S4,le4⟩ := Sat.freeze hS3 (sliceO lv uv) rfl (t := s3.toks)
   cases hr
   rename_i R hn hop hk
   have le' := (le2.trans le3).trans le4
   obtain ⟨T,id,hT,hl⟩ := kind_of S4 hn (rv.le le')
   refine tail_any hT hl (wpAny_mono (hop A _ _ _ ov _ lv uv hA S4 (rv.le le') setF_same (rl.le (le3.trans le4)) (ru.le le4)) (fun r s'' p => (p.up (le1.trans le')).mono hk) fun _ _ e => e) rfl
  ·show (#[lv,uv,Value.none] : Array Value).size ≤ sizeLine + 2
   rw [sizeLine_eq]; simp
 ·cases h
 ·rename_i hn1 hn2
  simp only [List.append_assoc,List.singleton_append] at h
  refine wpAny_mono (ih _ _ _ _ _ _ _ _ h _ _ _ _ _ hA hS F) (fun ov s1 ⟨K1,x,H1,le1,hS1,rv,hr⟩ => ?_) fun _ _ e => e
  refine wpAny_mono (ih _ _ _ _ _ _ _ _ hr _ _ _ _ _ hA hS1 (F.le le1)) (fun iv s2 ⟨K2,y,H2,le2,hS2,ri,hr⟩ => ?_) fun _ _ e => e
  cases hr
  rename_i R hn hop hk
  obtain ⟨T,id,hT,hl⟩ := kind_of hS2 hn (rv.le le2)
  refine tail_any (ops := [ov,iv]) hT hl (wpAny_mono (hop A s2 K2 _ [ov,iv] hA hS2 (Reps.cons (rv.le le2) (Reps.cons ri Reps.nil))) (fun r s'' p => (p.up (le1.trans le2)).mono hk) fun _ _ e => e) ?_
  cases i <;> first | rfl | (exact absurd rfl (hn2 _ _ _ _))
theorem size_ne (hS : W.Sat K X H s) : s.heap.objs.size ≠ sysModules := fun q => by
 have := modules_low (W.top.nolimit.keeps hS.stays)
 rw [q] at this
 exact Nat.lt_irrefl _ this
theorem dict_nil (e : List I) : dictDisplay [] = newDict := by
 unfold dictDisplay
 rfl
theorem keyOf_some {o : Option Expr} {a : Str} (h : keyOf o = some a) : ∃ kk pos,o = some (.Constant (.str a) kk pos) := by
 unfold keyOf at h
 split at h
 ·rename_i a' kk pos; cases h; exact ⟨kk,pos,rfl⟩
 ·cases h
theorem se_dict (ih : SE W rc) {ks vs pos} (h : Run W d (compD rc cx ks vs ++ k) st ρ H Q) (hA : Room d A) (hS : W.Sat K X H s) (F : FrOk W K X cx env ρ) :
  wpAny W.M A (eval (.Dict ks vs pos) env) (PR W d k st ρ Q K X) NoE s := by
 unfold compD at h
 split at h
 ·rename_i hk
  obtain rfl : ks = [] := List.map_eq_nil_iff.mp hk
  rw [List.singleton_append] at h
  cases h
  rename_i h
  rw [arm_eval_Dict]
  refine wpAny_bind (wpAny_standAt ?_)
  show wpAny _ _ (dictDisplay []) _ _ _
  rw [dict_nil []]
  refine wpAny_newObj_type (s := s) (data := .dict #[]) ?_ (by show (#[] : Array DictEntry).size ≤ _; simp)
  exact ⟨K,.ref s.heap.objs.size,_,Le.rfl,Sat.alloc hS { cls := .type "dict",data := .dict #[] } (.dict []) (fun _ _ e => nomatch e) (fun D => ⟨size_ne hS,[],Heap.DictOf.new _,rfl⟩),Rep.ref_iff.mpr rfl,h _ (Sat.fresh hS).2.2⟩
 ·rename_i a b x y hk
  obtain ⟨k1,k2,rfl,h1,h2⟩ : ∃ k1 k2,ks = [k1,k2] ∧ keyOf k1 = some a ∧ keyOf k2 = some b := by
   rcases ks with _ | ⟨k1,_ | ⟨k2,_ | ⟨k3,r⟩⟩⟩
   ·cases hk
   ·simp at hk
   ·simp only [List.map_cons,List.map_nil,List.cons.injEq,and_true] at hk; exact ⟨k1,k2,rfl,hk.1,hk.2⟩
   ·simp at hk
  obtain ⟨kk,p1,rfl⟩ := keyOf_some h1
  obtain ⟨kk',p2,rfl⟩ := keyOf_some h2
  simp only [List.append_assoc,List.singleton_append,List.cons_append,List.nil_append] at h
  cases h
  rename_i h
  refine wpAny_Dict_pairs (knd := strKind prg W.w) (pairs := [(eval (.Constant (.str a) kk p1) env,do let v ← eval x env; standAt pos; pure v),(eval (.Constant (.str b) kk' p2) env,do let v ← eval y env; standAt pos; pure v)]) rfl (by simp) (by simp) ?_
  have lo := size_ne hS
  have hfr := Sat.fresh hS
  have leX : Le X (setF X s.heap.objs.size { cls := .type "dict",data := .dict #[] }) := le_setF hfr.2.1
  have S1 := Sat.hold hS { cls := .type "dict",data := .dict #[] } rfl (t := s.toks)
  unfold evalPairs
  refine wpAny_bind (wpAny_Constant_str ?_)
  have S1' : W.Sat K (setF X s.heap.objs.size { cls := .type "dict",data := .dict #[] }) H { heap := s.heap.push { cls := .type "dict",data := .dict #[] },gens := s.gens,drawn := s.drawn,toks := s.toks + 1,os := s.os } := S1.of_heap rfl rfl rfl
  refine wpAny_bind (wpAny_holding (wpAny_bind (wpAny_mono (ih _ _ _ _ _ _ _ _ h _ _ _ _ _ hA S1' (F.leX leX)) (fun v s2 ⟨K2,x2,H2,le2,hS2,rv2,hr2⟩ => ?_) fun _ _ e => e)))
  refine wpAny_bind (wpAny_standAt (wpAny_pure ?_))
  cases hr2
  rename_i hr2
  refine wpAny_bind (wpAny_holding ?_)
  unfold evalPairs
  refine wpAny_bind (wpAny_Constant_str ?_)
  have S2' : W.Sat K2 _ H2 { s2 with toks := s2.toks + 1 } := hS2.of_heap rfl rfl rfl
  refine wpAny_bind (wpAny_holding (wpAny_bind (wpAny_mono (ih _ _ _ _ _ _ _ _ hr2 _ _ _ _ _ hA S2' ((F.leX leX).le le2)) (fun v3 s3 ⟨K3,x3,H3,le3,hS3,rv3,hr3⟩ => ?_) fun _ _ e => e)))
  refine wpAny_bind (wpAny_standAt (wpAny_pure ?_))
  refine wpAny_bind (wpAny_holding ?_)
  unfold evalPairs
  refine wpAny_pure (wpAny_pure (wpAny_pure ?_))
  cases hr3
  rename_i hne hr3
  have kd : setF X s.heap.objs.size { cls := .type "dict",data := .dict #[] } s.heap.objs.size = some { cls := .type "dict",data := .dict #[] } := setF_same
  have hd : s3.heap.get? s.heap.objs.size = some { cls := .type "dict",data := .dict #[] } := hS3.keepX _ _ kd
  refine display_done_str (prog := prg) (w := W.w) rfl ?_ ⟨_,#[],0,hd,⟨rfl,rfl,rfl⟩,rfl,fun _ he => by simp at he,Pairs.nil,List.nodup_nil⟩ fun h' hm hs => ?_
  ·show ([a,b] : List Str).Nodup
   simp [hne]
  ·have tt := Sat.thaw hS3 kd leX hfr.2.1 (m := .dict [(a,x2),(b,x3)]) (fun _ _ e => nomatch e) hs (fun D => ⟨lo,_,hm,v,_,rfl,rv2.le le3,v3,_,rfl,rv3,rfl⟩) (t := 0)
   exact ⟨K3,.ref s.heap.objs.size,_,le2.trans le3,(Sat.thaw hS3 kd leX hfr.2.1 (m := .dict [(a,x2),(b,x3)]) (fun _ _ e => nomatch e) hs (fun D => ⟨lo,_,hm,v,_,rfl,rv2.le le3,v3,_,rfl,rv3,rfl⟩)).2,Rep.ref_iff.mpr rfl,hr3 _ tt.1⟩
 ·cases h
end
def okT : Kd → Expr → Prop
 | .enum,t | .zip,t => isTuple t = true
 | _,_ => True
structure Itr (W : Wx) (kd : Kd) (args l : List V) (I : Addr) (F : Addr → Prop) (P : Nat → Fz → Fz → Prop) : Prop where
 loc : ∀ i K X K' X',P i K X → Le K K' → (∀ b,F b → X' b = X b) → P i K' X'
 next : ∀ A s K X H i t,A.handled = none → W.Sat K X H s → P i K X → Src H kd args l → i < l.length → okT kd t → wpAny W.M A (pyNext (.ref I)) (fun r s₁ => ∃ v,r = some v ∧
  wpAny W.M A (letOwnedTupleGo t (.ref I) v) (fun _ s' => ∃ K' X' x,l[i]? = some x ∧ Rep K' x v ∧ Le K K' ∧ (∀ b,¬ F b → X' b = X b) ∧ P (i + 1) K' X' ∧ W.Sat K' X' H s') NoE s₁) NoE s
 done : ∀ A s K X H,A.handled = none → W.Sat K X H s → P l.length K X → Src H kd args l → wpAny W.M A (pyNext (.ref I)) (fun r s' => r = none ∧ ∃ X',(∀ b,¬ F b → X' b = X b) ∧ (∀ b,F b → X' b = none) ∧ W.Sat K X' H s') NoE s
 has : ∀ i K X b,P i K X → F b → ∃ o,X b = some o
 nocell : ∀ i K X b o v,P i K X → F b → X b = some o → o.data ≠ .cell v
 self : ∀ A s K X H i (E : Value → Shared → Prop) (Q : Value → Shared → Prop),W.Sat K X H s → P i K X → Q (.ref I) s → wpAny W.M A (pyIter (.ref I)) Q E s
section
variable {W : Wx} {d : Nat} {H : Hp} {A : Around} {s : Shared} {K X : Fz}
def owners : List String := ["enumerate","zip","dict_itemiterator","dict_reverseitemiterator","odict_iterator","itertools.zip_longest","itertools.pairwise"]
theorem letGo_plain {M : Model} {E : Value → Shared → Prop} {t : Expr} {I : Addr} {v : Value} {o : Obj} {T : String} {Q : Unit → Shared → Prop} (e : s.heap.get? I = some o) (hc : o.cls = .type T) (hT : owners.contains T = false) (h : Q () s) :
  wpAny M A (letOwnedTupleGo t (.ref I) v) Q E s := by
 obtain ⟨c,dd,dt,sl⟩ := o
 replace hc : c = .type T := hc
 subst hc
 have key : wpAny M A (do
   let (.ref r,.ref a) := (Value.ref I,v) | return
   let o ← load r
   match o.cls,o.data with
   | .type n,.fields vs =>
    if ["enumerate","zip","dict_itemiterator","dict_reverseitemiterator","odict_iterator","itertools.zip_longest","itertools.pairwise"].contains n && vs[0]? == some (rawInt a) then
     rule "for.unpacks-the-owned-tuple"
     updateField r 0 .none
   | _,_ => pure ()) Q E s := by
  cases v <;> try exact wpAny_pure h
  refine wpAny_bind (wpAny_load e ?_)
  cases dt <;> try exact wpAny_pure h
  rename_i a vs
  show wpAny _ _ (if (owners.contains T && _) = true then _ else _) _ _ _
  rw [hT,Bool.false_and]
  exact wpAny_pure h
 cases t <;> first | exact wpAny_pure h | exact key
def PList (a I : Addr) (i : Nat) (_ X : Fz) : Prop := ∃ o,X I = some o ∧ o.cls = .type "list_iterator" ∧ o.data = .fields #[.ref a,.int i 0]
theorem itr_list (a I : Addr) (l : List V) : Itr W .plain [.ref a] l I (· = I) (PList a I) where
 loc := fun i K X K' X' ⟨o,h1,h2,h3⟩ _ e => ⟨o,(e I rfl).trans h1,h2,h3⟩
 has := fun i K X b ⟨o,h1,_⟩ hb => ⟨o,hb ▸ h1⟩
 nocell := fun i K X b o v ⟨o',h1,_,h3⟩ hb q e => by subst hb; rw [h1] at q; cases q; rw [h3] at e; cases e
 self := fun A s K X H i E Q hS ⟨o,h1,h2,h3⟩ hQ => wpAny_pyIter_listiter (s := s) ⟨o,hS.keepX _ _ h1,h2,h3⟩ hQ
 next := fun A s K X H i t hh hS ⟨o,h1,h2,h3⟩ hsrc hi _ => by
  have e : H a = some (.list l) := hsrc
  obtain ⟨vs,n,e1,r⟩ := hS.list e
  have hx : l[i]? = some l[i] := List.getElem?_eq_getElem hi
  obtain ⟨v,hv,rv⟩ := r.get i hx
  refine wpAny_pyNext_list_item (s := s) (l := a) (i := i) ⟨o,hS.keepX _ _ h1,h2,h3⟩ (isList_of e1) (x := v) (by simpa using hv) fun h' hit' hs' => ⟨v,rfl,?_⟩
  obtain ⟨o',g1,g2,g3⟩ := hit'
  refine letGo_plain g1 g2 rfl ⟨K,setF X I o',_,hx,rv,Le.rfl,fun b hb => setF_ne hb,⟨o',setF_same,g2,g3⟩,Sat.change hS h1 hs' g1⟩
 done := fun A s K X H hh hS ⟨o,h1,h2,h3⟩ hsrc => by
  have e : H a = some (.list l) := hsrc
  obtain ⟨vs,n,e1,r⟩ := hS.list e
  refine wpAny_pyNext_list_end (s := s) (l := a) (i := l.length) hh ⟨o,hS.keepX _ _ h1,h2,h3⟩ (isList_of e1) (by have := reps_size r; rw [Array.getElem?_eq_none]; omega) fun h' hs' => ⟨rfl,fun b => if b = I then none else X b,fun b hb => if_neg hb,fun b hb => if_pos hb,?_⟩
  refine Sat.ext hS (F := (· = I)) (fun b hb => ⟨o,hb ▸ h1⟩) (fun b o' hb q => hs' b o' hb q) Le.rfl (fun b o' q => .inl q) fun b o' q => ?_
  have hb : b ≠ I := fun z => by rw [if_pos z] at q; cases q
  rw [if_neg hb] at q
  exact ⟨hS.apart _ _ q,hs' _ _ hb (hS.keepX _ _ q),.inl (by rw [q]; simp)⟩
def PTup (l : List V) (I : Addr) (i : Nat) (K X : Fz) : Prop := ∃ a vs n o,K a = some (tupO vs n) ∧ Reps K l vs.toList ∧ X I = some o ∧ o.cls = .type "tuple_iterator" ∧ o.data = .fields #[.ref a,.int i 0]
theorem itr_tup (I : Addr) (l₀ l : List V) : Itr W .plain [.tup l₀] l I (· = I) (PTup l I) where
 loc := fun i K X K' X' ⟨a,vs,n,o,h0,h00,h1,h2,h3⟩ le e => ⟨a,vs,n,o,le _ _ h0,h00.le le,(e I rfl).trans h1,h2,h3⟩
 has := fun i K X b ⟨a,vs,n,o,h0,h00,h1,_⟩ hb => ⟨o,hb ▸ h1⟩
 nocell := fun i K X b o v ⟨a,vs,n,o',h0,h00,h1,_,h3⟩ hb q e => by subst hb; rw [h1] at q; cases q; rw [h3] at e; cases e
 self := fun A s K X H i E Q hS ⟨a,vs,n,o,h0,h00,h1,h2,h3⟩ hQ => wpAny_pyIter_tupleiter (s := s) ⟨o,hS.keepX _ _ h1,h2,h3⟩ hQ
 next := fun A s K X H i t hh hS ⟨a,vs,n,o,h0,r,h1,h2,h3⟩ hsrc hi _ => by
  have hx : l[i]? = some l[i] := List.getElem?_eq_getElem hi
  obtain ⟨v,hv,rv⟩ := r.get i hx
  refine wpAny_pyNext_tuple_item (s := s) (t := a) (i := i) ⟨o,hS.keepX _ _ h1,h2,h3⟩ ⟨_,hS.keep _ _ h0,rfl,_,rfl⟩ (x := v) (by simpa using hv) fun h' hit' hs' => ⟨v,rfl,?_⟩
  obtain ⟨o',g1,g2,g3⟩ := hit'
  refine letGo_plain g1 g2 rfl ⟨K,setF X I o',_,hx,rv,Le.rfl,fun b hb => setF_ne hb,⟨a,vs,n,o',h0,r,setF_same,g2,g3⟩,Sat.change hS h1 hs' g1⟩
 done := fun A s K X H hh hS ⟨a,vs,n,o,h0,r,h1,h2,h3⟩ hsrc => by
  refine wpAny_pyNext_tuple_end (s := s) (t := a) (i := l.length) hh ⟨o,hS.keepX _ _ h1,h2,h3⟩ ⟨_,hS.keep _ _ h0,rfl,_,rfl⟩ (by have := reps_size r; rw [Array.getElem?_eq_none]; omega) fun h' hs' => ⟨rfl,fun b => if b = I then none else X b,fun b hb => if_neg hb,fun b hb => if_pos hb,?_⟩
  refine Sat.ext hS (F := (· = I)) (fun b hb => ⟨o,hb ▸ h1⟩) (fun b o' hb q => hs' b o' hb q) Le.rfl (fun b o' q => .inl q) fun b o' q => ?_
  have hb : b ≠ I := fun z => by rw [if_pos z] at q; cases q
  rw [if_neg hb] at q
  exact ⟨hS.apart _ _ q,hs' _ _ hb (hS.keepX _ _ q),.inl (by rw [q]; simp)⟩
abbrev rngO (x left step : Int) : Obj := { cls := .type "range_iterator",dict := none,data := .fields #[rawInt x,rawInt left,rawInt step],slots := #[] }
def PRng (a c : Int) (n : Nat) (I : Addr) (i : Nat) (_ X : Fz) : Prop := X I = some (rngO (a + i * c) (n - i) c)
theorem itr_rng (I : Addr) (a c : Int) (n : Nat) (args : List V) : Itr W .range args ((List.range n).map fun i => .int (a + (i : Nat) * c)) I (· = I) (PRng a c n I) where
 loc := fun i K X K' X' h1 _ e => (e I rfl).trans h1
 has := fun i K X b h1 hb => ⟨_,hb ▸ h1⟩
 nocell := fun i K X b o v h1 hb q e => by subst hb; rw [show X b = _ from h1] at q; cases q; cases e
 self := fun A s K X H i E Q hS h1 hQ => wpAny_pyIter_rangeiter (s := s) (hS.keepX _ _ h1) hQ
 next := fun A s K X H i t hh hS h1 hsrc hi _ => by
  simp only [List.length_map,List.length_range] at hi
  refine wpAny_pyNext_range_item (s := s) (hS.keepX _ _ h1) (by omega) fun h' hit' hs' => ⟨_,rfl,?_⟩
  refine letGo_plain (s := { s with heap := h',toks := s.toks + 1 }) hit' rfl rfl ⟨K,setF X I _,.int (a + i * c),by simp [hi],Rep.int_iff.mpr ⟨_,rfl⟩,Le.rfl,fun b hb => setF_ne hb,?_,Sat.change hS h1 hs' hit'⟩
  have e1 : a + ((i + 1 : Nat) : Int) * c = a + (i : Int) * c + c := by push_cast; rw [Int.add_mul,Int.one_mul,Int.add_assoc]
  have e2 : (n : Int) - ((i + 1 : Nat) : Int) = (n : Int) - (i : Int) - 1 := by push_cast; omega
  unfold PRng
  rw [e1,e2]
  exact setF_same
 done := fun A s K X H hh hS h1 hsrc => by
  simp only [List.length_map,List.length_range] at h1
  refine wpAny_pyNext_range_end (s := s) hh (hS.keepX _ _ h1) (by omega) fun h' hs' => ⟨rfl,fun b => if b = I then none else X b,fun b hb => if_neg hb,fun b hb => if_pos hb,?_⟩
  refine Sat.ext hS (F := (· = I)) (fun b hb => ⟨_,hb ▸ h1⟩) (fun b o' hb q => hs' b o' hb q) Le.rfl (fun b o' q => .inl q) fun b o' q => ?_
  have hb : b ≠ I := fun z => by rw [if_pos z] at q; cases q
  rw [if_neg hb] at q
  exact ⟨hS.apart _ _ q,hs' _ _ hb (hS.keepX _ _ q),.inl (by rw [q]; simp)⟩
end
section
variable {W : Wx} {d : Nat} {H : Hp} {A : Around} {s : Shared} {K X : Fz}
theorem isTuple_eq {t : Expr} (h : isTuple t = true) : ∃ es k p,t = .Tuple es k p := by
 cases t <;> first | exact ⟨_,_,_,rfl⟩ | cases h
abbrev enmO (it : Addr) (i : Int) (old : Value) : Obj := { cls := .type "enumerate",dict := none,data := .fields #[.none,.bool false,.ref it,rawInt i,.none,old],slots := #[] }
def PEnm (a e it : Addr) (i : Nat) (_ X : Fz) : Prop := e ≠ it ∧ (∃ old,X e = some (enmO it i old)) ∧ ∃ o,X it = some o ∧ o.cls = .type "list_iterator" ∧ o.data = .fields #[.ref a,.int i 0]
theorem neX {a b : Addr} {m : MO} (hS : W.Sat K X H s) (h : H a = some m) {o : Obj} (h' : X b = some o) : a ≠ b := fun q => by
 obtain ⟨D,O⟩ := hS.objs
 have := (O.free _ _ h).2
 rw [q,h'] at this; cases this
theorem itr_enm (a e it : Addr) (l : List V) : Itr W .enum [.ref a] l e (fun b => b = e ∨ b = it) (PEnm a e it) where
 loc := fun i K X K' X' ⟨h0,⟨old,h1⟩,o,h2,h3,h4⟩ _ q => ⟨h0,⟨old,(q e (.inl rfl)).trans h1⟩,o,(q it (.inr rfl)).trans h2,h3,h4⟩
 has := fun i K X b ⟨h0,⟨old,h1⟩,o,h2,_⟩ hb => hb.elim (fun q => ⟨_,q ▸ h1⟩) (fun q => ⟨_,q ▸ h2⟩)
 nocell := fun i K X b o v ⟨h0,⟨old,h1⟩,o',h2,_,h4⟩ hb q e => by
  rcases hb with rfl | rfl
  ·rw [h1] at q; cases q; cases e
  ·rw [h2] at q; cases q; rw [h4] at e; cases e
 self := fun A s K X H i E Q hS ⟨h0,⟨old,h1⟩,_⟩ hQ => wpAny_pyIter_enum (s := s) (hS.keepX _ _ h1) hQ
 next := fun A s K X H i t hh hS ⟨h0,⟨old,h1⟩,o,h2,h3,h4⟩ ⟨l₀,hl,e0⟩ hi ht => by
  obtain ⟨es,kk,pp,rfl⟩ := isTuple_eq ht
  obtain ⟨vs,n,e1,r⟩ := hS.list hl
  subst e0
  simp only [List.length_map,List.length_zipIdx] at hi
  have hx : l₀[i]? = some l₀[i] := List.getElem?_eq_getElem hi
  obtain ⟨v,hv,rv⟩ := r.get i hx
  have lte : @LT.lt Nat instLTNat e s.heap.objs.size := ltS (hS.keepX _ _ h1)
  have lti : @LT.lt Nat instLTNat it s.heap.objs.size := ltS (hS.keepX _ _ h2)
  refine wpAny_pyNext_enum_item (s := s) (hS.keepX _ _ h1) (l := a) ⟨o,hS.keepX _ _ h2,h3,h4⟩ (isList_of e1) (x := v) (by simpa using hv) h0 fun h₁ heo hit₁ ht₁ hz₁ hk₁ => ⟨_,rfl,?_⟩
  refine wpAny_letOwnedTupleGo_enum (s := { s with heap := h₁,toks := s.toks + 1 }) heo fun h₂ he₂ hs₂ => ?_
  replace hs₂ : Heap.SameBut e h₁ h₂ := hs₂
  obtain ⟨o',g1,g2,g3⟩ := hit₁
  have ht₂ : h₂.get? s.heap.objs.size = some { cls := .type "tuple",data := .seq #[.int i s.toks,v] } := (hs₂.2 _ (Nat.ne_of_gt lte)).trans ht₁
  have hi₂ : h₂.get? it = some o' := (hs₂.2 _ (Ne.symm h0)).trans g1
  have hfr := Sat.fresh hS
  have le : Le K (setF K s.heap.objs.size { cls := .type "tuple",data := .seq #[.int i s.toks,v] }) := le_setF hfr.1
  refine ⟨setF K s.heap.objs.size { cls := .type "tuple",data := .seq #[.int i s.toks,v] },setF (setF X e (enmO it ((i : Int) + 1) v)) it o',.tup [.int i,l₀[i]],?_,?_,le,?_,?_,?_⟩
  ·simp [hx]
  ·exact Rep.tup_iff.mpr ⟨_,0,#[.int i s.toks,v],rfl,setF_same,Reps.cons (Rep.int_iff.mpr ⟨_,rfl⟩) (Reps.cons (rv.le le) Reps.nil)⟩
  ·intro b hb
   rw [setF_ne (fun q => hb (.inr q)),setF_ne (fun q => hb (.inl q))]
  ·refine ⟨h0,⟨v,?_⟩,o',setF_same,g2,g3⟩
   rw [setF_ne h0,setF_same]
   push_cast; rfl
  ·refine Sat.ext hS (F := fun b => b = e ∨ b = it) (fun b hb => hb.elim (fun q => ⟨_,q ▸ h1⟩) (fun q => ⟨_,q ▸ h2⟩)) (fun b ob hb q => ?_) le (fun b ob q => ?_) fun b ob q => ?_
   ·exact hs₂.extBut b ob (fun z => hb (.inl z)) (hk₁ b ob (fun z => hb (.inl z)) (fun z => hb (.inr z)) q)
   ·unfold setF at q
    split at q
    ·rename_i z; cases q; subst z; exact .inr ⟨Nat.le_refl _,ht₂⟩
    ·exact .inl q
   ·unfold setF at q
    split at q
    ·rename_i z; cases q; subst z
     exact ⟨by rw [setF_ne (Nat.ne_of_lt lti)]; exact hS.apart _ _ h2,hi₂,.inl (by rw [h2]; simp)⟩
    ·rename_i z
     split at q
     ·rename_i z'; cases q; subst z'
      exact ⟨by rw [setF_ne (Nat.ne_of_lt lte)]; exact hS.apart _ _ h1,he₂,.inl (by rw [h1]; simp)⟩
     ·rename_i z'
      refine ⟨?_,hs₂.extBut b ob z' (hk₁ b ob z' z (hS.keepX _ _ q)),.inl (by rw [q]; simp)⟩
      rw [setF_ne]; · exact hS.apart _ _ q
      intro z2; subst z2; rw [hfr.2.1] at q; cases q
 done := fun A s K X H hh hS ⟨h0,⟨old,h1⟩,o,h2,h3,h4⟩ ⟨l₀,hl,e0⟩ => by
  obtain ⟨vs,n,e1,r⟩ := hS.list hl
  subst e0
  simp only [List.length_map,List.length_zipIdx] at h1 h4
  refine wpAny_pyNext_enum_end (s := s) hh (hS.keepX _ _ h1) (l := a) ⟨o,hS.keepX _ _ h2,h3,h4⟩ (isList_of e1) (by have := reps_size r; rw [Array.getElem?_eq_none]; omega) fun h' hs' => ⟨rfl,fun b => if b = e ∨ b = it then none else X b,fun b hb => if_neg hb,fun b hb => if_pos hb,?_⟩
  refine Sat.ext hS (F := fun b => b = e ∨ b = it) (fun b hb => hb.elim (fun q => ⟨_,q ▸ h1⟩) (fun q => ⟨_,q ▸ h2⟩)) (fun b o' hb q => hs' b o' (fun z => hb (.inr z)) q) Le.rfl (fun b o' q => .inl q) fun b o' q => ?_
  have hb : ¬ (b = e ∨ b = it) := fun z => by rw [if_pos z] at q; cases q
  rw [if_neg hb] at q
  exact ⟨hS.apart _ _ q,hs' _ _ (fun z => hb (.inr z)) (hS.keepX _ _ q),.inl (by rw [q]; simp)⟩
abbrev zipO (TI TO : Addr) : Obj := { cls := .type "zip",dict := none,data := .fields #[.none,.bool false,.bool false,.ref TI,.ref TO],slots := #[] }
abbrev pairO (a b : Value) : Obj := { cls := .type "tuple",data := .seq #[a,b] }
structure PZip (a b z TI TO i1 i2 : Addr) (i : Nat) (K X : Fz) : Prop where
 ap : TI ≠ z ∧ TO ≠ z ∧ i1 ≠ z ∧ i2 ≠ z ∧ TI ≠ TO ∧ TI ≠ i1 ∧ TI ≠ i2 ∧ TO ≠ i1 ∧ TO ≠ i2 ∧ i1 ≠ i2
 hz : X z = some (zipO TI TO)
 hTI : X TI = some (pairO (.ref i1) (.ref i2))
 hTO : ∃ x y,X TO = some (pairO x y)
 h1 : ∃ o,X i1 = some o ∧ o.cls = .type "list_iterator" ∧ o.data = .fields #[.ref a,.int i 0]
 h2 : ∃ o,X i2 = some o ∧ o.cls = .type "list_iterator" ∧ o.data = .fields #[.ref b,.int i 0]
def FZip (z TI TO i1 i2 : Addr) (b : Addr) : Prop := b = z ∨ b = TI ∨ b = TO ∨ b = i1 ∨ b = i2
theorem PZip.has {a b z TI TO i1 i2 : Addr} {i : Nat} (p : PZip a b z TI TO i1 i2 i K X) {c : Addr} (h : FZip z TI TO i1 i2 c) : ∃ o,X c = some o := by
 rcases h with rfl | rfl | rfl | rfl | rfl
 ·exact ⟨_,p.hz⟩
 ·exact ⟨_,p.hTI⟩
 ·obtain ⟨x,y,q⟩ := p.hTO; exact ⟨_,q⟩
 ·obtain ⟨o,q,_⟩ := p.h1; exact ⟨_,q⟩
 ·obtain ⟨o,q,_⟩ := p.h2; exact ⟨_,q⟩
theorem PZip.apart {a b z TI TO i1 i2 : Addr} {i : Nat} (p : PZip a b z TI TO i1 i2 i K X) (hS : W.Sat K X H s) {m m' : MO} (h1 : H a = some m) (h2 : H b = some m') : ZipApart z TI TO i1 i2 a b := by
 obtain ⟨b1,b2,b3,b4,b5,b6,b7,b8,b9,b10⟩ := p.ap
 have nn : ∀ {c m},H c = some m → ∀ x,FZip z TI TO i1 i2 x → c ≠ x := fun hc x hx => by obtain ⟨o,q⟩ := p.has hx; exact neX hS hc q
 exact ⟨b1,b2,b3,b4,b5,b6,b7,b8,b9,b10,nn h1 _ (.inl rfl),nn h1 _ (.inr (.inr (.inl rfl))),nn h1 _ (.inr (.inr (.inr (.inl rfl)))),nn h1 _ (.inr (.inr (.inr (.inr rfl)))),
  nn h2 _ (.inl rfl),nn h2 _ (.inr (.inr (.inl rfl))),nn h2 _ (.inr (.inr (.inr (.inl rfl)))),nn h2 _ (.inr (.inr (.inr (.inr rfl))))⟩
theorem itr_zip (a b z TI TO i1 i2 : Addr) (l : List V) : Itr W .zip [.ref a,.ref b] l z (FZip z TI TO i1 i2) (PZip a b z TI TO i1 i2) where
 loc := fun i K X K' X' p _ q => by
  obtain ⟨x,y,e1⟩ := p.hTO
  obtain ⟨o1,e2,e3⟩ := p.h1
  obtain ⟨o2,e4,e5⟩ := p.h2
  exact ⟨p.ap,(q _ (.inl rfl)).trans p.hz,(q _ (.inr (.inl rfl))).trans p.hTI,⟨x,y,(q _ (.inr (.inr (.inl rfl)))).trans e1⟩,⟨o1,(q _ (.inr (.inr (.inr (.inl rfl))))).trans e2,e3⟩,⟨o2,(q _ (.inr (.inr (.inr (.inr rfl))))).trans e4,e5⟩⟩
 has := fun i K X b p hb => p.has hb
 nocell := fun i K X b o v p hb q e => by
  obtain ⟨x,y,hTO⟩ := p.hTO
  obtain ⟨o1,q1,_,q1'⟩ := p.h1
  obtain ⟨o2,q2,_,q2'⟩ := p.h2
  rcases hb with rfl | rfl | rfl | rfl | rfl
  ·rw [p.hz] at q; cases q; cases e
  ·rw [p.hTI] at q; cases q; cases e
  ·rw [hTO] at q; cases q; cases e
  ·rw [q1] at q; cases q; rw [q1'] at e; cases e
  ·rw [q2] at q; cases q; rw [q2'] at e; cases e
 self := fun A s K X H i E Q hS p hQ => wpAny_pyIter_zip (s := s) (hS.keepX _ _ p.hz) hQ
 next := fun A s K X H i t hh hS p ⟨l₁,l₂,hl1,hl2,e0⟩ hi ht => by
  obtain ⟨es,kk,pp,rfl⟩ := isTuple_eq ht
  obtain ⟨vs1,n1,e1,r1⟩ := hS.list hl1
  obtain ⟨vs2,n2,e2,r2⟩ := hS.list hl2
  subst e0
  simp only [List.length_zipWith] at hi
  have hx1 : l₁[i]? = some (l₁[i]'(by omega)) := List.getElem?_eq_getElem _
  have hx2 : l₂[i]? = some (l₂[i]'(by omega)) := List.getElem?_eq_getElem _
  obtain ⟨v1,hv1,rv1⟩ := r1.get i hx1
  obtain ⟨v2,hv2,rv2⟩ := r2.get i hx2
  have D := p.apart hS hl1 hl2
  obtain ⟨x,y,hTO⟩ := p.hTO
  obtain ⟨o1,q1,q1'⟩ := p.h1
  obtain ⟨o2,q2,q2'⟩ := p.h2
  have lt : ∀ {c o},X c = some o → @LT.lt Nat instLTNat c s.heap.objs.size := fun h => ltS (hS.keepX _ _ h)
  refine wpAny_pyNext_zip_item (s := s) D (hS.keepX _ _ p.hz) (hS.keepX _ _ p.hTI) (hS.keepX _ _ hTO) ⟨o1,hS.keepX _ _ q1,q1'⟩ ⟨o2,hS.keepX _ _ q2,q2'⟩ (isList_of e1) (isList_of e2) (x := v1) (y := v2) (by simpa using hv1) (by simpa using hv2)
   fun h₁ a1 a2 a3 a4 a5 a6 hk => ⟨_,rfl,?_⟩
  refine wpAny_letOwnedTupleGo_zip (s := { s with heap := h₁ }) a1 fun h₂ hz₂ hs₂ => ?_
  replace hs₂ : Heap.SameBut z h₁ h₂ := hs₂
  obtain ⟨o1',g1,g1'⟩ := a3.extBut hs₂.extBut D.i1z
  obtain ⟨o2',g2,g2'⟩ := a4.extBut hs₂.extBut D.i2z
  have gTO : h₂.get? TO = some (pairO v1 v2) := hs₂.extBut _ _ D.TOz a2
  have gT : h₂.get? s.heap.objs.size = some (pairO v1 v2) := hs₂.extBut _ _ (Nat.ne_of_gt (lt p.hz)) a5
  have gTI : h₂.get? TI = some (pairO (.ref i1) (.ref i2)) := hs₂.extBut _ _ D.TIz (hk _ _ D.TIz D.TITO D.TIi1 D.TIi2 (hS.keepX _ _ p.hTI))
  have hfr := Sat.fresh hS
  have le : Le K (setF K s.heap.objs.size (pairO v1 v2)) := le_setF hfr.1
  have kn : ∀ {c o},X c = some o → setF K s.heap.objs.size (pairO v1 v2) c = none := fun h => by rw [setF_ne (Nat.ne_of_lt (lt h))]; exact hS.apart _ _ h
  refine ⟨setF K s.heap.objs.size (pairO v1 v2),setF (setF (setF X i1 o1') i2 o2') TO (pairO v1 v2),.tup [l₁[i]'(by omega),l₂[i]'(by omega)],?_,?_,le,?_,?_,?_⟩
  ·rw [List.getElem?_zipWith,hx1,hx2]
  ·exact Rep.tup_iff.mpr ⟨_,0,#[v1,v2],rfl,setF_same,Reps.cons (rv1.le le) (Reps.cons (rv2.le le) Reps.nil)⟩
  ·intro c hc
   rw [setF_ne (fun q => hc (.inr (.inr (.inl q)))),setF_ne (fun q => hc (.inr (.inr (.inr (.inr q))))),setF_ne (fun q => hc (.inr (.inr (.inr (.inl q)))))]
  ·refine ⟨p.ap,?_,?_,⟨v1,v2,setF_same⟩,⟨o1',?_,g1'⟩,⟨o2',?_,g2'⟩⟩
   ·rw [setF_ne D.TOz.symm,setF_ne D.i2z.symm,setF_ne D.i1z.symm]; exact p.hz
   ·rw [setF_ne D.TITO,setF_ne D.TIi2,setF_ne D.TIi1]; exact p.hTI
   ·rw [setF_ne D.TOi1.symm,setF_ne D.i12,setF_same]
   ·rw [setF_ne D.TOi2.symm,setF_same]
  ·refine Sat.ext hS (F := FZip z TI TO i1 i2) (fun c hc => p.has hc) (fun c oc hc q => ?_) le (fun c oc q => ?_) (fun c oc q => ?_) (t := s.toks)
   ·exact hs₂.extBut c oc (fun q => hc (.inl q)) (hk c oc (fun q => hc (.inl q)) (fun q => hc (.inr (.inr (.inl q)))) (fun q => hc (.inr (.inr (.inr (.inl q))))) (fun q => hc (.inr (.inr (.inr (.inr q))))) q)
   ·unfold setF at q
    split at q
    ·rename_i z; cases q; subst z; exact .inr ⟨Nat.le_refl _,gT⟩
    ·exact .inl q
   ·unfold setF at q
    split at q
    ·rename_i z'; cases q; subst z'; exact ⟨kn hTO,gTO,.inl (by rw [hTO]; simp)⟩
    split at q
    ·rename_i z'; cases q; subst z'; exact ⟨kn q2,g2,.inl (by rw [q2]; simp)⟩
    split at q
    ·rename_i z'; cases q; subst z'; exact ⟨kn q1,g1,.inl (by rw [q1]; simp)⟩
    rename_i z1 z2 z3
    refine ⟨kn q,?_,.inl (by rw [q]; simp)⟩
    by_cases z4 : c = z
    ·subst z4; rw [p.hz] at q; cases q; exact hz₂
    ·exact hs₂.extBut c oc z4 (hk c oc z4 z1 z3 z2 (hS.keepX _ _ q))
 done := fun A s K X H hh hS p ⟨l₁,l₂,hl1,hl2,e0⟩ => by
  obtain ⟨vs1,n1,e1,r1⟩ := hS.list hl1
  obtain ⟨vs2,n2,e2,r2⟩ := hS.list hl2
  subst e0
  have D := p.apart hS hl1 hl2
  have p' := p
  simp only [List.length_zipWith] at p'
  obtain ⟨x,y,hTO⟩ := p'.hTO
  obtain ⟨o1,q1,q1'⟩ := p'.h1
  obtain ⟨o2,q2,q2'⟩ := p'.h2
  have s1 := reps_size r1
  have s2 := reps_size r2
  refine wpAny_pyNext_zip_end (s := s) hh D (hS.keepX _ _ p.hz) (hS.keepX _ _ p.hTI) (hS.keepX _ _ hTO) ⟨o1,hS.keepX _ _ q1,q1'⟩ ⟨o2,hS.keepX _ _ q2,q2'⟩ (isList_of e1) (isList_of e2) ?_ fun h' hk => ⟨rfl,fun c => if c = z ∨ c = TI ∨ c = TO ∨ c = i1 ∨ c = i2 then none else X c,fun c hc => if_neg hc,fun c hc => if_pos hc,?_⟩
  ·rw [Array.getElem?_eq_none_iff,Array.getElem?_eq_none_iff]; omega
  refine Sat.ext hS (F := FZip z TI TO i1 i2) (fun c hc => p.has hc) (fun c oc hc q => ?_) Le.rfl (fun b o' q => .inl q) (fun c oc q => ?_) (t := s.toks)
  ·exact hk c oc (fun q => hc (.inl q)) (fun q => hc (.inr (.inr (.inl q)))) (fun q => hc (.inr (.inr (.inr (.inl q))))) (fun q => hc (.inr (.inr (.inr (.inr q))))) q
  have hb : ¬ (c = z ∨ c = TI ∨ c = TO ∨ c = i1 ∨ c = i2) := fun z => by rw [if_pos z] at q; cases q
  rw [if_neg hb] at q
  exact ⟨hS.apart _ _ q,hk c oc (fun q => hb (.inl q)) (fun q => hb (.inr (.inr (.inl q)))) (fun q => hb (.inr (.inr (.inr (.inl q))))) (fun q => hb (.inr (.inr (.inr (.inr q))))) (hS.keepX _ _ q),.inl (by rw [q]; simp)⟩
end
section
variable {W : Wx} {rc : Rc} {d : Nat} {cx : Cx} {k : List I} {st : List V} {ρ : Ro} {H : Hp} {Q : Out → Prop} {A : Around} {s : Shared} {K X : Fz} {env : Env}
theorem SlotOk.step {m m' : Str → Option Value} {X' : Fz} {x : Str} {y : Option V} (hm : m' x = m x) (hX : ∀ c oc v,X c = some oc → oc.data = .cell v → X' c = some oc) (h : SlotOk K X env m x y) : SlotOk K X' env m' x y := by
 cases y with
 | none => trivial
 | some y =>
  unfold SlotOk at h ⊢
  cases q : env.scope.names.lookup x with
  | none => rw [q] at h; exact h
  | some kd =>
   rw [q] at h
   cases kd with
   | «local» => obtain ⟨v,a,b⟩ := h; exact ⟨v,hm.trans a,b⟩
   | cell => obtain ⟨c,oc,v,a,b,e,r⟩ := h; exact ⟨c,oc,v,a,hX _ _ _ b e,e,r⟩
   | free => obtain ⟨c,oc,v,a,b,e,r⟩ := h; exact ⟨c,oc,v,a,hX _ _ _ b e,e,r⟩
   | globalExplicit => exact h
   | globalImplicit => exact h
def AT (W : Wx) (d : Nat) (k : List I) (cx : Cx) (env : Env) (st : List V) (Q : Out → Prop) (K X : Fz) (s' : Shared) : Prop :=
 ∃ K' X' H' ρ',Le K K' ∧ (∀ b,b ≠ env.locals → X' b = X b) ∧ W.Sat K' X' H' s' ∧ FrOk W K' X' cx env ρ' ∧ Run W d k st ρ' H' Q
theorem FrOk.hp (F : FrOk W K X cx env ρ) : (env.scope.kind == .class || (env.scope.kind == .module && env.locals != env.globals)) = false := by rw [F.kind]; rfl
theorem nodup_ne {l : List Str} (h : l.Nodup) {i j : Nat} {x y : Str} (hi : l[i]? = some x) (hj : l[j]? = some y) (ne : i ≠ j) : y ≠ x := fun q => by
 subst q
 obtain ⟨li,ei⟩ := List.getElem?_eq_some_iff.mp hi
 exact ne ((List.getElem?_inj li h).mp (hi.trans hj.symm))
theorem bind_local {x : Str} {i : Nat} {y : V} {v : Value} {Q' : Unit → Shared → Prop} (hx : cx.names.lookup x = some .local) (hi : place? cx.vars x = some i) (rv : Rep K y v) (hS : W.Sat K X H s) (F : FrOk W K X cx env ρ)
  (h : ∀ s' X',(∀ b,b ≠ env.locals → X' b = X b) → W.Sat K X' H s' → FrOk W K X' cx env (ρ.set i (some y)) → Q' () s') : wpAny W.M A (storeName env x v) Q' NoE s := by
 have el : env.scope.names.lookup x = some .local := ((F.names x).resolve_right fun q => by rw [hx] at q; cases q.1).trans hx
 obtain ⟨m,⟨o,es,ep,h1,h2,h3,h4⟩,hm⟩ := F.ns
 refine wpAny_storeName_local el ⟨o,es,ep,hS.keepX _ _ h1,h2,h3,h4⟩ (fun h' hn hs => ?_) F.hp
 obtain ⟨o',es',ep',g1,g2,g3,g4⟩ := hn
 refine h _ (setF X env.locals o') (fun b hb => setF_ne hb) (Sat.change hS h1 hs g1) ⟨F.names,F.kind,F.glob,F.blt,F.nd,by rw [List.length_set]; exact F.len,⟨_,⟨o',es',ep',setF_same,g2,g3,g4⟩,fun j z hz => ?_⟩,F.base⟩
 have cellX : ∀ c oc w,X c = some oc → oc.data = .cell w → setF X env.locals o' c = some oc := fun c oc w e e2 => by
  rw [setF_ne]; · exact e
  intro q; subst q; rw [h1] at e; cases e; rw [h2] at e2; cases e2
 by_cases hj : i = j
 ·subst hj
  rw [place_get hi] at hz; cases hz
  have hl : i < ρ.length := by rw [F.len]; exact (List.getElem?_eq_some_iff.mp (place_get hi)).1
  rw [List.getElem?_set_self hl]
  show SlotOk _ _ _ _ _ (some y)
  unfold SlotOk
  rw [el]
  exact ⟨v,if_pos rfl,rv⟩
 ·rw [List.getElem?_set_ne hj]
  exact (hm j z hz).step (if_neg (nodup_ne F.nd (place_get hi) hz hj)) cellX
theorem AT.up {K' X' : Fz} (h : Le K K') (e : ∀ b,b ≠ env.locals → X' b = X b) (p : AT W d k cx env st Q K' X' s) : AT W d k cx env st Q K X s :=
 let ⟨K2,X2,H2,ρ2,a,b,c⟩ := p; ⟨K2,X2,H2,ρ2,h.trans a,fun y hy => (b y hy).trans (e y hy),c⟩
theorem stars_each : ∀ {es : List Expr},es.any starE = false → (assignEach es env) = es.map fun t => (false,assign t env)
 | [],_ => rfl
 | t :: es,h => by
  simp only [List.any_cons,Bool.or_eq_false_iff] at h
  have : assignEach (t :: es) env = (false,assign t env) :: assignEach es env := by
   cases t <;> first | rfl | (exact absurd h.1 (by simp [starE]))
  rw [this,stars_each h.2]; rfl
theorem each_snd {es : List Expr} : (es.map fun t => (false,assign t env)).map (·.2) = es.map fun t => assign t env := by rw [List.map_map]; rfl
theorem each_no : ∀ {es : List Expr},(es.map fun t => (false,assign t env)).findIdx? (·.1) = none
 | [] => rfl
 | t :: es => by simp [List.findIdx?_cons]
theorem at_each {cd : Expr → List I} {T : List Expr} (hh : Room d A) (one : ∀ t ∈ T,∀ {x v st ρ H k} {K X : Fz} {s : Shared},Run W d (cd t ++ k) (x :: st) ρ H Q → Rep K x v → W.Sat K X H s → FrOk W K X cx env ρ → wpAny W.M A (assign t env v) (fun _ s' => AT W d k cx env st Q K X s') NoE s) :
  ∀ {es : List Expr} {l : List V} {vs : List Value} {ρ H} {K X : Fz} {s : Shared},(∀ t ∈ es,t ∈ T) → l.length = es.length → Run W d (es.flatMap cd ++ k) (l ++ st) ρ H Q → Reps K l vs → W.Sat K X H s → FrOk W K X cx env ρ →
   wpAny W.M A (assignInOrder (es.map fun t => assign t env) vs) (fun _ s' => AT W d k cx env st Q K X s') NoE s
 | [],[],vs,ρ,H,K,X,s,_,_,h,r,hS,F => by
  rw [Reps.nil_iff.mp r]
  exact wpAny_pure ⟨K,X,H,ρ,Le.rfl,fun _ _ => rfl,hS,F,h⟩
 | t :: es,x :: l,vs,ρ,H,K,X,s,hT,hl,h,r,hS,F => by
  obtain ⟨v,r',rfl,rv,rr⟩ := Reps.cons_iff.mp r
  rw [List.flatMap_cons,List.append_assoc] at h
  refine wpAny_bind (wpAny_holding (wpAny_mono (one t (hT t (.head _)) h rv hS F) (fun _ s' ⟨K',X',H',ρ',le,eX,hS',F',h'⟩ => ?_) fun _ _ e => e))
  exact wpAny_mono (at_each hh one (fun t ht => hT t (.tail _ ht)) (by simpa using hl) h' (rr.le le) hS' F') (fun _ _ p => p.up le eX) fun _ _ e => e
theorem at_tuple {cd : Expr → List I} {es : List Expr} {kk pos} {x : V} {v : Value} (hA : Room d A) (hst : es.any starE = false)
  (one : ∀ t ∈ es,∀ {x v st ρ H k} {K X : Fz} {s : Shared},Run W d (cd t ++ k) (x :: st) ρ H Q → Rep K x v → W.Sat K X H s → FrOk W K X cx env ρ → wpAny W.M A (assign t env v) (fun _ s' => AT W d k cx env st Q K X s') NoE s)
  (h : Run W d (.unp es.length :: es.flatMap cd ++ k) (x :: st) ρ H Q) (rv : Rep K x v) (hS : W.Sat K X H s) (F : FrOk W K X cx env ρ) :
  wpAny W.M A (assign (.Tuple es kk pos) env v) (fun _ s' => AT W d k cx env st Q K X s') NoE s := by
 rw [List.cons_append] at h
 cases h
 rename_i l hl h
 obtain ⟨a,n,vs,rfl,e1,r⟩ := Rep.tup_iff.mp rv
 refine wpAny_assign_Tuple hA.handled ⟨_,hS.keep _ _ e1,rfl,_,rfl⟩ (by rw [stars_each hst,List.length_map,reps_size r,hl]) (by rw [stars_each hst]; exact each_no) fun h' hx => ?_
 rw [stars_each hst,each_snd]
 have S' : W.Sat K X H { s with heap := h' } := by
  refine Sat.ext hS (F := fun _ => False) (fun _ f => f.elim) (fun b o _ q => hx b o (Nat.ne_of_lt (ltS q)) q) Le.rfl (fun b o q => .inl q) (fun b o q => ⟨hS.apart _ _ q,hx b o (Nat.ne_of_lt (ltS (hS.keepX _ _ q))) (hS.keepX _ _ q),.inl (by rw [q]; simp)⟩) (t := s.toks)
 exact at_each hA one (fun t ht => ht) hl h r S' F
theorem compT0_succ (n : Nat) (cx : Cx) (t : Expr) : compT0 (n + 1) cx t = match t with
 | .Name x _ => (match cx.names.lookup x,place? cx.vars x with | some .local,some i => [.sto i] | _,_ => [.bad])
 | .Tuple es _ _ => if es.any starE then [.bad] else .unp es.length :: es.flatMap (compT0 n cx)
 | _ => [.bad] := by cases t <;> rfl
theorem at_t0 (hA : Room d A) : ∀ (n : Nat) {t : Expr} {x v st ρ H k} {K X : Fz} {s : Shared},Run W d (compT0 n cx t ++ k) (x :: st) ρ H Q → Rep K x v → W.Sat K X H s → FrOk W K X cx env ρ →
  wpAny W.M A (assign t env v) (fun _ s' => AT W d k cx env st Q K X s') NoE s
 | 0,t,x,v,st,ρ,H,k,K,X,s,h,_,_,_ => by unfold compT0 at h; cases h
 | n + 1,t,x,v,st,ρ,H,k,K,X,s,h,rv,hS,F => by
  rw [compT0_succ] at h
  split at h
  ·split at h
   ·rename_i i hx hi
    rw [List.singleton_append] at h
    cases h
    rename_i hlt h
    exact wpAny_assign_Name (bind_local hx hi rv hS F fun s' X' eX hS' F' => ⟨K,X',H,_,Le.rfl,eX,hS',F',h⟩)
   ·cases h
  ·split at h
   ·cases h
   ·rename_i hst
    exact at_tuple hA (by simpa using hst) (fun t _ => at_t0 hA n) h rv hS F
  ·cases h
end
section
variable {W : Wx} {rc : Rc} {d : Nat} {cx : Cx} {k : List I} {st : List V} {ρ : Ro} {H : Hp} {Q : Out → Prop} {A : Around} {s : Shared} {K X : Fz} {env : Env}
def Begun (W : Wx) (kd : Kd) (G : List V → Hp → List V → Prop) (K X : Fz) (v : Value) (s' : Shared) : Prop :=
 ∃ K' X' H' args l I F P,v = .ref I ∧ Le K K' ∧ W.Sat K' X' H' s' ∧ (∀ b,¬ F b → X' b = X b) ∧ (∀ b,F b → X b = none) ∧ Src H' kd args l ∧ G args H' l ∧ Itr W kd args l I F P ∧ P 0 K' X'
theorem Begun.up {kd : Kd} {G : List V → Hp → List V → Prop} {K' : Fz} {v : Value} (h : Le K K') (p : Begun W kd G K' X v s) : Begun W kd G K X v s :=
 let ⟨K2,X2,H2,args,l,I,F,P,a,b,c⟩ := p; ⟨K2,X2,H2,args,l,I,F,P,a,h.trans b,c⟩
theorem begin_plain {G : List V → Hp → List V → Prop} {x : V} {v : Value} {l : List V} (hS : W.Sat K X H s) (rv : Rep K x v) (hs : Src H .plain [x] l) (hG : G [x] H l) : wpAny W.M A (pyIter v) (fun it s' => Begun W .plain G K X it s') NoE s := by
 have hfr := Sat.fresh hS
 cases x <;> try exact hs.elim
 ·rename_i l₀
  have hs' : l₀ = l := hs
  obtain ⟨a,n,vs,rfl,e1,r⟩ := Rep.tup_iff.mp rv
  refine wpAny_pyIter_tuple (s := s) ⟨_,hS.keep _ _ e1,rfl,n,rfl⟩ ?_
  refine ⟨K,_,H,_,l,_,(· = s.heap.objs.size),PTup l s.heap.objs.size,rfl,Le.rfl,Sat.hold hS _ rfl (t := s.toks),fun b hb => setF_ne hb,fun b hb => by rw [hb]; exact hfr.2.1,hs,hG,itr_tup _ _ _,⟨a,vs,n,_,e1,by rw [← hs']; exact r,setF_same,rfl,rfl⟩⟩
 ·rename_i a
  obtain rfl := Rep.ref_iff.mp rv
  have e : H a = some (.list l) := hs
  obtain ⟨vs,n,e1,r⟩ := hS.list e
  refine wpAny_pyIter_list (s := s) (isList_of e1) ?_
  refine ⟨K,_,H,_,l,_,(· = s.heap.objs.size),PList a s.heap.objs.size,rfl,Le.rfl,Sat.hold hS _ rfl (t := s.toks),fun b hb => setF_ne hb,fun b hb => by rw [hb]; exact hfr.2.1,hs,hG,itr_list _ _ _,⟨_,setF_same,rfl,rfl⟩⟩
theorem begin_range {G : List V → Hp → List V → Prop} {args l : List V} {r : Addr} {a b c : Int} {t u v : Tok} {n : Nat} (hS : W.Sat K X H s) (hr : X r = some { cls := .type "range",dict := none,data := .fields #[.int a t,.int b u,.int c v],slots := #[] })
  (hsm : Builtin.Range.small a b c = true) (hn : Builtin.Range.rangeSize a b c = n) (hl : l = (List.range n).map fun i => .int (a + (i : Nat) * c)) (hs : Src H .range args l) (hG : G args H l) :
  wpAny W.M A (pyIter (.ref r)) (fun it s' => Begun W .range G K X it s') NoE s := by
 have hfr := Sat.fresh hS
 refine wpAny_pyIter_range (s := s) (hS.keepX _ _ hr) hsm ?_
 refine ⟨K,_,H,args,l,_,(· = s.heap.objs.size),PRng a c n s.heap.objs.size,rfl,Le.rfl,Sat.hold hS _ rfl (t := s.toks),fun b hb => setF_ne hb,fun b hb => by rw [hb]; exact hfr.2.1,hs,hG,by rw [hl]; exact itr_rng _ _ _ _ _,?_⟩
 unfold PRng
 rw [setF_same,hn]
 simp
theorem begin_call {G : List V → Hp → List V → Prop} {kd : Kd} {args l : List V} {vs : List Value} {f : Value} (hf : (kd = .range ∧ f = .type "range") ∨ (kd = .enum ∧ f = .type "enumerate") ∨ (kd = .zip ∧ f = .type "zip"))
  (hS : W.Sat K X H s) (r : Reps K args vs) (hs : Src H kd args l) (hG : G args H l) : wpAny W.M A (PySem.call f vs) (fun v s₁ => wpAny W.M A (pyIter v) (fun it s' => Begun W kd G K X it s') NoE s₁) NoE s := by
 have hfr := Sat.fresh hS
 have rng : ∀ {a b c : Int} {t u v : Tok} {n : Nat} {tk : Nat},kd = .range → Builtin.Range.small a b c = true → Builtin.Range.rangeSize a b c = n → l = (List.range n).map (fun i => .int (a + (i : Nat) * c)) →
   wpAny W.M A (pyIter (.ref s.heap.objs.size)) (fun it s' => Begun W kd G K X it s') NoE { s with heap := s.heap.push { cls := .type "range",data := .fields #[.int a t,.int b u,.int c v] },toks := tk } := by
  intro a b c t u v n tk hk hsm hn hl
  subst hk
  have S1 := Sat.hold hS { cls := .type "range",data := .fields #[.int a t,.int b u,.int c v] } rfl (t := tk)
  refine wpAny_mono (begin_range (G := G) S1 setF_same hsm hn hl hs hG) (fun it s' p => ?_) fun _ _ e => e
  obtain ⟨K2,X2,H2,args2,l2,I,F,P,h1,h2,h3,h4,h5,h6,h7,h8,h9⟩ := p
  have nF : ¬ F s.heap.objs.size := fun f => by have := h5 _ f; rw [setF_same] at this; cases this
  refine ⟨K2,fun b => if b = s.heap.objs.size then none else X2 b,H2,args2,l2,I,F,P,h1,h2,Sat.drop h3 fun b o q => ?_,fun b hb => ?_,fun b hb => ?_,h6,h7,h8,h8.loc _ _ _ _ _ h9 Le.rfl fun b hb => ?_⟩
  ·have hb : b ≠ s.heap.objs.size := fun z => by rw [if_pos z] at q; cases q
   rw [if_neg hb] at q; exact q
  ·by_cases z : b = s.heap.objs.size
   ·show (if b = s.heap.objs.size then none else X2 b) = _
    rw [if_pos z,z]; exact hfr.2.1.symm
   ·show (if b = s.heap.objs.size then none else X2 b) = _
    rw [if_neg z,h4 b hb,setF_ne z]
  ·have := h5 b hb
   rw [setF_ne (fun z : b = s.heap.objs.size => nF (z ▸ hb))] at this; exact this
  ·exact if_neg fun z : b = s.heap.objs.size => nF (z ▸ hb)
 rcases hf with ⟨hk,rfl⟩ | ⟨hk,rfl⟩ | ⟨hk,rfl⟩
 ·rw [hk] at hs
  rcases src_range hs with ⟨n,rfl,b1,b2,hl⟩ | ⟨a,b,rfl,b1,b2,b3,b4,hl⟩ | ⟨a,b,c,rfl,b1,b2,b3,b4,b5,b6,hl⟩
  ·obtain ⟨v1,r1,rfl,p1,r⟩ := Reps.cons_iff.mp r
   obtain rfl := Reps.nil_iff.mp r
   obtain ⟨t,rfl⟩ := Rep.int_iff.mp p1
   refine call_range_1 (s := s) (rng hk (n := n.toNat) (small_one (by omega) (by omega) (by omega) (by omega)) ?_ ?_)
   ·rw [rangeSize_one]; split <;> omega
   ·rw [hl]; simp
  ·obtain ⟨v1,r1,rfl,p1,r⟩ := Reps.cons_iff.mp r
   obtain ⟨v2,r2,rfl,p2,r⟩ := Reps.cons_iff.mp r
   obtain rfl := Reps.nil_iff.mp r
   obtain ⟨t,rfl⟩ := Rep.int_iff.mp p1
   obtain ⟨u,rfl⟩ := Rep.int_iff.mp p2
   refine call_range_2 (s := s) (rng hk (n := (b - a).toNat) (small_one (by omega) (by omega) (by omega) (by omega)) ?_ ?_)
   ·rw [rangeSize_one]; split <;> omega
   ·rw [hl]; simp
  ·obtain ⟨v1,r1,rfl,p1,r⟩ := Reps.cons_iff.mp r
   obtain ⟨v2,r2,rfl,p2,r⟩ := Reps.cons_iff.mp r
   obtain ⟨v3,r3,rfl,p3,r⟩ := Reps.cons_iff.mp r
   obtain rfl := Reps.nil_iff.mp r
   obtain ⟨t,rfl⟩ := Rep.int_iff.mp p1
   obtain ⟨u,rfl⟩ := Rep.int_iff.mp p2
   obtain ⟨v,rfl⟩ := Rep.int_iff.mp p3
   have hz : Builtin.Range.rangeSize a b c = 0 := by
    unfold Builtin.Range.rangeSize
    rw [if_pos (by omega),if_neg (by omega)]
   refine call_range_3 (s := s) (by omega) (rng hk (n := 0) ?_ hz ?_) (Or.inl (PyProof.noPylong_small (by omega)))
   ·unfold Builtin.Range.small
    rw [hz]
    simp only [Builtin.Range.rangeFitsLong,Bool.and_eq_true,Bool.or_eq_true,decide_eq_true_eq,beq_self_eq_true,true_or,and_true]
    refine ⟨⟨⟨?_,?_⟩,?_⟩,?_⟩ <;> omega
   ·rw [hl]; rfl
 ·rw [hk] at hs
  obtain ⟨a,l₀,rfl,e,hl⟩ := src_enum hs
  subst hk
  obtain ⟨v1,r1,rfl,p1,r⟩ := Reps.cons_iff.mp r
  obtain rfl := Reps.nil_iff.mp r
  obtain rfl := Rep.ref_iff.mp p1
  obtain ⟨vs,n,e1,r⟩ := hS.list e
  refine call_enumerate_1 (s := s) e1 fun h' he hi hz hk => wpAny_pyIter_enum (s := { s with heap := h' }) he ?_
  obtain ⟨o,g1,g2⟩ := hi
  have f1 := Sat.freshI hS 1
  have ne : s.heap.objs.size + 1 ≠ s.heap.objs.size := by omega
  refine ⟨K,setF (setF X (s.heap.objs.size + 1) (enmO s.heap.objs.size 0 .none)) s.heap.objs.size o,H,_,l,_,_,PEnm a (s.heap.objs.size + 1) s.heap.objs.size,rfl,Le.rfl,?_,fun b hb => ?_,fun b hb => ?_,hs,hG,itr_enm _ _ _ _,ne,⟨.none,?_⟩,o,setF_same,g2⟩
  ·refine Sat.ext hS (F := fun _ => False) (fun _ f => f.elim) (fun b o _ q => hk b o q) Le.rfl (fun b o q => .inl q) (fun b ob q => ?_) (t := s.toks)
   unfold setF at q
   split at q
   ·rename_i z; cases q; subst z; exact ⟨hfr.1,g1,.inr (Nat.le_refl _)⟩
   split at q
   ·rename_i z; cases q; subst z; exact ⟨f1.1,he,.inr (Nat.le_succ _)⟩
   ·exact ⟨hS.apart _ _ q,hk _ _ (hS.keepX _ _ q),.inl (by rw [q]; simp)⟩
  ·rw [setF_ne (fun q => hb (.inr q)),setF_ne (fun q => hb (.inl q))]
  ·rcases hb with rfl | rfl
   ·exact f1.2.1
   ·exact hfr.2.1
  ·rw [setF_ne (neN' ne),setF_same]; rfl
 ·rw [hk] at hs
  obtain ⟨a,b,l₁,l₂,rfl,ea,eb,hl⟩ := src_zip hs
  subst hk
  obtain ⟨v1,r1,rfl,p1,r⟩ := Reps.cons_iff.mp r
  obtain ⟨v2,r2,rfl,p2,r⟩ := Reps.cons_iff.mp r
  obtain rfl := Reps.nil_iff.mp r
  obtain rfl := Rep.ref_iff.mp p1
  obtain rfl := Rep.ref_iff.mp p2
  obtain ⟨vs1,n1,e1,_⟩ := hS.list ea
  obtain ⟨vs2,n2,e2,_⟩ := hS.list eb
  refine call_zip_2 (s := s) (isList_of e1) (isList_of e2) fun h' hz hTI hTO hi1 hi2 hsz hk => wpAny_pyIter_zip (s := { s with heap := h' }) hz ?_
  obtain ⟨o1,g1,g1'⟩ := hi1
  obtain ⟨o2,g2,g2'⟩ := hi2
  have f0 := Sat.freshI hS 0
  have f1 := Sat.freshI hS 1
  have f2 := Sat.freshI hS 2
  have f3 := Sat.freshI hS 3
  have f4 := Sat.freshI hS 4
  have n01 : s.heap.objs.size ≠ s.heap.objs.size + 1 := by omega
  have n02 : s.heap.objs.size ≠ s.heap.objs.size + 2 := by omega
  have n03 : s.heap.objs.size ≠ s.heap.objs.size + 3 := by omega
  have n04 : s.heap.objs.size ≠ s.heap.objs.size + 4 := by omega
  have n12 : s.heap.objs.size + 1 ≠ s.heap.objs.size + 2 := by omega
  have n13 : s.heap.objs.size + 1 ≠ s.heap.objs.size + 3 := by omega
  have n14 : s.heap.objs.size + 1 ≠ s.heap.objs.size + 4 := by omega
  have n23 : s.heap.objs.size + 2 ≠ s.heap.objs.size + 3 := by omega
  have n24 : s.heap.objs.size + 2 ≠ s.heap.objs.size + 4 := by omega
  have n34 : s.heap.objs.size + 3 ≠ s.heap.objs.size + 4 := by omega
  refine ⟨K,setF (setF (setF (setF (setF X s.heap.objs.size o1) (s.heap.objs.size + 1) o2) (s.heap.objs.size + 2) (pairO (.ref s.heap.objs.size) (.ref (s.heap.objs.size + 1)))) (s.heap.objs.size + 3) (pairO .none .none)) (s.heap.objs.size + 4) (zipO (s.heap.objs.size + 2) (s.heap.objs.size + 3)),H,_,l,_,
   FZip (s.heap.objs.size + 4) (s.heap.objs.size + 2) (s.heap.objs.size + 3) s.heap.objs.size (s.heap.objs.size + 1),PZip a b (s.heap.objs.size + 4) (s.heap.objs.size + 2) (s.heap.objs.size + 3) s.heap.objs.size (s.heap.objs.size + 1),rfl,Le.rfl,?_,fun b hb => ?_,fun b hb => ?_,hs,hG,itr_zip _ _ _ _ _ _ _ _,?_⟩
  ·refine Sat.ext hS (F := fun _ => False) (fun _ f => f.elim) (fun b o _ q => hk b o q) Le.rfl (fun b o q => .inl q) (fun b ob q => ?_) (t := s.toks)
   unfold setF at q
   split at q
   ·rename_i z; cases q; subst z; exact ⟨f4.1,hz,.inr (Nat.le_add_right _ _)⟩
   split at q
   ·rename_i z; cases q; subst z; exact ⟨f3.1,hTO,.inr (Nat.le_add_right _ _)⟩
   split at q
   ·rename_i z; cases q; subst z; exact ⟨f2.1,hTI,.inr (Nat.le_add_right _ _)⟩
   split at q
   ·rename_i z; cases q; subst z; exact ⟨f1.1,g2,.inr (Nat.le_add_right _ _)⟩
   split at q
   ·rename_i z; cases q; subst z; exact ⟨f0.1,g1,.inr (Nat.le_refl _)⟩
   ·exact ⟨hS.apart _ _ q,hk _ _ (hS.keepX _ _ q),.inl (by rw [q]; simp)⟩
  ·rw [setF_ne (fun q => hb (.inl q)),setF_ne (fun q => hb (.inr (.inr (.inl q)))),setF_ne (fun q => hb (.inr (.inl q))),setF_ne (fun q => hb (.inr (.inr (.inr (.inr q))))),setF_ne (fun q => hb (.inr (.inr (.inr (.inl q)))))]
  ·rcases hb with rfl | rfl | rfl | rfl | rfl
   ·exact f4.2.1
   ·exact f2.2.1
   ·exact f3.2.1
   ·exact f0.2.1
   ·exact f1.2.1
  ·refine ⟨⟨neN' n24,neN' n34,neN' n04,neN' n14,neN' n23,neN' n02.symm,neN' n12.symm,neN' n03.symm,neN' n13.symm,neN' n01⟩,setF_same,?_,⟨.none,.none,?_⟩,⟨o1,?_,g1'⟩,⟨o2,?_,g2'⟩⟩
   ·rw [setF_ne (neN' n24),setF_ne (neN' n23),setF_same]
   ·rw [setF_ne (neN' n34),setF_same]
   ·rw [setF_ne (neN' n04),setF_ne (neN' n03),setF_ne (neN' n02),setF_ne (neN' n01),setF_same]
   ·rw [setF_ne (neN' n14),setF_ne (neN' n13),setF_ne (neN' n12),setF_same]
end
section
variable {W : Wx} {rc : Rc} {d : Nat} {cx : Cx} {k : List I} {st : List V} {ρ : Ro} {H : Hp} {Q : Out → Prop} {A : Around} {s : Shared} {K X : Fz} {env : Env}
theorem kd_inv {it : Expr} : iterKd cx it = .plain ∨ ∃ x p args pos v,it = .Call (.Name x p) args [] pos ∧ compN cx x = [.lit (.raw v)] ∧ calleeOk v = true ∧
  ((iterKd cx it = .range ∧ v = .type "range") ∨ (iterKd cx it = .enum ∧ v = .type "enumerate") ∨ (iterKd cx it = .zip ∧ v = .type "zip")) := by
 cases it <;> try exact .inl rfl
 rename_i f args kws pos
 cases kws with
 | cons _ _ => exact .inl rfl
 | nil =>
  cases f <;> try exact .inl rfl
  rename_i x p
  by_cases hb : isB cx x = true
  ·have key : ∀ v,btab.lookup x = some v → (x == S "__debug__" || x == S "__classdict__") = false → compN cx x = [.lit (.raw v)] := fun v hv hd => by
    unfold isB at hb
    simp only [Bool.and_eq_true,beq_iff_eq,Option.isNone_iff_eq_none] at hb
    unfold compN
    rw [if_neg (by rw [hd]; simp),hb.1.1]
    simp only [hb.1.2,hv]
   by_cases h1 : x = S "range"
   ·subst h1
    refine .inr ⟨_,_,_,_,.type "range",rfl,key _ (by decide) (by decide),rfl,.inl ⟨?_,rfl⟩⟩
    show (if isB cx (S "range") = true then _ else _) = _
    rw [if_pos hb]; rfl
   by_cases h2 : x = S "enumerate"
   ·subst h2
    refine .inr ⟨_,_,_,_,.type "enumerate",rfl,key _ (by decide) (by decide),rfl,.inr (.inl ⟨?_,rfl⟩)⟩
    show (if isB cx (S "enumerate") = true then _ else _) = _
    rw [if_pos hb]; rfl
   by_cases h3 : x = S "zip"
   ·subst h3
    refine .inr ⟨_,_,_,_,.type "zip",rfl,key _ (by decide) (by decide),rfl,.inr (.inr ⟨?_,rfl⟩)⟩
    show (if isB cx (S "zip") = true then _ else _) = _
    rw [if_pos hb]; rfl
   ·refine .inl ?_
    show (if isB cx x = true then _ else _) = _
    rw [if_pos hb,if_neg (by simpa using h1),if_neg (by simpa using h2),if_neg (by simpa using h3)]
  ·refine .inl ?_
   show (if isB cx x = true then _ else _) = _
   rw [if_neg hb]
theorem it_start (ih : SE W rc) {t it : Expr} (hb : iterBad cx t it = false) {G : List V → Hp → List V → Prop} (hG : ∀ args H',args.length = iterN cx it → Run W d k (args.reverse ++ st) ρ H' Q → ∃ l,Src H' (iterKd cx it) args l ∧ G args H' l)
  (h : Run W d (compI rc cx it ++ k) st ρ H Q) (hA : Room d A) (hS : W.Sat K X H s) (F : FrOk W K X cx env ρ) :
  wpAny W.M A (eval it env) (fun v s₁ => wpAny W.M A (pyIter v) (fun iv s₂ => Begun W (iterKd cx it) G K X iv s₂) NoE s₁) NoE s := by
 rcases kd_inv (cx := cx) (it := it) with hk | ⟨x,p,args,pos,v,rfl,hc,hv,hk⟩
 ·have hN : iterN cx it = 1 := by unfold iterN; rw [hk]
  unfold compI at h
  rw [hk] at h hG ⊢
  refine wpAny_mono (ih _ _ _ _ _ _ _ _ h _ _ _ _ _ hA hS F) (fun v s' ⟨K',x,H',le,hS',rv,hr⟩ => ?_) fun _ _ e => e
  obtain ⟨l,hs,g⟩ := hG [x] H' (by rw [hN]; rfl) hr
  exact wpAny_mono (begin_plain hS' rv hs g) (fun _ _ p => p.up le) fun _ _ e => e
 ·have hN : iterN cx (.Call (.Name x p) args [] pos) = args.length := by unfold iterN; rcases hk with ⟨e,_⟩ | ⟨e,_⟩ | ⟨e,_⟩ <;> rw [e] <;> rfl
  have hst : args.any starE = false := by
   unfold iterBad at hb
   rcases hk with ⟨e,_⟩ | ⟨e,_⟩ | ⟨e,_⟩ <;> rw [e] at hb
   ·exact hb
   ·exact (Bool.or_eq_false_iff.mp hb).1
   ·exact (Bool.or_eq_false_iff.mp hb).1
  have h' : Run W d (compEs rc cx args ++ k) st ρ H Q := by
   unfold compI at h
   rcases hk with ⟨e,_⟩ | ⟨e,_⟩ | ⟨e,_⟩ <;> rw [e] at h <;> exact h
  have he : eval (.Call (.Name x p) args [] pos) env = (do callWith pos (← eval (.Name x p) env) [] (backTo pos (starEach args env)) (backToKw pos (keywordEach [] env))) := rfl
  rw [he]
  refine bindP (R := fun y H' => y = .raw v ∧ H' = H) (wpAny_mono (se_name (d := d) (k := []) (st := []) (Q := fun o => o = .nxt [.raw v] ρ H) (by rw [hc]; exact .lit (.nil rfl)) hS F) (fun _ _ p => p.mono fun x H' hr => ?_) fun _ _ e => e) fun f s' K' x' H' le hS' rv ⟨e1,e2⟩ => ?_
  ·cases hr
   rename_i e
   cases e; exact ⟨rfl,rfl⟩
  subst e1 e2
  obtain rfl := Rep.raw_iff.mp rv
  refine callWith_mine (stars_none hst _ _) (evalArgs_mine hst (wpAny_mono (se_all ih hst h' hA hS' (F.le le)) (fun vs s2 ⟨K2,H2,l,le2,hS2,rl,hl,hr2⟩ => ?_) fun _ _ e => e))
  obtain ⟨l',hs,g⟩ := hG l H2 (by rw [hN]; exact hl) hr2
  exact ⟨keeper_ok hv hS2,wpAny_mono (begin_call hk hS2 rl hs g) (fun _ _ q => wpAny_mono q (fun _ _ p => p.up (le.trans le2)) fun _ _ e => e) fun _ _ e => e⟩
def clStep (env : Env) (cs : List (Str × Addr)) (p : Str × NameKind) : List (Str × Addr) := if p.2 == .free then (p.1,(env.cells.lookup p.1).getD 0) :: cs else cs
theorem closure_ok {sc : Scope} (h : ∀ p ∈ sc.names,p.2 = .free → ∃ c,env.cells.lookup p.1 = some c) : closureFor sc env = pure (sc.names.foldl (clStep env) []) := by
 have key : ∀ (names : List (Str × NameKind)) (cs : List (Str × Addr)),(∀ p ∈ names,p.2 = .free → ∃ c,env.cells.lookup p.1 = some c) →
   (forIn names cs fun x r => (do if (x.2 == .free) = true then do let y ← cellOf env x.1; pure (ForInStep.yield ((x.1,y) :: r)) else pure (ForInStep.yield r) : Sem (ForInStep (List (Str × Addr))))) = pure (names.foldl (clStep env) cs) := by
  intro names
  induction names with
  | nil => intro cs _; rfl
  | cons p r ih =>
   intro cs hp
   rw [List.forIn_cons,List.foldl_cons]
   by_cases q : (p.2 == NameKind.free) = true
   ·have q' : p.2 = .free := by revert q; cases p.2 <;> simp
    obtain ⟨c,hc⟩ := hp p (.head _) q'
    have e : cellOf env p.1 = pure c := by unfold cellOf; rw [hc]
    rw [if_pos q,e,pure_bind,pure_bind]
    have e2 : clStep env cs p = (p.1,c) :: cs := by unfold clStep; rw [if_pos q,hc]; rfl
    rw [e2]
    exact ih _ fun p' h' => hp p' (.tail _ h')
   ·rw [if_neg q,pure_bind]
    have e2 : clStep env cs p = cs := by unfold clStep; rw [if_neg q]
    rw [e2]
    exact ih _ fun p' h' => hp p' (.tail _ h')
 have := key sc.names [] h
 unfold closureFor
 simp only [bind_pure]
 exact this
theorem cl_keep {x : Str} {c : Addr} (hc : env.cells.lookup x = some c) : ∀ (names : List (Str × NameKind)) (cs : List (Str × Addr)),cs.lookup x = some c → (names.foldl (clStep env) cs).lookup x = some c
 | [],_,h => h
 | p :: r,cs,h => by
  rw [List.foldl_cons]
  refine cl_keep hc r _ ?_
  unfold clStep
  split
  ·rw [List.lookup_cons]
   split
   ·rename_i q; rw [← beq_iff_eq.mp q,hc]; rfl
   ·exact h
  ·exact h
theorem cl_get {x : Str} {c : Addr} (hc : env.cells.lookup x = some c) : ∀ (names : List (Str × NameKind)) (cs : List (Str × Addr)),(x,NameKind.free) ∈ names → (names.foldl (clStep env) cs).lookup x = some c
 | p :: r,cs,h => by
  rw [List.foldl_cons]
  rcases List.mem_cons.mp h with rfl | h
  ·refine cl_keep hc r _ ?_
   unfold clStep
   have q : ((x,NameKind.free).snd == NameKind.free) = true := rfl
   rw [if_pos q,List.lookup_cons]
   simp [hc]
  ·exact cl_get hc r _ h
theorem relabel_lookup (env : Env) (x : Str) : ∀ (names : List (Str × NameKind)),
  let l := (names.map fun (n,k) => if (k == NameKind.free && env.scope.kind == .function && env.kindOf n == some .cell) then (n,NameKind.cell) else (n,k)).lookup x
  l = names.lookup x ∨ (names.lookup x = some .free ∧ l = some .cell)
 | [] => .inl rfl
 | (n,kk) :: r => by
  have ih := relabel_lookup env x r
  dsimp only at ih ⊢
  rw [List.map_cons]
  by_cases c : (kk == NameKind.free && env.scope.kind == .function && env.kindOf n == some .cell) = true
  ·rw [if_pos c,List.lookup_cons,List.lookup_cons]
   cases q : x == n with
   | true =>
    refine .inr ⟨?_,rfl⟩
    simp only [Bool.and_eq_true] at c
    have : kk = .free := by have := c.1.1; revert this; cases kk <;> simp
    rw [this]
   | false => exact ih
  ·rw [if_neg c,List.lookup_cons,List.lookup_cons]
   cases q : x == n with
   | true => exact .inl rfl
   | false => exact ih
theorem nodupB_ok : ∀ {l : List Str},nodupB l = true → l.Nodup
 | [],_ => List.nodup_nil
 | x :: r,h => by
  unfold nodupB at h
  simp only [Bool.and_eq_true,Bool.not_eq_true',List.contains_eq_mem,decide_eq_false_iff_not] at h
  exact List.nodup_cons.mpr ⟨h.1,nodupB_ok h.2⟩
structure LcF (cx : Cx) (sc : Scope) : Prop where
 kind : sc.kind = .function
 nd : (cvars sc.names).Nodup
 nocell : ∀ p ∈ sc.names,p.2 ≠ .cell
 loc : ∀ p ∈ sc.names,p.2 = .local → sc.names.lookup p.1 = some .local
 free : ∀ p ∈ sc.names,p.2 = .free → sc.names.lookup p.1 = some .free ∧ (∃ j,place? cx.vars p.1 = some j) ∧ (cx.names.lookup p.1 = some .cell ∨ cx.names.lookup p.1 = some .free)
theorem kindEq {a b : NameKind} (h : (a == b) = true) : a = b := by cases a <;> cases b <;> first | rfl | cases h
theorem optEq {a : Option NameKind} {b : NameKind} (h : (a == some b) = true) : a = some b := by
 cases a with
 | none => cases h
 | some a => exact congrArg some (kindEq h)
theorem lc_f {sc : Scope} (h : lcOk cx sc = true) : LcF cx sc := by
 unfold lcOk at h
 simp only [Bool.and_eq_true,List.all_eq_true,Bool.or_eq_true] at h
 obtain ⟨⟨h1,h2⟩,h3⟩ := h
 refine ⟨?_,nodupB_ok h2,fun p hp q => ?_,fun p hp q => ?_,fun p hp q => ?_⟩
 ·revert h1; cases sc.kind <;> simp
 ·have := (h3 p hp).1.1; rw [q] at this; cases this
 ·rcases (h3 p hp).1.2 with h | h
  ·rw [q] at h; cases h
  ·exact optEq h
 ·rcases (h3 p hp).2 with h | h
  ·rw [q] at h; cases h
  ·exact ⟨optEq h.1.1,Option.isSome_iff_exists.mp h.1.2,h.2.imp optEq optEq⟩
end
section
variable {W : Wx} {rc : Rc} {d : Nat} {cx : Cx} {k : List I} {st : List V} {ρ : Ro} {H : Hp} {Q : Out → Prop} {A : Around} {s : Shared} {K X : Fz} {env : Env}
theorem ne_mono {α : Type} {t : Sem α} {Q Q' : α → Shared → Prop} {E : Value → Shared → Prop} (h : wpAny W.M A t Q NoE s) (g : ∀ a s',Q a s' → Q' a s') : wpAny W.M A t Q' E s := wpAny_mono h g fun _ _ e => e.elim
theorem compLoop_own {R : Result → Shared → Prop} {elt target iter : Expr} {scope : Scope} {pos : Pos} {it acc : Value} {env : Env} (J : Nat → Shared → Prop)
  (turn : ∀ n s,J n s → wpAny W.M A (pyNext it) (fun r s₁ => match r with
   | none => R (.ok .next) s₁
   | some v => wpAny W.M A (letOwnedTupleGo target it v) (fun _ s₁' => wpAny W.M A (assign target env v) (fun _ s₂ => wpAny W.M A (eval elt env) (fun x s₃ =>
     wpAny W.M A (PySem.call (.builtin "list.append") [acc,x]) (fun _ s₄ => ∃ m,m < n ∧ J m s₄) NoE s₃) NoE s₂) NoE s₁') NoE s₁) NoE s)
  (n : Nat) (h : J n s) : codeAny W.M A (.compLoop (.ListComp elt [⟨target,iter,[],0⟩] scope pos) 0 it acc env) R s := by
 refine codeAny_loop rfl J (fun n s hI => ?_) n h
 show wpAny _ _ ((compTurn (.ListComp elt [⟨target,iter,[],0⟩] scope pos) 0 it acc env).onRaise (fun x => do noteFrame x env; theTreesLotGoes x)) _ _ s
 refine wpAny_noted ?_
 rw [compTurn_list1]
 refine wpAny_bind (wpAny_standAt (wpAny_bind (ne_mono (turn n s hI) fun r s₁ h₁ => ?_)))
 cases r with
 | none => exact wpAny_pure h₁
 | some v =>
  refine wpAny_bind (ne_mono h₁ fun _ s₁' h₁' => ?_)
  exact wpAny_bind (ne_mono h₁' fun _ s₂ h₂ => wpAny_bind (wpAny_bind (ne_mono h₂ fun x s₃ h₃ => wpAny_bind (ne_mono h₃ fun _ s₄ h₄ => wpAny_pure (wpAny_pure ⟨rfl,h₄⟩)))))
abbrev clOf (env : Env) (sc : Scope) : List (Str × Addr) := sc.names.foldl (clStep env) []
theorem comp_frame {sc : Scope} (L : LcF cx sc) (F : FrOk W K X cx env ρ) (hs : ∀ j,some j ∈ lcVars cx sc → ∃ y,ρ[j]? = some (some y)) :
  closureFor sc env = pure (clOf env sc) ∧ ∀ K' X' C m,Le K K' → Le X X' → KNs X' C m → W.h₀.get? C = none →
   FrOk W K' X' ⟨sc.names,cvars sc.names⟩ (compEnvC sc (clOf env sc) C env) ((lcVars cx sc).map fun j => j.bind fun j => (ρ[j]?).join) := by
 have hcell : ∀ p ∈ sc.names,p.2 = .free → ∃ j y c oc v,place? cx.vars p.1 = some j ∧ ρ[j]? = some (some y) ∧ env.cells.lookup p.1 = some c ∧ X c = some oc ∧ oc.data = .cell (some v) ∧ Rep K y v := fun p hp q => by
  obtain ⟨h1,⟨j,hj⟩,h2⟩ := L.free p hp q
  have hm : some j ∈ lcVars cx sc := by
   refine List.mem_map.mpr ⟨p.1,?_,?_⟩
   ·refine List.mem_map.mpr ⟨p,List.mem_filter.mpr ⟨hp,?_⟩,rfl⟩
    rw [q]; simp
   ·rw [h1,hj]; rfl
  obtain ⟨y,hy⟩ := hs j hm
  obtain ⟨m,_,hsl⟩ := F.ns
  have := hsl j p.1 (place_get hj)
  rw [join_some hy] at this
  unfold SlotOk at this
  have en : env.scope.names.lookup p.1 = some .cell ∨ env.scope.names.lookup p.1 = some .free := by
   rcases F.names p.1 with e | ⟨_,e⟩
   ·rw [e]; exact h2
   ·exact .inl e
  rcases en with e | e <;> rw [e] at this <;> obtain ⟨c,oc,v,a1,a2,a3,a4⟩ := this <;> exact ⟨j,y,c,oc,v,hj,hy,a1,a2,a3,a4⟩
 refine ⟨closure_ok fun p hp q => by obtain ⟨j,y,c,oc,v,_,_,e,_⟩ := hcell p hp q; exact ⟨c,e⟩,fun K' X' C m le leX hn hb => ⟨fun x => relabel_lookup env x sc.names,L.kind,F.glob,F.blt,L.nd,by simp,⟨m,hn,fun i x hx => ?_⟩,hb⟩⟩
 have e0 : ((lcVars cx sc).map fun j => j.bind fun j => (ρ[j]?).join)[i]? = some ((if sc.names.lookup x == some .free then place? cx.vars x else none).bind fun j => (ρ[j]?).join) := by
  rw [List.getElem?_map,List.getElem?_map]
  rw [show (cvars sc.names)[i]? = some x from hx]; rfl
 rw [e0]
 show SlotOk _ _ _ _ _ ((if sc.names.lookup x == some .free then place? cx.vars x else none).bind fun j => (ρ[j]?).join)
 by_cases q : (sc.names.lookup x == some .free) = true
 ·have q' := optEq q
  obtain ⟨j,y,c,oc,v,h1,h2,h3,h4,h5,h6⟩ := hcell (x,.free) (lookup_mem q') rfl
  rw [if_pos q,h1]
  show SlotOk _ _ _ _ _ (ρ[j]?).join
  rw [join_some h2]
  unfold SlotOk
  have hc := cl_get h3 sc.names [] (lookup_mem q')
  rcases relabel_lookup env x sc.names with e | ⟨_,e⟩
  ·have e' : (compEnvC sc (clOf env sc) C env).scope.names.lookup x = some .free := Eq.trans e q'
   rw [e']
   exact ⟨c,oc,v,hc,leX _ _ h4,h5,h6.le le⟩
  ·have e' : (compEnvC sc (clOf env sc) C env).scope.names.lookup x = some .cell := e
   rw [e']
   exact ⟨c,oc,v,hc,leX _ _ h4,h5,h6.le le⟩
 ·rw [if_neg q]; trivial
end
section
variable {W : Wx} {rc : Rc} {d : Nat} {cx : Cx} {k : List I} {st : List V} {ρ : Ro} {H : Hp} {Q : Out → Prop} {A : Around} {s : Shared} {K X : Fz} {env : Env}
structure BlockEnd (W : Wx) (K X : Fz) (l : List V) (J : Nat → List V → Hp → Prop) (D C : Addr) (s' : Shared) (K' X' : Fz) (H' : Hp) (acc : List V) (vs : Array Value) (n : Nat) : Prop where
 le : Le K K'
 eqX : ∀ b,b ≠ C → b ≠ D → X' b = X b
 sat : W.Sat K' X' H' s'
 hD : X' D = some (listO vs n)
 reps : Reps K' acc vs.toList
 len : acc.length = l.length
 j : J l.length acc H'
 hC : ∃ m,KNs X' C m
 ne : D ≠ C
 xD : X D = none
 xC : X C = none
theorem BlockEnd.leX {l : List V} {J : Nat → List V → Hp → Prop} {D C : Addr} {K' X' : Fz} {H' : Hp} {acc : List V} {vs : Array Value} {n : Nat} (B : BlockEnd W K X l J D C s K' X' H' acc vs n) : Le X X' := fun b o e => by
 rw [B.eqX b (fun q => by rw [q,B.xC] at e; cases e) (fun q => by rw [q,B.xD] at e; cases e)]; exact e
theorem lc_block (ih : SE W rc) {elt t it : Expr} {sc : Scope} {pos : Pos} {kd : Kd} {l args : List V} {I : Addr} {F : Addr → Prop} {P : Nat → Fz → Fz → Prop} {J : Nat → List V → Hp → Prop} {K₂ X₂ : Fz} {ρ₀ : Ro} {RR : Value → Addr → Result → Shared → Prop}
  (L : LcF cx sc) (hA : Room d A) (le : Le K K₂) (hS : W.Sat K₂ X₂ H s) (hX : ∀ b,¬ F b → X₂ b = X b) (hF : ∀ b,F b → X b = none) (itr : Itr W kd args l I F P) (hP : P 0 K₂ X₂) (ht : okT kd t)
  (J0 : J 0 [] H) (hJ : ∀ i acc H,i ≤ l.length → J i acc H → Src H kd args l) (hlen : l.length ≤ 1000)
  (turn : ∀ i x acc H,l[i]? = some x → acc.length = i → J i acc H → Run W d (compT0 8 ⟨sc.names,cvars sc.names⟩ t ++ rc ⟨sc.names,cvars sc.names⟩ elt) [x] ρ₀ H (fun o => match o with | .nxt [y] _ H' => J (i + 1) (acc ++ [y]) H' | _ => False))
  (fr : ∀ K' X' C m,Le K K' → Le X X' → KNs X' C m → W.h₀.get? C = none → FrOk W K' X' ⟨sc.names,cvars sc.names⟩ (compEnvC sc (clOf env sc) C env) ρ₀)
  (fin : ∀ D C s' K' X' H' acc vs n,BlockEnd W K X l J D C s' K' X' H' acc vs n → RR (.ref D) C (.ok .next) s') :
  wpAny W.M A (newList []) (fun acc s₃ => wpAny W.M A (newFunctionEnv sc env.globals (clOf env sc) [] env.qual none .none (some env)) (fun cenv s₄ =>
   codeAny W.M A (.compStart (.ListComp elt [⟨t,it,[],0⟩] sc pos) 0 (.ref I) acc { cenv with scope := relabel sc env }) (RR acc cenv.locals) s₄) NoE s₃) NoE s := by
 refine wpAny_newObj_type (wpAny_newFunctionEnv L.nocell (by intro y hy; simp at hy) (fun h₁ hns₁ hsb₁ => ?_) L.kind)
 dsimp only at hns₁ hsb₁ ⊢
 have hfr := Sat.fresh hS
 have S3 := Sat.hold hS { cls := .type "list",dict := none,data := .seq ([] : List Value).toArray } rfl (t := s.toks)
 have f4 := Sat.fresh S3
 have hC : ({ s with heap := s.heap.push { cls := .type "list",dict := none,data := .seq ([] : List Value).toArray } } : Shared).heap.objs.size = s.heap.objs.size + 1 := Heap.size_push ..
 generalize hH2 : s.heap.push { cls := .type "list",dict := none,data := .seq ([] : List Value).toArray } = H2 at hns₁ hsb₁ hC S3 f4 ⊢
 replace hC : H2.objs.size = s.heap.objs.size + 1 := hC
 have hDC : s.heap.objs.size ≠ H2.objs.size := by rw [hC]; exact Nat.ne_of_lt (Nat.lt_succ_self _)
 generalize hD : s.heap.objs.size = D at *
 generalize hC' : H2.objs.size = C at *
 obtain ⟨oC,esC,epC,c1,c2,c3,c4⟩ := hns₁
 have old : ∀ b o,H2.get? b = some o → h₁.get? b = some o := fun b o e => hsb₁.extBut b o (by rw [← hC']; exact Nat.ne_of_lt (ltS e)) (Heap.get?_push_of_some _ e)
 have S4 : W.Sat K₂ (setF (setF X₂ D { cls := .type "list",dict := none,data := .seq ([] : List Value).toArray }) C oC) H { s with heap := h₁,toks := s.toks + ([] : List (Str × Value)).length } := by
  refine Sat.ext S3 (F := fun _ => False) (fun _ f => f.elim) (fun b o _ q => old b o q) Le.rfl (fun b o q => .inl q) (fun b ob q => ?_) (t := s.toks + ([] : List (Str × Value)).length)
  unfold setF at q
  split at q
  ·rename_i z; cases q; subst z; exact ⟨f4.1,c1,.inr (Nat.le_of_eq hC')⟩
  ·exact ⟨S3.apart _ _ q,old _ _ (S3.keepX _ _ q),.inl (by intro z; rw [show (setF X₂ D _ b) = some ob from q] at z; cases z)⟩
 have nFD : ¬ F D := fun f => by obtain ⟨o,q⟩ := itr.has _ _ _ _ hP f; rw [hfr.2.1] at q; cases q
 have x2C : X₂ C = none := by have := f4.2.1; rwa [setF_ne hDC.symm] at this
 have nFC : ¬ F C := fun f => by obtain ⟨o,q⟩ := itr.has _ _ _ _ hP f; rw [x2C] at q; cases q
 have xD : X D = none := (hX _ nFD).symm.trans hfr.2.1
 have xC : X C = none := (hX _ nFC).symm.trans x2C
 have nF : ∀ b o,X b = some o → ¬ F b := fun b o e f => by rw [hF b f] at e; cases e
 have nD : ∀ b o,X b = some o → b ≠ D := fun b o e q => by rw [q,xD] at e; cases e
 have nC : ∀ b o,X b = some o → b ≠ C := fun b o e q => by rw [q,xC] at e; cases e
 have hb : W.h₀.get? C = none := by
  cases q : W.h₀.get? C with
  | none => rfl
  | some o => have := hS.base _ _ q; rw [f4.1] at this; cases this
 have cC : oC.data = .dict esC epC := c2
 have loop : codeAny W.M A (.compLoop (.ListComp elt [⟨t,it,[],0⟩] sc pos) 0 (.ref I) (.ref D) (compEnvC sc (clOf env sc) C env)) (RR (.ref D) C) { s with heap := h₁,toks := s.toks + ([] : List (Str × Value)).length } := by
  refine compLoop_own (fun n s' => ∃ i K' X' H' acc vs nn,n = l.length + 1 - i ∧ i ≤ l.length ∧ Le K₂ K' ∧ W.Sat K' X' H' s' ∧ P i K' X' ∧ X' D = some (listO vs nn) ∧ Reps K' acc vs.toList ∧ acc.length = i ∧ J i acc H' ∧ (∃ m,KNs X' C m) ∧ (∀ b,¬ F b → b ≠ C → b ≠ D → X' b = X b)) ?_ (l.length + 1)
   ⟨0,K₂,_,H,[],#[],0,rfl,Nat.zero_le _,Le.rfl,S4,?_,?_,Reps.nil,rfl,J0,⟨_,oC,esC,epC,setF_same,c2,c3,c4⟩,?_⟩
  ·rintro n s' ⟨i,K',X',H',acc,vs,nn,rfl,hi,le',S',P',hD',hr',hl',hj',⟨m',hk'⟩,eX'⟩
   by_cases hlt : i < l.length
   ·refine ne_mono (itr.next A s' K' X' H' i t hA.handled S' P' (hJ i acc H' hi hj') hlt ht) fun r s₁ ⟨v,e,hgo⟩ => ?_
    subst e
    refine ne_mono hgo fun _ s₁' ⟨K1,X1,x,hx,rv,le1,eX1,P1,S1⟩ => ?_
    have leX1 : Le X X1 := fun b o e => (eX1 b (nF b o e)).trans ((eX' b (nF b o e) (nC b o e) (nD b o e)).trans e)
    have k1 : KNs X1 C m' := by obtain ⟨o,es,ep,a1,a2⟩ := hk'; exact ⟨o,es,ep,(eX1 C nFC).trans a1,a2⟩
    have F1 := fr K1 X1 C m' ((le.trans le').trans le1) leX1 k1 hb
    refine ne_mono (at_t0 hA 8 (turn i x acc H' hx hl' hj') rv S1 F1) fun _ s₂ ⟨K2,X2,H2,ρ2,le2,eX2,S2,F2,run2⟩ => ?_
    rw [← List.append_nil (rc ⟨sc.names,cvars sc.names⟩ elt)] at run2
    refine ne_mono (ih d ⟨sc.names,cvars sc.names⟩ elt [] [] ρ2 H2 _ run2 A s₂ K2 X2 _ hA S2 F2) fun y s₃ ⟨K3,yv,H3,le3,S3',ry,run3⟩ => ?_
    cases run3
    rename_i run3
    have x2D : X2 D = some (listO vs nn) := (eX2 D hDC).trans ((eX1 D nFD).trans hD')
    have hvs : vs.size = i := by rw [reps_size hr',hl']
    refine wpAny_list_append_plain (s := s₃) ⟨nn,S3'.keepX _ _ x2D⟩ (fun h' hl2 hs2 => ?_) (by rw [hvs,sizeLine_eq]; omega)
    obtain ⟨n2,e2⟩ := hl2
    have S5 := Sat.change S3' x2D hs2 e2 (t := s₃.toks)
    obtain ⟨m2,⟨o2,es2,ep2,b1,b2⟩,_⟩ := F2.ns
    refine ⟨l.length + 1 - (i + 1),by omega,i + 1,K3,_,H3,acc ++ [yv],_,n2,rfl,hlt,((le'.trans le1).trans le2).trans le3,S5,?_,setF_same,?_,by simp [hl'],run3,⟨m2,o2,es2,ep2,?_,b2⟩,?_⟩
    ·refine itr.loc _ _ _ _ _ P1 (le2.trans le3) fun b hb => ?_
     have h1 : b ≠ D := fun q => nFD (q ▸ hb)
     have h2 : b ≠ C := fun q => nFC (q ▸ hb)
     rw [setF_ne h1]; exact eX2 b h2
    ·rw [Array.toList_push]
     exact (hr'.le ((le1.trans le2).trans le3)).append (Reps.cons ry Reps.nil)
    ·rw [setF_ne hDC.symm]; exact b1
    ·intro b hf hc hd
     rw [setF_ne hd,eX2 b hc,eX1 b hf,eX' b hf hc hd]
   ·have hin : i = l.length := by omega
    subst hin
    refine ne_mono (itr.done A s' K' X' H' hA.handled S' P' (hJ _ acc H' hi hj')) fun r s₁ ⟨e,X1,eX1,nX1,S1⟩ => ?_
    subst e
    have k1 : KNs X1 C m' := by obtain ⟨o,es,ep,a1,a2⟩ := hk'; exact ⟨o,es,ep,(eX1 C nFC).trans a1,a2⟩
    exact fin D C s₁ K' X1 H' acc vs nn ⟨le.trans le',fun b hc hd => by
     by_cases f : F b
     ·rw [nX1 b f,hF b f]
     ·rw [eX1 b f,eX' b f hc hd],S1,(eX1 D nFD).trans hD',hr',hl',hj',⟨m',k1⟩,hDC,xD,xC⟩
  ·refine itr.loc _ _ _ _ _ hP Le.rfl fun b hb => ?_
   have h1 : b ≠ D := fun q => nFD (q ▸ hb)
   have h2 : b ≠ C := fun q => nFC (q ▸ hb)
   rw [setF_ne h2,setF_ne h1]
  ·rw [setF_ne hDC,setF_same]
  ·intro b hf hc hd
   rw [setF_ne hc,setF_ne hd,hX b hf]
 have P4 : P 0 K₂ (setF (setF X₂ D { cls := .type "list",dict := none,data := .seq ([] : List Value).toArray }) C oC) := by
  refine itr.loc _ _ _ _ _ hP Le.rfl fun b hb => ?_
  have h1 : b ≠ D := fun q => nFD (q ▸ hb)
  have h2 : b ≠ C := fun q => nFC (q ▸ hb)
  rw [setF_ne h2,setF_ne h1]
 exact codeAny_compStart_list loop (itr.self A _ _ _ _ _ _ _ S4 P4 loop)
end
section
variable {W : Wx} {rc : Rc} {d : Nat} {cx : Cx} {k : List I} {st : List V} {ρ : Ro} {H : Hp} {Q : Out → Prop} {A : Around} {s : Shared} {K X : Fz} {env : Env}
theorem folded_ok {t it : Expr} (h : iterBad cx t it = false) (x : Value) : foldedSetIterable it env x = pure x := by
 cases it <;> first | rfl | (exfalso; revert h; unfold iterBad iterKd isSetE; simp)
theorem okT_of {t it : Expr} (h : iterBad cx t it = false) : okT (iterKd cx it) t := by
 unfold iterBad at h
 unfold okT
 cases q : iterKd cx it <;> rw [q] at h <;> simp_all
def LcG (W : Wx) (d : Nat) (k : List I) (st : List V) (ρ : Ro) (Q : Out → Prop) (kd : Kd) (vs : List (Option Nat)) (t e : List I) (args : List V) (H : Hp) (l : List V) : Prop :=
 ∃ J : Nat → List V → Hp → Prop,J 0 [] H ∧ (∀ i acc H,i ≤ l.length → J i acc H → Src H kd args l) ∧ l.length ≤ 1000 ∧
  (∀ i x acc H,l[i]? = some x → acc.length = i → J i acc H → Run W d (t ++ e) [x] (vs.map fun j => j.bind fun j => (ρ[j]?).join) H (fun o => match o with | .nxt [y] _ H' => J (i + 1) (acc ++ [y]) H' | _ => False)) ∧
  (∀ acc H,acc.length = l.length → J l.length acc H → ∀ a,H a = none → Run W d k (.ref a :: st) ρ (setF H a (.list acc)) Q)
theorem lc_G {kd : Kd} {vs : List (Option Nat)} {t e : List I} {n : Nat} {args : List V} (hn : args.length = n) (h : Run W d (.lc kd n vs t e :: k) (args.reverse ++ st) ρ H Q) : ∃ l,Src H kd args l ∧ LcG W d k st ρ Q kd vs t e args H l := by
 cases h
 rename_i st' l args' J h1 h2 h3 h4 h5 h6 h7
 obtain ⟨e1,rfl⟩ := List.append_inj h4 (by simp [h3,hn])
 have e1 := List.reverse_inj.mp e1
 subst e1
 exact ⟨l,h2 0 [] H (Nat.zero_le _) h6,J,h6,h2,h1,h5,h7⟩
theorem BlockEnd.hand {l : List V} {J : Nat → List V → Hp → Prop} {D C : Addr} {K' X' : Fz} {H' : Hp} {acc : List V} {vs : Array Value} {n : Nat} (B : BlockEnd W K X l J D C s K' X' H' acc vs n) {h' : Heap} (hs : Heap.SameBut C s.heap h') :
  H' D = none ∧ W.Sat K' X (setF H' D (.list acc)) { s with heap := h' } := by
 obtain ⟨m,o,es,ep,c1,c2⟩ := B.hC
 have S1 : W.Sat K' (fun b => if b = C then none else X' b) H' { s with heap := h',toks := s.toks } := by
  refine Sat.ext B.sat (F := (· = C)) (fun b hb => ⟨o,hb ▸ c1⟩) (fun b o hb q => hs.extBut b o hb q) Le.rfl (fun b o q => .inl q) (fun b ob q => ?_)
  have hb : b ≠ C := fun z => by rw [if_pos z] at q; cases q
  rw [if_neg hb] at q
  exact ⟨B.sat.apart _ _ q,hs.extBut _ _ hb (B.sat.keepX _ _ q),.inl (by rw [q]; simp)⟩
 have hD : (fun b => if b = C then none else X' b) D = some (listO vs n) := by
  show (if D = C then none else X' D) = _
  rw [if_neg B.ne]; exact B.hD
 refine Sat.thaw S1 hD (fun b o q => ?_) B.xD (m := .list acc) (fun _ _ e => nomatch e) (Heap.SameBut.refl ..) (fun D' => ⟨vs,n,S1.keepX _ _ hD,B.reps⟩)
 show (if b = C then none else X' b) = _
 rw [if_neg (fun z => by rw [z,B.xC] at q; cases q)]; exact B.leX _ _ q
theorem se_lc (ih : SE W rc) {e : Expr} {gs : List Comprehension} {sc : Scope} {pos : Pos} (h : Run W d (compL rc cx e gs sc ++ k) st ρ H Q) (hA : Room d A) (hS : W.Sat K X H s) (F : FrOk W K X cx env ρ) :
  wpAny W.M A (eval (.ListComp e gs sc pos) env) (PR W d k st ρ Q K X) NoE s := by
 unfold compL at h
 split at h
 ·rename_i t it
  split at h
  ·cases h
  rename_i hb
  simp only [Bool.or_eq_true,Bool.not_eq_true',not_or,Bool.not_eq_true,Bool.not_eq_false] at hb
  have L := lc_f hb.2
  rw [List.cons_append,List.cons_append,List.append_assoc,List.singleton_append] at h
  cases h
  rename_i hs h
  obtain ⟨hclos,fr⟩ := comp_frame L F hs
  rw [eval_ListComp]
  refine wpAny_comprehension_free (use := none) rfl (folded_ok hb.1) hclos L.kind L.loc ?_
  refine wpAny_mono (it_start ih hb.1 (fun args H' hn hr => lc_G hn hr) h hA hS F) (fun x s₁ h₁ => wpAny_mono h₁ (fun iv s₂ p => ?_) fun _ _ e => e) fun _ _ e => e
  obtain ⟨K2,X2,H2,args,l,I,Fp,P,rfl,le,S2,hX,hF,hsrc,⟨J,J0,hJ,hlen,turn,cont⟩,itr,hP⟩ := p
  refine lc_block ih L hA le S2 hX hF itr hP (okT_of hb.1) J0 hJ hlen turn (fun K' X' C m a b c d => fr K' X' C m a b c d) (RR := fun acc C => compPost W.M A NoE none _ acc C) fun D C s' K' X' H' acc vs n B => ?_
  obtain ⟨m,kn⟩ := B.hC
  refine ⟨m,kn.ns B.sat,fun h' hs' => ?_⟩
  have T := B.hand hs'
  exact ⟨K',.ref D,_,B.le,T.2,Rep.ref_iff.mpr rfl,cont acc H' B.len B.j D T.1⟩
 ·cases h
end
section
variable {W : Wx} {rc : Rc} {d : Nat} {cx : Cx} {k : List I} {st : List V} {ρ : Ro} {H : Hp} {Q : Out → Prop} {A : Around} {s : Shared} {K X : Fz} {env : Env}
theorem no_bad {α : Type} {t : Sem α} {Q' : α → Shared → Prop} {E : Value → Shared → Prop} (h : Run W d (I.bad :: k) st ρ H Q) : wpAny W.M A t Q' E s := nomatch h
theorem step_E (ih : SE W rc) (it : ST W rc) : SE W (stepE rc) := by
 intro d cx e k st ρ H Q h A s K X env hA hS F
 cases e
 case Constant c kk pos => exact se_const h hS
 case Name x pos => exact se_name h hS F
 case Attribute e f pos => exact se_attr ih h hA hS F
 case Call f args kws pos =>
  cases kws with
  | nil => exact se_call ih h hA hS F
  | cons _ _ => exact no_bad h
 case BinOp l op r pos => exact se_bin ih h hA hS F
 case UnaryOp op e pos =>
  cases op
  case Not => exact se_not ih it h hA hS F
  case USub => exact se_neg ih h hA hS F
  all_goals exact no_bad h
 case BoolOp op vs pos =>
  rw [arm_eval_BoolOp]
  exact se_bools ih h hA hS F
 case Compare l ops cs pos => exact se_cmp ih h hA hS F
 case IfExp t a b pos => exact se_ifexp ih it h hA hS F
 case Tuple es kk pos => exact se_tup ih h hA hS F
 case List es pos => exact se_lst ih h hA hS F
 case Dict ks vs pos => exact se_dict ih h hA hS F
 case Subscript o i pos => exact se_sub ih h hA hS F
 case ListComp e gs sc pos => exact se_lc ih h hA hS F
 all_goals exact no_bad h
theorem st_value (ih : SE W rc) {e : Expr} (he : ∀ w,isTrue e env w = (do let v ← w; standAt e.pos; holding [v] (truthy v))) (h : Run W d (rc cx e ++ .chk :: k) st ρ H Q) (hA : Room d A) (hS : W.Sat K X H s) (F : FrOk W K X cx env ρ) :
  wpAny W.M A (isTrue e env (eval e env)) (fun b s' => ∃ K' H',Le K K' ∧ W.Sat K' X H' s' ∧ Run W d k (.bool b :: st) ρ H' Q) NoE s := by
 refine wpAny_isTrue_value (wpAny_mono (ih _ _ _ _ _ _ _ _ h _ _ _ _ _ hA hS F) (fun v s' ⟨K',x,H',le,hS',rv,hr⟩ => ?_) fun _ _ e => e) (he _)
 cases hr
 rename_i hr
 obtain rfl := Rep.bool_iff.mp rv
 exact truthy_b ⟨K',H',le,hS',hr⟩
theorem step_T (ih : SE W rc) (it : ST W rc) : ST W (stepE rc) := by
 intro d cx e k st ρ H Q h A s K X env hA hS F
 have SEs := step_E ih it
 have val : ∀ (_ : isTest e = false) (_ : isIfExp e = false),(∀ w,isTrue e env w = (do let v ← w; standAt e.pos; holding [v] (truthy v))) →
   wpAny W.M A (isTrue e env (eval e env)) (fun b s' => ∃ K' H',Le K K' ∧ W.Sat K' X H' s' ∧ Run W d k (.bool b :: st) ρ H' Q) NoE s := fun h1 h2 he => by
  unfold compB at h
  rw [h1,h2] at h
  simp only [Bool.false_eq_true,if_false,List.append_assoc,List.singleton_append] at h
  exact st_value SEs he h hA hS F
 cases e
 case UnaryOp op e pos =>
  cases op
  case Not =>
   have h' : Run W d (compB rc cx e ++ (.notb :: k)) st ρ H Q := by
    have : Run W d ((compB rc cx e ++ [.notb]) ++ k) st ρ H Q := h
    rwa [List.append_assoc] at this
   rw [arm_isTrue_UnaryOp]
   refine wpAny_bind (wpAny_mono (it _ _ _ _ _ _ _ _ h' _ _ _ _ _ hA hS F) (fun b s' ⟨K',H',le,hS',hr⟩ => ?_) fun _ _ e => e)
   cases hr
   rename_i hr
   exact wpAny_pure ⟨K',H',le,hS',hr⟩
  all_goals exact val rfl rfl fun _ => rfl
 case BoolOp op vs pos =>
  rw [arm_isTrue_BoolOp]
  exact st_bools it h hA hS F
 case IfExp t a b pos => exact no_bad h
 case Compare l ops cs pos =>
  have h' : Run W d (compCmp rc cx l ops cs ++ (.chk :: k)) st ρ H Q := by
   have : Run W d ((compCmp rc cx l ops cs ++ [.chk]) ++ k) st ρ H Q := h
   rwa [List.append_assoc] at this
  refine wpAny_mono (st_cmp ih h' (fun hr => by cases hr; exact ⟨_,rfl⟩) hA hS F) (fun b s' ⟨K',H',le,hS',hr⟩ => ?_) fun _ _ e => e
  cases hr
  exact ⟨K',H',le,hS',by assumption⟩
 all_goals exact val rfl rfl fun _ => rfl
theorem sound_E : ∀ n,SE W (compE n) ∧ ST W (compE n)
 | 0 => ⟨fun d cx e k st ρ H Q h A s K X env hA hS F => no_bad h,fun d cx e k st ρ H Q h A s K X env hA hS F => by
   unfold compB at h
   split at h
   ·exact no_bad h
   ·split at h
    ·exact no_bad h
    ·exact no_bad h⟩
 | n + 1 => let ⟨a,b⟩ := sound_E n; ⟨step_E a b,step_T a b⟩
end
section
variable {W : Wx} {rc : Rc} {d : Nat} {cx : Cx} {k : List I} {st : List V} {ρ : Ro} {H : Hp} {Q : Out → Prop} {A : Around} {s : Shared} {K X : Fz} {env : Env}
def XT (W : Wx) (d : Nat) (k : List I) (cx : Cx) (env : Env) (Q : Out → Prop) (K X : Fz) (fl : Flow) (s' : Shared) : Prop :=
 (fl = .next ∧ AT W d k cx env [] Q K X s') ∨ ∃ v x K' X' H',fl = .ret v ∧ Le K K' ∧ (∀ b,b ≠ env.locals → X' b = X b) ∧ W.Sat K' X' H' s' ∧ Rep K' x v ∧ Q (.ret x H')
theorem XT.up {K' X' : Fz} {fl : Flow} (h : Le K K') (e : ∀ b,b ≠ env.locals → X' b = X b) (p : XT W d k cx env Q K' X' fl s) : XT W d k cx env Q K X fl s := by
 rcases p with ⟨a,p⟩ | ⟨v,x,K2,X2,H2,a,b,c,p⟩
 ·exact .inl ⟨a,p.up h e⟩
 ·exact .inr ⟨v,x,K2,X2,H2,a,h.trans b,fun y hy => (c y hy).trans (e y hy),p⟩
def SX (W : Wx) (sc : Sc) : Prop := ∀ d cx t k ρ H Q,Run W d (sc cx t ++ k) [] ρ H Q → ∀ A s K X env,Room d A → W.Sat K X H s → FrOk W K X cx env ρ → wpAny W.M A (exec t env) (XT W d k cx env Q K X) NoE s
theorem sx_all {sc : Sc} (ix : SX W sc) (hA : Room d A) : ∀ {ss : List Stmt} {ρ H} {K X : Fz} {s : Shared},Run W d (compSs sc cx ss ++ k) [] ρ H Q → W.Sat K X H s → FrOk W K X cx env ρ → wpAny W.M A (execs ss env) (XT W d k cx env Q K X) NoE s
 | [],ρ,H,K,X,s,h,hS,F => by
  rw [arm_execs_nil]
  exact wpAny_pure (.inl ⟨rfl,K,X,H,ρ,Le.rfl,fun _ _ => rfl,hS,F,h⟩)
 | t :: r,ρ,H,K,X,s,h,hS,F => by
  unfold compSs at h
  rw [List.append_assoc] at h
  rw [arm_execs_cons]
  refine wpAny_bind (ne_mono (ix _ _ _ _ _ _ _ h _ _ _ _ _ hA hS F) fun fl s' p => ?_)
  rcases p with ⟨rfl,K',X',H',ρ',le,eX,S',F',h'⟩ | ⟨v,x,K2,X2,H2,rfl,p⟩
  ·exact ne_mono (sx_all ix hA h' S' F') fun _ _ q => q.up le eX
  ·exact wpAny_pure (.inr ⟨v,x,K2,X2,H2,rfl,p⟩)
theorem at_T (ih : SE W rc) (hA : Room d A) {t : Expr} {x : V} {v : Value} (h : Run W d (compT rc cx t ++ k) (x :: st) ρ H Q) (rv : Rep K x v) (hS : W.Sat K X H s) (F : FrOk W K X cx env ρ) :
  wpAny W.M A (assign t env v) (fun _ s' => AT W d k cx env st Q K X s') NoE s := by
 unfold compT at h
 split at h
 ·rename_i o f pos
  split at h
  ·rename_i i hi
   rw [List.append_assoc,List.singleton_append] at h
   rw [assign_Attribute]
   refine wpAny_bind (wpAny_holding (ne_mono (ih _ _ _ _ _ _ _ _ h _ _ _ _ _ hA hS F) fun ov s1 ⟨K1,y,H1,le1,S1,ry,hr⟩ => ?_))
   cases hr
   rename_i R hop hk
   have := hop A s1 K1 X [v,ov] hA S1 (Reps.cons (rv.le le1) (Reps.cons ry Reps.nil))
   rw [fid_nm hi] at this
   refine wpAny_bind (wpAny_standAt (wpAny_bind (wpAny_holding (ne_mono this fun _ s2 ⟨K2,H2,le2,S2,hR⟩ => wpAny_rel ?_))))
   exact ⟨K2,X,H2,ρ,le1.trans le2,fun _ _ => rfl,S2,(F.le le1).le le2,hk _ hR⟩
  ·exact no_bad h
 ·rename_i o i pos
  have key : Run W d (rc cx o ++ (rc cx i ++ (.sidx :: k))) (x :: st) ρ H Q → wpAny W.M A (assign (.Subscript o i pos) env v) (fun _ s' => AT W d k cx env st Q K X s') NoE s := fun h => by
   rw [assign_Subscript]
   refine wpAny_bind (wpAny_holding (ne_mono (ih _ _ _ _ _ _ _ _ h _ _ _ _ _ hA hS F) fun ov s1 ⟨K1,y,H1,le1,S1,ry,hr⟩ => ?_))
   refine wpAny_bind (wpAny_holding (ne_mono (ih _ _ _ _ _ _ _ _ hr _ _ _ _ _ hA S1 (F.le le1)) fun iv s2 ⟨K2,z,H2,le2,S2,rz,hr2⟩ => ?_))
   cases hr2
   rename_i R hop hk
   refine wpAny_bind (wpAny_standAt (wpAny_bind (wpAny_holding (ne_mono (hop A s2 K2 X [v,ov,iv] hA S2 (Reps.cons (rv.le (le1.trans le2)) (Reps.cons (ry.le le2) (Reps.cons rz Reps.nil)))) fun _ s3 ⟨K3,H3,le3,S3,hR⟩ => wpAny_rel ?_))))
   exact ⟨K3,X,H3,ρ,(le1.trans le2).trans le3,fun _ _ => rfl,S3,((F.le le1).le le2).le le3,hk _ hR⟩
  split at h
  ·exact no_bad h
  ·simp only [List.append_assoc,List.singleton_append] at h
   exact key h
 ·exact at_t0 hA 8 h rv hS F
theorem compTs_eq : ∀ {es : List Expr},compTs rc cx es = es.flatMap (compT rc cx)
 | [] => rfl
 | t :: r => by unfold compTs; rw [compTs_eq,List.flatMap_cons]
theorem at_A (ih : SE W rc) (hA : Room d A) {t : Expr} {x : V} {v : Value} (h : Run W d (compA rc cx t ++ k) (x :: st) ρ H Q) (rv : Rep K x v) (hS : W.Sat K X H s) (F : FrOk W K X cx env ρ) :
  wpAny W.M A (assign t env v) (fun _ s' => AT W d k cx env st Q K X s') NoE s := by
 unfold compA at h
 split at h
 ·split at h
  ·exact no_bad h
  ·rename_i es kk pos hst
   rw [compTs_eq] at h
   exact at_tuple hA (by simpa using hst) (fun t _ => at_T ih hA) h rv hS F
 ·exact at_T ih hA h rv hS F
end
section
variable {W : Wx} {rc : Rc} {sc : Sc} {d : Nat} {cx : Cx} {k : List I} {st : List V} {ρ : Ro} {H : Hp} {Q : Out → Prop} {A : Around} {s : Shared} {K X : Fz} {env : Env}
theorem XT.of_at {s' : Shared} (h : AT W d k cx env [] Q K X s') : XT W d k cx env Q K X .next s' := .inl ⟨rfl,h⟩
theorem sx_expr (ih : SE W rc) {e pos} (h : Run W d ((if isComp e then [.bad] else rc cx e ++ [.pop]) ++ k) [] ρ H Q) (hA : Room d A) (hS : W.Sat K X H s) (F : FrOk W K X cx env ρ) :
  wpAny W.M A (exec (.Expr e pos) env) (XT W d k cx env Q K X) NoE s := by
 split at h
 ·exact no_bad h
 rename_i hc
 rw [List.append_assoc,List.singleton_append] at h
 refine wpAny_Expr_any (wpAny_mono (ih _ _ _ _ _ _ _ _ h _ _ _ _ _ hA hS F) (fun v s' ⟨K',x,H',le,S',rv,hr⟩ => ?_) fun _ _ e => e) (by unfold interactive; rw [F.kind]; rfl) ?_
 ·cases hr
  rename_i hr
  exact .of_at ⟨K',X,H',ρ,le,fun _ _ => rfl,S',F.le le,hr⟩
 ·cases e <;> first | rfl | (exact absurd rfl hc)
theorem sx_ret (ih : SE W rc) {v pos} (h : Run W d (compO rc cx v ++ [.ret] ++ k) [] ρ H Q) (hA : Room d A) (hS : W.Sat K X H s) (F : FrOk W K X cx env ρ) :
  wpAny W.M A (exec (.Return v pos) env) (XT W d k cx env Q K X) NoE s := by
 rw [List.append_assoc,List.singleton_append] at h
 cases v with
 | none =>
  unfold compO at h
  rw [List.singleton_append] at h
  cases h
  rename_i h
  cases h
  rename_i h
  exact wpAny_Return_none (.inr ⟨_,.none,K,X,H,rfl,Le.rfl,fun _ _ => rfl,hS,Rep.none_iff.mpr rfl,h⟩)
 | some e =>
  refine wpAny_Return_some (wpAny_mono (ih _ _ _ _ _ _ _ _ h _ _ _ _ _ hA hS F) (fun v s' ⟨K',x,H',le,S',rv,hr⟩ => ?_) fun _ _ e => e)
  cases hr
  rename_i hr
  exact .inr ⟨_,x,K',X,H',rfl,le,fun _ _ => rfl,S',rv,hr⟩
theorem sx_if (it : ST W rc) (ix : SX W sc) {t b e pos} (h : Run W d (compB rc cx t ++ [.ite (compSs sc cx b) (compSs sc cx e)] ++ k) [] ρ H Q) (hA : Room d A) (hS : W.Sat K X H s) (F : FrOk W K X cx env ρ) :
  wpAny W.M A (exec (.If t b e pos) env) (XT W d k cx env Q K X) NoE s := by
 rw [List.append_assoc,List.singleton_append] at h
 rw [arm_exec_If]
 refine wpAny_bind (wpAny_standAt (wpAny_bind (wpAny_mono (it _ _ _ _ _ _ _ _ h _ _ _ _ _ hA hS F) (fun c s' ⟨K',H',le,S',hr⟩ => ?_) fun _ _ e => e)))
 cases hr
 rename_i hr
 cases c
 ·exact ne_mono (sx_all ix hA hr S' (F.le le)) fun _ _ p => p.up le fun _ _ => rfl
 ·exact ne_mono (sx_all ix hA hr S' (F.le le)) fun _ _ p => p.up le fun _ _ => rfl
theorem sx_block (ix : SX W sc) (hA : Room d A) {ss : List Stmt} (h : Run W d (compSs sc cx ss) [] ρ H Q) (hS : W.Sat K X H s) (F : FrOk W K X cx env ρ) :
  wpAny W.M A (execs ss env) (fun fl s' => (fl = .next ∧ ∃ K' X' H' ρ',Le K K' ∧ (∀ b,b ≠ env.locals → X' b = X b) ∧ W.Sat K' X' H' s' ∧ FrOk W K' X' cx env ρ' ∧ Q (.nxt [] ρ' H')) ∨
   ∃ v x K' X' H',fl = .ret v ∧ Le K K' ∧ (∀ b,b ≠ env.locals → X' b = X b) ∧ W.Sat K' X' H' s' ∧ Rep K' x v ∧ Q (.ret x H')) NoE s := by
 rw [← List.append_nil (compSs sc cx ss)] at h
 refine ne_mono (sx_all ix hA h hS F) fun fl s' p => ?_
 rcases p with ⟨a,K',X',H',ρ',le,eX,S',F',hr⟩ | p
 ·cases hr
  rename_i hr
  exact .inl ⟨a,K',X',H',ρ',le,eX,S',F',hr⟩
 ·exact .inr p
theorem sx_while (it : ST W rc) (ix : SX W sc) {t b e pos} (h : Run W d ((if e.isEmpty then [.whl (compB rc cx t) (compSs sc cx b)] else [.bad]) ++ k) [] ρ H Q) (hA : Room d A) (hS : W.Sat K X H s) (F : FrOk W K X cx env ρ) :
  wpAny W.M A (exec (.While t b e pos) env) (XT W d k cx env Q K X) NoE s := by
 split at h
 ·rename_i he
  obtain rfl : e = [] := by simpa using he
  rw [List.singleton_append] at h
  cases h
  rename_i J B N Z n ht hb j0 hZ hN
  refine wpAny_While (codeAny_whileLoop (fun n s' => ∃ K' X' H' ρ',Le K K' ∧ (∀ b,b ≠ env.locals → X' b = X b) ∧ W.Sat K' X' H' s' ∧ FrOk W K' X' cx env ρ' ∧ J n ρ' H') ?_ n ⟨K,X,H,ρ,Le.rfl,fun _ _ => rfl,hS,F,j0⟩)
  rintro n s' ⟨K',X',H',ρ',le,eX,S',F',j⟩
  have h1 := ht n ρ' H' j
  rw [← List.append_nil (compB rc cx t)] at h1
  refine ne_mono (it _ _ _ _ _ _ _ _ h1 _ _ _ _ _ hA S' F') fun c s1 ⟨K1,H1,le1,S1,hr⟩ => ?_
  cases hr
  rename_i hr
  cases c
  ·simp only [Bool.false_eq_true,if_false]
   obtain ⟨_,hn⟩ := hr
   exact wpAny_execs_nil (.of_at ⟨K1,X',H1,ρ',le.trans le1,eX,S1,F'.le le1,hN _ _ hn⟩)
  ·simp only [if_true]
   obtain ⟨_,hb'⟩ := hr
   refine ne_mono (sx_block ix hA (hb n ρ' H1 hb') S1 (F'.le le1)) fun fl s2 p => ?_
   rcases p with ⟨rfl,K2,X2,H2,ρ2,le2,eX2,S2,F2,m,hm,j2⟩ | ⟨v,x,K2,X2,H2,rfl,le2,eX2,S2,rv,z⟩
   ·exact ⟨m,hm,K2,X2,H2,ρ2,(le.trans le1).trans le2,fun y hy => (eX2 y hy).trans (eX y hy),S2,F2,j2⟩
   ·exact .inr ⟨v,x,K2,X2,H2,rfl,(le.trans le1).trans le2,fun y hy => (eX2 y hy).trans (eX y hy),S2,rv,hZ _ _ z⟩
 ·exact no_bad h
end
section
variable {W : Wx} {rc : Rc} {sc : Sc} {d : Nat} {cx : Cx} {k : List I} {st : List V} {ρ : Ro} {H : Hp} {Q : Out → Prop} {A : Around} {s : Shared} {K X : Fz} {env : Env}
theorem FrOk.move {X' : Fz} (F : FrOk W K X cx env ρ) (h : ∀ c oc,X c = some oc → (c = env.locals ∨ ∃ v,oc.data = .cell v) → X' c = some oc) : FrOk W K X' cx env ρ :=
 let ⟨m,⟨o,es,ep,a,b⟩,c⟩ := F.ns
 ⟨F.names,F.kind,F.glob,F.blt,F.nd,F.len,⟨m,⟨o,es,ep,h _ _ a (.inl rfl),b⟩,fun i x q => (c i x q).step rfl fun c oc v e e2 => h _ _ e (.inr ⟨_,e2⟩)⟩,F.base⟩
def FrG (W : Wx) (d : Nat) (k : List I) (ρ : Ro) (Q : Out → Prop) (kd : Kd) (t b : List I) (args : List V) (H : Hp) (l : List V) : Prop :=
 ∃ (J : Nat → Ro → Hp → Prop) (Z : V → Hp → Prop),J 0 ρ H ∧ (∀ i ρ H,i ≤ l.length → J i ρ H → Src H kd args l) ∧
  (∀ i x ρ H,l[i]? = some x → J i ρ H → Run W d (t ++ b) [x] ρ H (fun o => match o with | .nxt [] ρ' H' => J (i + 1) ρ' H' | .ret v H' => Z v H' | _ => False)) ∧
  (∀ ρ H,J l.length ρ H → Run W d k [] ρ H Q) ∧ (∀ v H,Z v H → Q (.ret v H))
theorem fr_G {kd : Kd} {t b : List I} {n : Nat} {args : List V} (hn : args.length = n) (h : Run W d (.fr kd n t b :: k) (args.reverse ++ []) ρ H Q) : ∃ l,Src H kd args l ∧ FrG W d k ρ Q kd t b args H l := by
 generalize hq : args.reverse ++ [] = q at h
 cases h with
 | fr J Z h1 h2 h3 h4 h5 h6 h7 =>
  rename_i st' l args'
  obtain ⟨e1,e2⟩ := List.append_inj (hq.trans h2) (by simp [h1,hn])
  subst e2
  have e1 := List.reverse_inj.mp e1
  subst e1
  exact ⟨l,h4 0 ρ H (Nat.zero_le _) h3,J,Z,h3,h4,h5,h6,h7⟩
theorem sx_for (ih : SE W rc) (ix : SX W sc) {t it b e pos} (h : Run W d ((if e.isEmpty && !iterBad cx t it then compI rc cx it ++ [.fr (iterKd cx it) (iterN cx it) (compT0 8 cx t) (compSs sc cx b)] else [.bad]) ++ k) [] ρ H Q) (hA : Room d A) (hS : W.Sat K X H s) (F : FrOk W K X cx env ρ) :
  wpAny W.M A (exec (.For t it b e pos) env) (XT W d k cx env Q K X) NoE s := by
 split at h
 ·rename_i he
  simp only [Bool.and_eq_true,Bool.not_eq_true',List.isEmpty_iff] at he
  obtain ⟨rfl,hb⟩ := he
  rw [List.append_assoc,List.singleton_append] at h
  refine wpAny_For (ne_mono (it_start ih hb (fun args H' hn hr => fr_G hn hr) h hA hS F) fun x s₁ h₁ => ne_mono h₁ fun iv s₂ p => ?_) (folded_ok hb)
  obtain ⟨K2,X2,H2,args,l,I,Fp,P,rfl,le,S2,hX,hF,hsrc,⟨J,Z,J0,hJ,turn,cont,hZ⟩,itr,hP⟩ := p
  have nF : ∀ b o,X b = some o → ¬ Fp b := fun b o e f => by rw [hF b f] at e; cases e
  have nL : ¬ Fp env.locals := by obtain ⟨m,⟨o,es,ep,a,_⟩,_⟩ := F.ns; exact nF _ _ a
  have back : ∀ {K' X' Xr : Fz} {H' : Hp} {s' : Shared},W.Sat K' Xr H' s' → Xr env.locals = X' env.locals → (∀ b,¬ Fp b → b ≠ env.locals → Xr b = X b) → W.Sat K' (fun b => if b = env.locals then X' b else X b) H' s' := fun S' e1 e2 => by
   refine Sat.drop S' fun b o q => ?_
   by_cases z : b = env.locals
   ·rw [show (if b = env.locals then _ else X b) = _ from if_pos z] at q
    rw [z] at q ⊢; rw [e1]; exact q
   ·rw [show (if b = env.locals then _ else X b) = _ from if_neg z] at q
    rw [e2 b (nF b o q) z]; exact q
  refine codeAny_forLoop_any (fun n s' => ∃ i K' X' H' ρ',n = l.length + 1 - i ∧ i ≤ l.length ∧ Le K2 K' ∧ W.Sat K' X' H' s' ∧ P i K' X' ∧ J i ρ' H' ∧ FrOk W K' X' cx env ρ' ∧ (∀ b,¬ Fp b → b ≠ env.locals → X' b = X b)) ?_ (l.length + 1)
   ⟨0,K2,X2,H2,ρ,rfl,Nat.zero_le _,Le.rfl,S2,hP,J0,(F.le le).leX fun b o e => (hX b (nF b o e)).trans e,fun b hb _ => hX b hb⟩
  rintro n s' ⟨i,K',X',H',ρ',rfl,hi,le',S',P',j',F',eX'⟩
  have mv : ∀ {X1 : Fz},(∀ b,¬ Fp b → X1 b = X' b) → ∀ c oc,X' c = some oc → (c = env.locals ∨ ∃ v,oc.data = .cell v) → X1 c = some oc := fun e c oc q hc => by
   refine (e c ?_).trans q
   rcases hc with rfl | ⟨v,hv⟩
   ·exact nL
   ·exact fun f => itr.nocell _ _ _ _ _ _ P' f q hv
  by_cases hlt : i < l.length
  ·refine ne_mono (itr.next A s' K' X' H' i t hA.handled S' P' (hJ i ρ' H' hi j') hlt (okT_of hb)) fun r s₁ ⟨v,e,hgo⟩ => ?_
   subst e
   refine ne_mono hgo fun _ s₁' ⟨K1,X1,x,hx,rv,le1,eX1,P1,S1⟩ => ?_
   have F1 : FrOk W K1 X1 cx env ρ' := (F'.le le1).move (mv eX1)
   refine ne_mono (at_t0 hA 8 (turn i x ρ' H' hx j') rv S1 F1) fun _ s₃ ⟨K3,X3,H3,ρ3,le3,eX3,S3,F3,run3⟩ => ?_
   refine ne_mono (sx_block ix hA run3 S3 F3) fun fl s4 p => ?_
   rcases p with ⟨rfl,K4,X4,H4,ρ4,le4,eX4,S4,F4,j4⟩ | ⟨v,x,K4,X4,H4,rfl,le4,eX4,S4,rv4,z⟩
   ·refine ⟨l.length + 1 - (i + 1),by omega,i + 1,K4,X4,H4,ρ4,rfl,hlt,((le'.trans le1).trans le3).trans le4,S4,itr.loc _ _ _ _ _ P1 (le3.trans le4) fun b hb => ?_,j4,F4,fun b hb hL => ?_⟩
    ·have hL : b ≠ env.locals := fun q => nL (q ▸ hb)
     rw [eX4 b hL,eX3 b hL]
    ·rw [eX4 b hL,eX3 b hL,eX1 b hb,eX' b hb hL]
   ·exact .inr ⟨v,x,K4,_,H4,rfl,(((le.trans le').trans le1).trans le3).trans le4,fun b hb => if_neg hb,back (X' := X4) S4 rfl fun b hb hL => by rw [eX4 b hL,eX3 b hL,eX1 b hb,eX' b hb hL],rv4,hZ _ _ z⟩
  ·have hin : i = l.length := by omega
   subst hin
   refine ne_mono (itr.done A s' K' X' H' hA.handled S' P' (hJ _ ρ' H' hi j')) fun r s₁ ⟨e,X1,eX1,_,S1⟩ => ?_
   subst e
   refine wpAny_execs_nil (.of_at ⟨K',fun b => if b = env.locals then X' b else X b,H',ρ',le.trans le',fun b hb => if_neg hb,back S1 (eX1 _ nL) fun b hb hL => by rw [eX1 b hb,eX' b hb hL],F'.move fun c oc q hc => ?_,cont _ _ j'⟩)
   by_cases z : c = env.locals
   ·rw [show (if c = env.locals then X' c else X c) = _ from if_pos z]; exact q
   ·rw [show (if c = env.locals then X' c else X c) = _ from if_neg z]
    have hc' : ¬ Fp c := by
     rcases hc with rfl | ⟨v,hv⟩
     ·exact nL
     ·exact fun f => itr.nocell _ _ _ _ _ _ P' f q hv
    rw [← eX' c hc' z]; exact q
 ·exact no_bad h
end
section
variable {W : Wx} {rc : Rc} {sc : Sc} {d : Nat} {cx : Cx} {k : List I} {st : List V} {ρ : Ro} {H : Hp} {Q : Out → Prop} {A : Around} {s : Shared} {K X : Fz} {env : Env}
theorem sx_lc_name (ih : SE W rc) {e : Expr} {gs : List Comprehension} {sc : Scope} {pos p spos : Pos} {y : Str} {i : Nat} (hy : cx.names.lookup y = some .local) (hi : place? cx.vars y = some i)
  (hsw : swapsWith (.ListComp e gs sc pos) (some (.Name y p)) spos.line env = pure true) (h : Run W d (compL rc cx e gs sc ++ (.sto i :: k)) [] ρ H Q) (hA : Room d A) (hS : W.Sat K X H s) (F : FrOk W K X cx env ρ) :
  wpAny W.M A (exec (.Assign [.Name y p] (.ListComp e gs sc pos) spos) env) (XT W d k cx env Q K X) NoE s := by
 unfold compL at h
 split at h
 ·rename_i t it
  split at h
  ·exact no_bad h
  rename_i hb
  simp only [Bool.or_eq_true,Bool.not_eq_true',not_or,Bool.not_eq_true,Bool.not_eq_false] at hb
  have L := lc_f hb.2
  rw [List.cons_append,List.cons_append,List.append_assoc,List.singleton_append] at h
  cases h
  rename_i hs h
  obtain ⟨hclos,fr⟩ := comp_frame L F hs
  rw [exec_Assign_Name_used _ _ _ _ hsw]
  refine wpAny_bind (wpAny_standAt (wpAny_bind ?_))
  show wpAny _ A (do let _ ← comprehension (.ListComp e [⟨t,it,[],0⟩] sc pos) sc env _ (newList []) false (eval it env) (some (assign (.Name y p) env))) _ _ s
  refine wpAny_bind (ne_mono (wpAny_comprehension_free (use := some (assign (.Name y p) env)) (Q := fun _ s' => XT W d k cx env Q K X .next s') rfl (folded_ok hb.1) hclos L.kind L.loc ?_) fun _ s' hq => wpAny_pure (wpAny_pure hq))
  refine ne_mono (it_start ih hb.1 (fun args H' hn hr => lc_G hn hr) h hA hS F) fun x s₁ h₁ => ne_mono h₁ fun iv s₂ p => ?_
  obtain ⟨K2,X2,H2,args,l,I,Fp,P,rfl,le,S2,hX,hF,hsrc,⟨J,J0,hJ,hlen,turn,cont⟩,itr,hP⟩ := p
  refine lc_block ih L hA le S2 hX hF itr hP (okT_of hb.1) J0 hJ hlen turn (fun K' X' C m a b c d => fr K' X' C m a b c d) (RR := fun acc C => compPost W.M A NoE (some (assign (.Name y _) env)) _ acc C) fun D C s' K' X' H' acc vs n B => ?_
  obtain ⟨m,o,es,ep,kn,kn2⟩ := B.hC
  obtain ⟨mL,⟨oL,_,_,eL,_⟩,_⟩ := F.ns
  have nLC : env.locals ≠ C := fun q => by rw [q,B.xC] at eL; cases eL
  have nLD : env.locals ≠ D := fun q => by rw [q,B.xD] at eL; cases eL
  have eD : (fun b => if b = D then none else X' b) D = none := if_pos rfl
  have S3 := Sat.thaw B.sat B.hD (X' := fun b => if b = D then none else X' b) (fun b o q => by
   by_cases z : b = D
   ·have q' : (if b = D then none else X' b) = some o := q
    rw [if_pos z] at q'; cases q'
   ·have q' : (if b = D then none else X' b) = some o := q
    rw [if_neg z] at q'; exact q') eD (m := .list acc) (fun _ _ e => nomatch e) (Heap.SameBut.refl ..) (fun D' => ⟨vs,n,B.sat.keepX _ _ B.hD,B.reps⟩) (t := s'.toks)
  have run := cont acc H' B.len B.j D S3.1
  cases run
  rename_i hlt run
  have F3 : FrOk W K' (fun b => if b = D then none else X' b) cx env ρ := (F.le B.le).leX fun b o e => by
   show (if b = D then none else X' b) = _
   rw [if_neg (fun q => by rw [q,B.xD] at e; cases e)]; exact B.leX b o e
  show wpAny _ A (assign (.Name y _) env (.ref D)) _ _ _
  refine wpAny_assign_Name (bind_local hy hi (Rep.ref_iff.mpr rfl) S3.2 F3 fun s3 X3 eX3 S4 F4 => ?_)
  have x3 : ∀ b,b ≠ env.locals → b ≠ C → b ≠ D → X3 b = X b := fun b h1 h2 h3 => by
   rw [eX3 b h1,if_neg h3,B.eqX b h2 h3]
  have x3C : X3 C = some o := by rw [eX3 C nLC.symm,if_neg B.ne.symm]; exact kn
  have x3D : X3 D = none := by rw [eX3 D nLD.symm]; exact if_pos rfl
  refine ⟨m,⟨o,es,ep,S4.keepX _ _ x3C,kn2⟩,fun h' hs' => .of_at ⟨K',fun b => if b = env.locals then X3 b else X b,_,_,B.le,fun b hb => if_neg hb,?_,F4.move fun c oc q hc => ?_,run⟩⟩
  ·refine Sat.ext S4 (F := (· = C)) (fun b hb => ⟨o,hb ▸ x3C⟩) (fun b o hb q => hs'.extBut b o hb q) Le.rfl (fun b o q => .inl q) (fun b ob q => ?_) (t := s3.toks)
   have q3 : b ≠ C ∧ X3 b = some ob := by
    by_cases z : b = env.locals
    ·have q : (if b = env.locals then X3 b else X b) = some ob := q
     rw [if_pos z] at q
     exact ⟨fun w => nLC (z.symm.trans w),q⟩
    ·have q : (if b = env.locals then X3 b else X b) = some ob := q
     rw [if_neg z] at q
     have h2 : b ≠ C := fun w => by rw [w,B.xC] at q; cases q
     have h3 : b ≠ D := fun w => by rw [w,B.xD] at q; cases q
     exact ⟨h2,(x3 b z h2 h3).trans q⟩
   exact ⟨S4.apart _ _ q3.2,hs'.extBut _ _ q3.1 (S4.keepX _ _ q3.2),.inl (by rw [q3.2]; simp)⟩
  ·by_cases z : c = env.locals
   ·rw [show (if c = env.locals then X3 c else X c) = _ from if_pos z]; exact q
   ·rw [show (if c = env.locals then X3 c else X c) = _ from if_neg z]
    have h2 : c ≠ C := fun w => by
     rcases hc with w' | ⟨v,hv⟩
     ·exact z w'
     ·rw [w,x3C] at q; cases q; rw [kn2.1] at hv; cases hv
    have h3 : c ≠ D := fun w => by rw [w,x3D] at q; cases q
    rw [← x3 c z h2 h3]; exact q
 ·exact no_bad h
end
section
variable {W : Wx} {rc : Rc} {sc : Sc} {d : Nat} {cx : Cx} {k : List I} {st : List V} {ρ : Ro} {H : Hp} {Q : Out → Prop} {A : Around} {s : Shared} {K X : Fz} {env : Env}
theorem sw_cases (v t : Expr) (line : Nat) (env : Env) : (∃ e gs sc pos y p,v = .ListComp e gs sc pos ∧ t = .Name y p ∧ swapsWith v (some t) line env = pure true) ∨ swapsWith v (some t) line env = pure false ∨ (∀ rc cx,stepE rc cx v = [.bad]) := by
 cases v <;> try exact .inr (.inl rfl)
 ·rename_i e gs sc pos
  cases t <;> try exact .inr (.inl rfl)
  rename_i y p
  have e0 : swapsWith (.ListComp e gs sc pos) (some (.Name y p)) line env = pure (env.blockKind == .function && env.kindOf y == some .local && p.line == (Expr.ListComp e gs sc pos).pos.line
   && !(sc.names.any fun (n,k) => n == y && (k == .local || k == .cell))) := rfl
  rw [e0]
  cases (env.blockKind == .function && env.kindOf y == some .local && p.line == (Expr.ListComp e gs sc pos).pos.line && !(sc.names.any fun (n,k) => n == y && (k == .local || k == .cell)))
  ·exact .inr (.inl rfl)
  ·exact .inl ⟨_,_,_,_,_,_,rfl,rfl,rfl⟩
 ·exact .inr (.inr fun _ _ => rfl)
 ·exact .inr (.inr fun _ _ => rfl)
theorem sst_none {t v : Expr} (h : (isTuple t && isTuple v) = false) (h2 : threes t v = false) : swappedStores [t] v env = pure none := by
 cases t <;> try rfl
 ·simp [threes] at h2
 ·cases v <;> first | rfl | cases h
theorem sx_plain (ih : SE W rc) {t v : Expr} {pos : Pos} (hs : swapsWith v (some t) pos.line env = pure false) (hw : swappedStores [t] v env = pure none) (h : Run W d (rc cx v ++ (compA rc cx t ++ k)) [] ρ H Q) (hA : Room d A) (hS : W.Sat K X H s) (F : FrOk W K X cx env ρ) :
  wpAny W.M A (exec (.Assign [t] v pos) env) (XT W d k cx env Q K X) NoE s := by
 refine wpAny_Assign_stores (ne_mono (ih _ _ _ _ _ _ _ _ h _ _ _ _ _ hA hS F) fun vv s1 ⟨K1,x,H1,le1,S1,rv,hr⟩ => ?_) hs hw
 have key : wpAny W.M A (assign t env vv) (fun _ s' => XT W d k cx env Q K X .next s') NoE s1 := ne_mono (at_A ih hA hr rv S1 (F.le le1)) fun _ s2 p => .of_at (p.up le1 fun _ _ => rfl)
 cases t <;> first | exact key | (exact no_bad hr)
theorem fm_two {α β : Type} {f : α → Option β} {a b : α} (h : (List.filterMap f [a,b]).length = 2) : ∃ x y,f a = some x ∧ f b = some y ∧ List.filterMap f [a,b] = [x,y] := by
 cases ha : f a with
 | none => cases hb : f b <;> simp [ha,hb] at h
 | some x =>
  cases hb : f b with
  | none => simp [ha,hb] at h
  | some y => exact ⟨x,y,rfl,rfl,by simp [ha,hb]⟩
theorem sst_tt {ts vs : List Expr} {kk k' : Nat} {p p' : Pos} (h : threes (.Tuple ts kk p) (.Tuple vs k' p') = false) : swappedStores [.Tuple ts kk p] (.Tuple vs k' p') env = pure none ∨
  ∃ x y p1 p2,ts = [.Name x p1,.Name y p2] ∧ x ≠ y ∧ env.kindOf x = some .local ∧ env.kindOf y = some .local ∧ swappedStores [.Tuple ts kk p] (.Tuple vs k' p') env = pure (some [x,y]) := by
 have e : swappedStores [.Tuple ts kk p] (.Tuple vs k' p') env = (if (!(ts.length == 2 || ts.length == 3) || vs.length != ts.length || env.blockKind != .function) = true then pure none else if (vs.any fun | .Starred .. => true | _ => false) = true then pure none else
  let line := (ts.head?.map (·.pos.line)).getD 0
  let names := ts.filterMap fun | .Name id pos => if env.kindOf id == some .local && pos.line == line then some id else none | _ => none
  if (names.length != ts.length || names.eraseDups.length != names.length) = true then pure none else if (vs.all (foldedForSure 8)) = true then pure none else if (vs.all (constantsAlone 8)) = true then unsupported "assign.tuple-of-constant-expressions:order-of-the-stores" else pure (some names)) := rfl
 rw [e]
 unfold threes at h
 simp only [Bool.or_eq_false_iff,Bool.and_eq_false_iff,Bool.not_eq_false'] at h
 split
 ·exact .inl rfl
 rename_i c1
 split
 ·exact .inl rfl
 dsimp only
 split
 ·exact .inl rfl
 rename_i c3
 split
 ·exact .inl rfl
 rename_i c4
 split
 ·rename_i c5
  rcases h.2 with h | h
  ·rw [h] at c5; cases c5
  ·exact absurd h c4
 ·refine .inr ?_
  simp only [Bool.or_eq_true,bne_iff_ne,not_or,Decidable.not_not] at c3
  have hl : ts.length = 2 := by
   simp only [Bool.or_eq_true,Bool.not_eq_true',not_or,Bool.not_eq_false] at c1
   have := c1.1.1
   rw [h.1] at this
   simpa using this
  obtain ⟨a,b,rfl⟩ : ∃ a b,ts = [a,b] := by
   rcases ts with _ | ⟨a,_ | ⟨b,_ | ⟨c,r⟩⟩⟩ <;> simp at hl
   exact ⟨a,b,rfl⟩
  obtain ⟨x,y,h1,h2,h3⟩ := fm_two (c3.1.trans hl)
  rw [h3] at c3 ⊢
  have nm : ∀ {a : Expr} {x : Str} {line : Nat},(match a with | .Name id pos => if (env.kindOf id == some .local && pos.line == line) = true then some id else none | _ => none) = some x → ∃ q,a = .Name x q ∧ env.kindOf x = some .local := by
   intro a x line h
   cases a <;> try cases h
   rename_i id pos
   dsimp only at h
   split at h
   ·rename_i c
    cases h
    exact ⟨pos,rfl,optEq (Bool.and_eq_true_iff.mp c).1⟩
   ·cases h
  obtain ⟨q1,rfl,l1⟩ := nm h1
  obtain ⟨q2,rfl,l2⟩ := nm h2
  refine ⟨x,y,q1,q2,rfl,fun q => ?_,l1,l2,rfl⟩
  subst q
  have := c3.2
  simp [List.eraseDups,List.eraseDupsBy,List.eraseDupsBy.loop] at this
end
section
variable {W : Wx} {rc : Rc} {sc : Sc} {d : Nat} {cx : Cx} {k : List I} {st : List V} {ρ : Ro} {H : Hp} {Q : Out → Prop} {A : Around} {s : Shared} {K X : Fz} {env : Env}
theorem t0_name {x : Str} {p : Pos} {x' : V} (h : Run W d (compT0 8 cx (.Name x p) ++ k) (x' :: st) ρ H Q) : ∃ i,cx.names.lookup x = some .local ∧ place? cx.vars x = some i ∧ Run W d k st (ρ.set i (some x')) H Q := by
 rw [compT0_succ] at h
 dsimp only at h
 split at h
 ·rename_i i hx hi
  rw [List.singleton_append] at h
  cases h
  rename_i hlt h
  exact ⟨i,hx,hi,h⟩
 ·cases h
theorem sx_swap (ih : SE W rc) {x y : Str} {p1 p2 p pos : Pos} {kk : Nat} {v : Expr} (hs : swapsWith v (some (.Tuple [.Name x p1,.Name y p2] kk p)) pos.line env = pure false)
  (hw : swappedStores [.Tuple [.Name x p1,.Name y p2] kk p] v env = pure (some [x,y])) (hne : x ≠ y) (h : Run W d (rc cx v ++ (compA rc cx (.Tuple [.Name x p1,.Name y p2] kk p) ++ k)) [] ρ H Q) (hA : Room d A) (hS : W.Sat K X H s) (F : FrOk W K X cx env ρ) :
  wpAny W.M A (exec (.Assign [.Tuple [.Name x p1,.Name y p2] kk p] v pos) env) (XT W d k cx env Q K X) NoE s := by
 refine PyProof.Rows.Assign_Tuple_swapped (names := [x,y]) (ne_mono (ih _ _ _ _ _ _ _ _ h _ _ _ _ _ hA hS F) fun vv s1 ⟨K1,xv,H1,le1,S1,rv,hr⟩ => ?_) hs hw
 have hr' : Run W d (.unp 2 :: (compT0 8 cx (.Name x p1) ++ (compT0 8 cx (.Name y p2) ++ k))) [xv] ρ H1 Q := by
  have : Run W d ((.unp 2 :: (compT0 8 cx (.Name x p1) ++ (compT0 8 cx (.Name y p2) ++ []))) ++ k) [xv] ρ H1 Q := hr
  simpa only [List.cons_append,List.append_assoc,List.append_nil,List.nil_append] using this
 cases hr'
 rename_i l hl hr'
 obtain ⟨a,b,rfl⟩ : ∃ a b,l = [a,b] := by
  rcases l with _ | ⟨a,_ | ⟨b,_ | ⟨c,r⟩⟩⟩ <;> simp at hl
  exact ⟨a,b,rfl⟩
 obtain ⟨i,hx,hi,hr'⟩ := t0_name hr'
 obtain ⟨j,hy,hj,hr'⟩ := t0_name hr'
 obtain ⟨t,n,vs,rfl,e1,r⟩ := Rep.tup_iff.mp rv
 have hz : [x,y].length = vs.size := by rw [reps_size r]; rfl
 rw [hz]
 refine wpAny_unpackItems_tuple hA.handled ⟨_,S1.keep _ _ e1,rfl,_,rfl⟩ fun h' hx' => ?_
 have S2 : W.Sat K1 X H1 { s1 with heap := h' } := by
  refine Sat.ext S1 (F := fun _ => False) (fun _ f => f.elim) (fun b o _ q => hx' b o (Nat.ne_of_lt (ltS q)) q) Le.rfl (fun b o q => .inl q) (fun b o q => ⟨S1.apart _ _ q,hx' b o (Nat.ne_of_lt (ltS (S1.keepX _ _ q))) (S1.keepX _ _ q),.inl (by rw [q]; simp)⟩) (t := s1.toks)
 obtain ⟨v1,r1,ev,ra,rr⟩ := Reps.cons_iff.mp r
 obtain ⟨v2,r2,ev2,rb,rr2⟩ := Reps.cons_iff.mp rr
 rw [ev,ev2,Reps.nil_iff.mp rr2]
 show wpAny _ _ (do holding [v1] (bindName env y v2); do holding [] (bindName env x v1); pure ()) _ _ _
 refine wpAny_bind (wpAny_holding (wpAny_bindName (bind_local hy hj rb S2 (F.le le1) fun s3 X3 eX3 S3 F3 => ?_)))
 refine wpAny_bind (wpAny_holding (wpAny_bindName (bind_local hx hi ra S3 F3 fun s4 X4 eX4 S4 F4 => wpAny_pure ?_)))
 have nij : i ≠ j := fun q => hne (Option.some.inj ((place_get hi).symm.trans (by rw [q]; exact place_get hj)))
 have hF4 : FrOk W K1 X4 cx env ((ρ.set i (some a)).set j (some b)) := by rw [List.set_comm _ _ nij]; exact F4
 exact .of_at ⟨K1,X4,H1,_,le1,fun c hc => (eX4 c hc).trans (eX3 c hc),S4,hF4,hr'⟩
theorem sx_assign (ih' : SE W rc) (it' : ST W rc) {t v : Expr} {pos : Pos} (h : Run W d ((if (threes t v || lcBad cx t v) = true then [.bad] else stepE rc cx v ++ compA (stepE rc) cx t) ++ k) [] ρ H Q) (hA : Room d A) (hS : W.Sat K X H s) (F : FrOk W K X cx env ρ) :
  wpAny W.M A (exec (.Assign [t] v pos) env) (XT W d k cx env Q K X) NoE s := by
 have ih := step_E ih' it'
 split at h
 ·exact no_bad h
 rename_i hth
 obtain ⟨hth,hlb⟩ : threes t v = false ∧ lcBad cx t v = false := by simpa using hth
 rw [List.append_assoc] at h
 rcases sw_cases v t pos.line env with ⟨e,gs,sc',pos',y,p,rfl,rfl,hsw⟩ | hsw | hbad
 ·have h' : Run W d (compL rc cx e gs sc' ++ (compT0 8 cx (.Name y p) ++ k)) [] ρ H Q := h
  have hl : (cx.names.lookup y == some .local && (place? cx.vars y).isSome) = true := by
   have : (!(cx.names.lookup y == some .local && (place? cx.vars y).isSome)) = false := hlb
   simpa using this
  simp only [Bool.and_eq_true] at hl
  have hy := optEq hl.1
  obtain ⟨i,hi⟩ := Option.isSome_iff_exists.mp hl.2
  rw [compT0_succ] at h'
  dsimp only at h'
  rw [hy,hi] at h'
  exact sx_lc_name ih' hy hi hsw h' hA hS F
 ·by_cases htt : (isTuple t && isTuple v) = true
  ·simp only [Bool.and_eq_true] at htt
   obtain ⟨ts,kk,p,rfl⟩ := isTuple_eq htt.1
   obtain ⟨vs,k',p',rfl⟩ := isTuple_eq htt.2
   rcases sst_tt (env := env) hth with hw | ⟨x,y,p1,p2,rfl,hne,l1,l2,hw⟩
   ·exact sx_plain ih hsw hw h hA hS F
   ·exact sx_swap ih hsw hw hne h hA hS F
  ·exact sx_plain ih hsw (sst_none (by simpa using htt) hth) h hA hS F
 ·rw [hbad] at h
  exact no_bad h
theorem step_X (ih' : SE W rc) (it' : ST W rc) (ix : SX W sc) : SX W (stepS (stepE rc) sc) := by
 intro d cx t k ρ H Q h A s K X env hA hS F
 have ih := step_E ih' it'
 have it := step_T ih' it'
 cases t
 case Assign ts v pos =>
  rcases ts with _ | ⟨t,_ | ⟨_,_⟩⟩
  ·exact no_bad h
  ·exact sx_assign ih' it' h hA hS F
  ·exact no_bad h
 case Expr e pos => exact sx_expr ih h hA hS F
 case Return v pos => exact sx_ret ih h hA hS F
 case If t b e pos => exact sx_if it ix h hA hS F
 case While t b e pos => exact sx_while it ix h hA hS F
 case For t it b e pos => exact sx_for ih ix h hA hS F
 case Pass pos => exact wpAny_Pass (.of_at ⟨K,X,H,ρ,Le.rfl,fun _ _ => rfl,hS,F,h⟩)
 all_goals exact no_bad h
theorem sound_X : ∀ n,SX W (compS n)
 | 0 => fun d cx t k ρ H Q h A s K X env hA hS F => no_bad h
 | n + 1 => step_X (rc := compE 19) (sound_E 19).1 (sound_E 19).2 (sound_X n)
end
section
variable {W : Wx} {d : Nat} {H : Hp} {R : V → Hp → Prop}
theorem zip_rep {K : Fz} {x : Str} {y : V} : ∀ {ps : List Str} {args : List V} {vs : List Value},Reps K args vs → (ps.zip args).lookup x = some y → ∃ v,(ps.zip vs).lookup x = some v ∧ Rep K y v
 | [],_,_,_,h => by simp at h
 | _ :: _,[],_,_,h => by simp at h
 | p :: ps,a :: args,vs,r,h => by
  obtain ⟨v,r',rfl,rv,rr⟩ := Reps.cons_iff.mp r
  rw [List.zip_cons_cons,List.lookup_cons] at h ⊢
  cases q : x == p with
  | true => rw [q] at h; cases h; exact ⟨v,rfl,rv⟩
  | false => rw [q] at h; exact zip_rep rr h
structure DefOk (P : Params) (fa i j : Nat) (ps : List Str) : Prop where
 fn : ∃ qual dV pm c t,(KF P).lookup fa = some (fo i j qual dV pm (.ref c)) ∧ (CA.zip CQ).lookup c = some (some (.str qual t)) ∧
  ∀ (s : Shared) (vs : List Value),(KF P).In s.heap → vs.length = ps.length → BindsTo s (fnOf (dName (dg i j)) qual (dParams (dg i j)) (dBody (dg i j)) (dScope (dg i j)) dV .none .none pm none (.ref c) .none) ⟨vs,[]⟩ (ps.zip vs)
 kind : (dScope (dg i j)).kind = .function
 nocell : ∀ x ∈ (dScope (dg i j)).names,x.2 ≠ .cell
 co : (dScope (dg i j)).isCoroutine = false
 gen : (dScope (dg i j)).isGenerator = false
 loc : ∀ x ∈ ps,(dScope (dg i j)).names.lookup x = some .local
 nd : ps.Nodup
 vnd : (cxOf (dg i j)).vars.Nodup
def ro0 (i j : Nat) (ps : List Str) (args : List V) : Ro := (cxOf (dg i j)).vars.map fun x => (ps.zip args).lookup x
def behind (R : V → Hp → Prop) : Out → Prop | .nxt [] _ H' => R .none H' | .ret v H' => R v H' | _ => False
theorem call_def {fa i j : Nat} {ps : List Str} (D : DefOk W.w.params fa i j ps) {args : List V} (hl : args.length = ps.length) (h : Run W d (codeAt i j) [] (ro0 i j ps args) H (behind R)) : CallW W (d + 1) (.ref fa) args H R := by
 intro A s K X vs hA hS r
 obtain ⟨qual,dV,pm,c,t,f1,f2,f3⟩ := D.fn
 have hcr : s.heap.CodeRec (.ref c) qual := by
  obtain ⟨o,ws,a1,a2,a3⟩ := W.says.2 c _ f2
  exact ⟨c,o,ws,t,rfl,hS.stays _ _ a1,a2,a3⟩
 have hvs : vs.length = ps.length := by rw [r.length,hl]
 have hfr := Sat.fresh hS
 refine codeAny_call_def (fd := fnOf (dName (dg i j)) qual (dParams (dg i j)) (dBody (dg i j)) (dScope (dg i j)) dV .none .none pm none (.ref c) .none) (body := dBody (dg i j)) (binds := ps.zip vs) ?_ (W.frag hS _ _ f1) rfl (W.top.nolimit.keeps hS.stays) hcr rfl (f3 s vs (W.frag hS) hvs) D.nocell (fun x hx => D.loc _ (List.of_mem_zip hx).1) (fun h₀ hns hk => ?_) D.co D.gen D.kind
 ·have := hA.depth; unfold recursionLimit; omega
 obtain ⟨oL,es,ep,c1,c2⟩ := hns
 have S1 : W.Sat K (setF X s.heap.objs.size oL) H { s with heap := h₀,toks := s.toks + (ps.zip vs).length } := by
  refine Sat.ext hS (F := fun _ => False) (fun _ f => f.elim) (fun b o _ q => hk b o q) Le.rfl (fun b o q => .inl q) (fun b ob q => ?_) (t := s.toks + (ps.zip vs).length)
  unfold setF at q
  split at q
  ·rename_i z; cases q; subst z; exact ⟨hfr.1,c1,.inr (Nat.le_refl _)⟩
  ·exact ⟨hS.apart _ _ q,hk _ _ (hS.keepX _ _ q),.inl (by rw [q]; simp)⟩
 have hb : W.h₀.get? s.heap.objs.size = none := by
  cases q : W.h₀.get? s.heap.objs.size with
  | none => rfl
  | some o => have := hS.base _ _ q; rw [hfr.1] at this; cases this
 generalize henv : callEnv (fnOf (dName (dg i j)) qual (dParams (dg i j)) (dBody (dg i j)) (dScope (dg i j)) dV .none .none pm none (.ref c) .none) s.heap.objs.size fa = env
 have eL : env.locals = s.heap.objs.size := by rw [← henv]; rfl
 have eN : env.scope = dScope (dg i j) := by rw [← henv]; rfl
 have F1 : FrOk W K (setF X s.heap.objs.size oL) (cxOf (dg i j)) env (ro0 i j ps args) := by
  refine ⟨fun x => .inl (by rw [eN]; rfl),by rw [eN]; exact D.kind,by rw [← henv]; rfl,by rw [← henv]; rfl,D.vnd,by unfold ro0; simp,⟨_,⟨oL,es,ep,by rw [eL]; exact setF_same,c2⟩,fun n x hx => ?_⟩,by rw [eL]; exact hb⟩
  unfold ro0
  rw [List.getElem?_map,hx]
  show SlotOk _ _ _ _ _ ((ps.zip args).lookup x)
  cases q : (ps.zip args).lookup x with
  | none => trivial
  | some y =>
   obtain ⟨v,hv,rv⟩ := zip_rep r q
   have hp : x ∈ ps := (List.of_mem_zip (lookup_mem q)).1
   unfold SlotOk
   rw [eN,D.loc x hp]
   refine ⟨v,?_,rv⟩
   show List.lookup x (ps.zip vs).reverse = some v
   rw [lookup_reverse_of_nodup]
   ·exact hv
   ·rw [List.map_fst_zip (by omega)]; exact D.nd
 have hR : Room d (A.deeper env) := ⟨hA.handled,by have := hA.depth; show A.depth + 1 + 10 * d ≤ 900; omega,by have := hA.units; show A.units + 3 + 100 * d ≤ 9000; omega⟩
 have dropX : ∀ {K' X' : Fz} {H' : Hp} {s' : Shared},(∀ b,b ≠ env.locals → X' b = setF X s.heap.objs.size oL b) → W.Sat K' X' H' s' → W.Sat K' X H' s' := fun e S' => by
  refine Sat.drop S' fun b o q => ?_
  have hb : b ≠ s.heap.objs.size := fun z => by rw [z,hfr.2.1] at q; cases q
  rw [e b (by rw [eL]; exact hb),setF_ne hb]; exact q
 refine ne_mono (sx_block (sound_X 12) hR (show Run W d (compSs (compS 12) (cxOf (dg i j)) (dBody (dg i j))) [] _ _ _ from h) S1 F1) fun fl s' p => ?_
 rcases p with ⟨rfl,K',X',H',ρ',le,eX,S',_,q⟩ | ⟨v,x,K',X',H',rfl,le,eX,S',rv,q⟩
 ·exact ⟨.none,rfl,K',.none,H',le,dropX eX S',Rep.none_iff.mpr rfl,q⟩
 ·exact ⟨v,rfl,K',x,H',le,dropX eX S',rv,q⟩
end
def psOf (st : Stmt) : List Str := (dParams st).args.map (·.arg)
def defB (i j : Nat) (ps : List Str) : Bool := (dScope (dg i j)).kind == .function && (dScope (dg i j)).names.all (fun x => x.2 != .cell) && !(dScope (dg i j)).isCoroutine && !(dScope (dg i j)).isGenerator &&
 ps.all (fun x => (dScope (dg i j)).names.lookup x == some .local) && nodupB ps && nodupB (cxOf (dg i j)).vars
theorem def_ok {P : Params} {fa i j : Nat} {ps : List Str} (h : defB i j ps = true) (f : ∃ qual dV pm c t,(KF P).lookup fa = some (fo i j qual dV pm (.ref c)) ∧ (CA.zip CQ).lookup c = some (some (.str qual t)) ∧
  ∀ (s : Shared) (vs : List Value),(KF P).In s.heap → vs.length = ps.length → BindsTo s (fnOf (dName (dg i j)) qual (dParams (dg i j)) (dBody (dg i j)) (dScope (dg i j)) dV .none .none pm none (.ref c) .none) ⟨vs,[]⟩ (ps.zip vs)) : DefOk P fa i j ps := by
 unfold defB at h
 simp only [Bool.and_eq_true,List.all_eq_true,Bool.not_eq_true'] at h
 obtain ⟨⟨⟨⟨⟨⟨h1,h2⟩,h3⟩,h4⟩,h5⟩,h6⟩,h7⟩ := h
 refine ⟨f,?_,fun x hx q => ?_,h3,h4,fun x hx => optEq (h5 x hx),nodupB_ok h6,nodupB_ok h7⟩
 ·revert h1; cases (dScope (dg i j)).kind <;> simp
 ·have := h2 x hx; rw [q] at this; cases this
theorem df_62 (P : Params) : DefOk P 62 8 1000 (psOf (dg 8 1000)) := def_ok (by kernel_rfl) ⟨_,_,_,_,_,rfl,rfl,fun s vs hK h => match vs,h with | [a0,a1,a2],_ => by first | exact BindsTo.of_eq (by with_unfolding_all rfl) | exact BindsTo.of_defaults rfl (hK _ _ rfl) rfl rfl rfl⟩
theorem df_69 (P : Params) : DefOk P 69 9 1000 (psOf (dg 9 1000)) := def_ok (by kernel_rfl) ⟨_,_,_,_,_,rfl,rfl,fun s vs hK h => match vs,h with | [a0],_ => by first | exact BindsTo.of_eq (by with_unfolding_all rfl) | exact BindsTo.of_defaults rfl (hK _ _ rfl) rfl rfl rfl⟩
theorem df_76 (P : Params) : DefOk P 76 10 1000 (psOf (dg 10 1000)) := def_ok (by kernel_rfl) ⟨_,_,_,_,_,rfl,rfl,fun s vs hK h => match vs,h with | [a0],_ => by first | exact BindsTo.of_eq (by with_unfolding_all rfl) | exact BindsTo.of_defaults rfl (hK _ _ rfl) rfl rfl rfl⟩
theorem df_83 (P : Params) : DefOk P 83 11 1000 (psOf (dg 11 1000)) := def_ok (by kernel_rfl) ⟨_,_,_,_,_,rfl,rfl,fun s vs hK h => match vs,h with | [a0],_ => by first | exact BindsTo.of_eq (by with_unfolding_all rfl) | exact BindsTo.of_defaults rfl (hK _ _ rfl) rfl rfl rfl⟩
theorem df_90 (P : Params) : DefOk P 90 12 1000 (psOf (dg 12 1000)) := def_ok (by kernel_rfl) ⟨_,_,_,_,_,rfl,rfl,fun s vs hK h => match vs,h with | [a0],_ => by first | exact BindsTo.of_eq (by with_unfolding_all rfl) | exact BindsTo.of_defaults rfl (hK _ _ rfl) rfl rfl rfl⟩
theorem df_98 (P : Params) : DefOk P 98 15 1000 (psOf (dg 15 1000)) := def_ok (by kernel_rfl) ⟨_,_,_,_,_,rfl,rfl,fun s vs hK h => match vs,h with | [a0,a1],_ => by first | exact BindsTo.of_eq (by with_unfolding_all rfl) | exact BindsTo.of_defaults rfl (hK _ _ rfl) rfl rfl rfl⟩
theorem df_105 (P : Params) : DefOk P 105 16 1000 (psOf (dg 16 1000)) := def_ok (by kernel_rfl) ⟨_,_,_,_,_,rfl,rfl,fun s vs hK h => match vs,h with | [a0],_ => by first | exact BindsTo.of_eq (by with_unfolding_all rfl) | exact BindsTo.of_defaults rfl (hK _ _ rfl) rfl rfl rfl⟩
theorem df_112 (P : Params) : DefOk P 112 17 1000 (psOf (dg 17 1000)) := def_ok (by kernel_rfl) ⟨_,_,_,_,_,rfl,rfl,fun s vs hK h => match vs,h with | [a0,a1],_ => by first | exact BindsTo.of_eq (by with_unfolding_all rfl) | exact BindsTo.of_defaults rfl (hK _ _ rfl) rfl rfl rfl⟩
theorem df_140 (P : Params) : DefOk P 140 20 0 (psOf (dg 20 0)) := def_ok (by kernel_rfl) ⟨_,_,_,_,_,rfl,rfl,fun s vs hK h => match vs,h with | [a0,a1,a2],_ => by first | exact BindsTo.of_eq (by with_unfolding_all rfl) | exact BindsTo.of_defaults rfl (hK _ _ rfl) rfl rfl rfl⟩
theorem df_162 (P : Params) : DefOk P 162 20 3 (psOf (dg 20 3)) := def_ok (by kernel_rfl) ⟨_,_,_,_,_,rfl,rfl,fun s vs hK h => match vs,h with | [a0,a1],_ => by first | exact BindsTo.of_eq (by with_unfolding_all rfl) | exact BindsTo.of_defaults rfl (hK _ _ rfl) rfl rfl rfl⟩
theorem df_169 (P : Params) : DefOk P 169 20 4 (psOf (dg 20 4)) := def_ok (by kernel_rfl) ⟨_,_,_,_,_,rfl,rfl,fun s vs hK h => match vs,h with | [a0,a1,a2],_ => by first | exact BindsTo.of_eq (by with_unfolding_all rfl) | exact BindsTo.of_defaults rfl (hK _ _ rfl) rfl rfl rfl⟩
theorem df_248 (P : Params) : DefOk P 248 20 15 (psOf (dg 20 15)) := def_ok (by kernel_rfl) ⟨_,_,_,_,_,rfl,rfl,fun s vs hK h => match vs,h with | [a0,a1],_ => by first | exact BindsTo.of_eq (by with_unfolding_all rfl) | exact BindsTo.of_defaults rfl (hK _ _ rfl) rfl rfl rfl⟩
theorem df_274 (P : Params) : DefOk P 274 22 1 (psOf (dg 22 1)) := def_ok (by kernel_rfl) ⟨_,_,_,_,_,rfl,rfl,fun s vs hK h => match vs,h with | [a0,a1],_ => by first | exact BindsTo.of_eq (by with_unfolding_all rfl) | exact BindsTo.of_defaults rfl (hK _ _ rfl) rfl rfl rfl⟩
theorem df_288 (P : Params) : DefOk P 288 22 3 (psOf (dg 22 3)) := def_ok (by kernel_rfl) ⟨_,_,_,_,_,rfl,rfl,fun s vs hK h => match vs,h with | [a0,a1],_ => by first | exact BindsTo.of_eq (by with_unfolding_all rfl) | exact BindsTo.of_defaults rfl (hK _ _ rfl) rfl rfl rfl⟩
theorem df_300 (P : Params) : DefOk P 300 22 5 (psOf (dg 22 5)) := def_ok (by kernel_rfl) ⟨_,_,_,_,_,rfl,rfl,fun s vs hK h => match vs,h with | [a0,a1],_ => by first | exact BindsTo.of_eq (by with_unfolding_all rfl) | exact BindsTo.of_defaults rfl (hK _ _ rfl) rfl rfl rfl⟩
theorem df_307 (P : Params) : DefOk P 307 22 6 (psOf (dg 22 6)) := def_ok (by kernel_rfl) ⟨_,_,_,_,_,rfl,rfl,fun s vs hK h => match vs,h with | [a0,a1,a2,a3],_ => by first | exact BindsTo.of_eq (by with_unfolding_all rfl) | exact BindsTo.of_defaults rfl (hK _ _ rfl) rfl rfl rfl⟩
theorem df_388 (P : Params) : DefOk P 388 22 18 (psOf (dg 22 18)) := def_ok (by kernel_rfl) ⟨_,_,_,_,_,rfl,rfl,fun s vs hK h => match vs,h with | [a0,a1],_ => by first | exact BindsTo.of_eq (by with_unfolding_all rfl) | exact BindsTo.of_defaults rfl (hK _ _ rfl) rfl rfl rfl⟩
theorem df_428 (P : Params) : DefOk P 428 27 0 (psOf (dg 27 0)) := def_ok (by kernel_rfl) ⟨_,_,_,_,_,rfl,rfl,fun s vs hK h => match vs,h with | [a0,a1],_ => by first | exact BindsTo.of_eq (by with_unfolding_all rfl) | exact BindsTo.of_defaults rfl (hK _ _ rfl) rfl rfl rfl⟩
theorem df_442 (P : Params) : DefOk P 442 27 2 (psOf (dg 27 2)) := def_ok (by kernel_rfl) ⟨_,_,_,_,_,rfl,rfl,fun s vs hK h => match vs,h with | [a0,a1],_ => by first | exact BindsTo.of_eq (by with_unfolding_all rfl) | exact BindsTo.of_defaults rfl (hK _ _ rfl) rfl rfl rfl⟩
theorem df_475 (P : Params) : DefOk P 475 27 7 (psOf (dg 27 7)) := def_ok (by kernel_rfl) ⟨_,_,_,_,_,rfl,rfl,fun s vs hK h => match vs,h with | [a0,a1],_ => by first | exact BindsTo.of_eq (by with_unfolding_all rfl) | exact BindsTo.of_defaults rfl (hK _ _ rfl) rfl rfl rfl⟩
theorem df_487 (P : Params) : DefOk P 487 28 1000 (psOf (dg 28 1000)) := def_ok (by kernel_rfl) ⟨_,_,_,_,_,rfl,rfl,fun s vs hK h => match vs,h with | [a0,a1],_ => by first | exact BindsTo.of_eq (by with_unfolding_all rfl) | exact BindsTo.of_defaults rfl (hK _ _ rfl) rfl rfl rfl⟩
theorem df_501 (P : Params) : DefOk P 501 29 0 (psOf (dg 29 0)) := def_ok (by kernel_rfl) ⟨_,_,_,_,_,rfl,rfl,fun s vs hK h => match vs,h with | [a0,a1,a2],_ => by first | exact BindsTo.of_eq (by with_unfolding_all rfl) | exact BindsTo.of_defaults rfl (hK _ _ rfl) rfl rfl rfl⟩
theorem df_508 (P : Params) : DefOk P 508 29 1 (psOf (dg 29 1)) := def_ok (by kernel_rfl) ⟨_,_,_,_,_,rfl,rfl,fun s vs hK h => match vs,h with | [a0,a1],_ => by first | exact BindsTo.of_eq (by with_unfolding_all rfl) | exact BindsTo.of_defaults rfl (hK _ _ rfl) rfl rfl rfl⟩
theorem df_515 (P : Params) : DefOk P 515 29 2 (psOf (dg 29 2)) := def_ok (by kernel_rfl) ⟨_,_,_,_,_,rfl,rfl,fun s vs hK h => match vs,h with | [a0,a1],_ => by first | exact BindsTo.of_eq (by with_unfolding_all rfl) | exact BindsTo.of_defaults rfl (hK _ _ rfl) rfl rfl rfl⟩
theorem df_522 (P : Params) : DefOk P 522 29 3 (psOf (dg 29 3)) := def_ok (by kernel_rfl) ⟨_,_,_,_,_,rfl,rfl,fun s vs hK h => match vs,h with | [a0,a1],_ => by first | exact BindsTo.of_eq (by with_unfolding_all rfl) | exact BindsTo.of_defaults rfl (hK _ _ rfl) rfl rfl rfl⟩
theorem df_529 (P : Params) : DefOk P 529 29 4 (psOf (dg 29 4)) := def_ok (by kernel_rfl) ⟨_,_,_,_,_,rfl,rfl,fun s vs hK h => match vs,h with | [a0,a1,a2],_ => by first | exact BindsTo.of_eq (by with_unfolding_all rfl) | exact BindsTo.of_defaults rfl (hK _ _ rfl) rfl rfl rfl⟩
theorem df_543 (P : Params) : DefOk P 543 30 1000 (psOf (dg 30 1000)) := def_ok (by kernel_rfl) ⟨_,_,_,_,_,rfl,rfl,fun s vs hK h => match vs,h with | [a0],_ => by first | exact BindsTo.of_eq (by with_unfolding_all rfl) | exact BindsTo.of_defaults rfl (hK _ _ rfl) rfl rfl rfl⟩
theorem df_550 (P : Params) : DefOk P 550 31 1000 (psOf (dg 31 1000)) := def_ok (by kernel_rfl) ⟨_,_,_,_,_,rfl,rfl,fun s vs hK h => match vs,h with | [a0],_ => by first | exact BindsTo.of_eq (by with_unfolding_all rfl) | exact BindsTo.of_defaults rfl (hK _ _ rfl) rfl rfl rfl⟩
theorem df_557 (P : Params) : DefOk P 557 32 1000 (psOf (dg 32 1000)) := def_ok (by kernel_rfl) ⟨_,_,_,_,_,rfl,rfl,fun s vs hK h => match vs,h with | [a0,a1],_ => by first | exact BindsTo.of_eq (by with_unfolding_all rfl) | exact BindsTo.of_defaults rfl (hK _ _ rfl) rfl rfl rfl⟩
theorem df_564 (P : Params) : DefOk P 564 33 1000 (psOf (dg 33 1000)) := def_ok (by kernel_rfl) ⟨_,_,_,_,_,rfl,rfl,fun s vs hK h => match vs,h with | [a0,a1],_ => by first | exact BindsTo.of_eq (by with_unfolding_all rfl) | exact BindsTo.of_defaults rfl (hK _ _ rfl) rfl rfl rfl⟩
theorem df_571 (P : Params) : DefOk P 571 34 1000 (psOf (dg 34 1000)) := def_ok (by kernel_rfl) ⟨_,_,_,_,_,rfl,rfl,fun s vs hK h => match vs,h with | [a0],_ => by first | exact BindsTo.of_eq (by with_unfolding_all rfl) | exact BindsTo.of_defaults rfl (hK _ _ rfl) rfl rfl rfl⟩
theorem df_578 (P : Params) : DefOk P 578 35 1000 (psOf (dg 35 1000)) := def_ok (by kernel_rfl) ⟨_,_,_,_,_,rfl,rfl,fun s vs hK h => match vs,h with | [a0,a1],_ => by first | exact BindsTo.of_eq (by with_unfolding_all rfl) | exact BindsTo.of_defaults rfl (hK _ _ rfl) rfl rfl rfl⟩
theorem df_585 (P : Params) : DefOk P 585 36 1000 (psOf (dg 36 1000)) := def_ok (by kernel_rfl) ⟨_,_,_,_,_,rfl,rfl,fun s vs hK h => match vs,h with | [a0,a1,a2],_ => by first | exact BindsTo.of_eq (by with_unfolding_all rfl) | exact BindsTo.of_defaults rfl (hK _ _ rfl) rfl rfl rfl⟩
theorem df_592 (P : Params) : DefOk P 592 37 1000 (psOf (dg 37 1000)) := def_ok (by kernel_rfl) ⟨_,_,_,_,_,rfl,rfl,fun s vs hK h => match vs,h with | [a0,a1,a2],_ => by first | exact BindsTo.of_eq (by with_unfolding_all rfl) | exact BindsTo.of_defaults rfl (hK _ _ rfl) rfl rfl rfl⟩
theorem df_606 (P : Params) : DefOk P 606 38 0 (psOf (dg 38 0)) := def_ok (by kernel_rfl) ⟨_,_,_,_,_,rfl,rfl,fun s vs hK h => match vs,h with | [a0,a1,a2,a3,a4],_ => by first | exact BindsTo.of_eq (by with_unfolding_all rfl) | exact BindsTo.of_defaults rfl (hK _ _ rfl) rfl rfl rfl⟩
theorem df_613 (P : Params) : DefOk P 613 38 1 (psOf (dg 38 1)) := def_ok (by kernel_rfl) ⟨_,_,_,_,_,rfl,rfl,fun s vs hK h => match vs,h with | [a0,a1,a2,a3,a4],_ => by first | exact BindsTo.of_eq (by with_unfolding_all rfl) | exact BindsTo.of_defaults rfl (hK _ _ rfl) rfl rfl rfl⟩
theorem df_620 (P : Params) : DefOk P 620 38 2 (psOf (dg 38 2)) := def_ok (by kernel_rfl) ⟨_,_,_,_,_,rfl,rfl,fun s vs hK h => match vs,h with | [a0],_ => by first | exact BindsTo.of_eq (by with_unfolding_all rfl) | exact BindsTo.of_defaults rfl (hK _ _ rfl) rfl rfl rfl⟩
theorem df_634 (P : Params) : DefOk P 634 38 4 (psOf (dg 38 4)) := def_ok (by kernel_rfl) ⟨_,_,_,_,_,rfl,rfl,fun s vs hK h => match vs,h with | [a0,a1],_ => by first | exact BindsTo.of_eq (by with_unfolding_all rfl) | exact BindsTo.of_defaults rfl (hK _ _ rfl) rfl rfl rfl⟩
theorem df_641 (P : Params) : DefOk P 641 38 5 (psOf (dg 38 5)) := def_ok (by kernel_rfl) ⟨_,_,_,_,_,rfl,rfl,fun s vs hK h => match vs,h with | [a0,a1],_ => by first | exact BindsTo.of_eq (by with_unfolding_all rfl) | exact BindsTo.of_defaults rfl (hK _ _ rfl) rfl rfl rfl⟩
theorem df_655 (P : Params) : DefOk P 655 39 1000 (psOf (dg 39 1000)) := def_ok (by kernel_rfl) ⟨_,_,_,_,_,rfl,rfl,fun s vs hK h => match vs,h with | [a0,a1,a2],_ => by first | exact BindsTo.of_eq (by with_unfolding_all rfl) | exact BindsTo.of_defaults rfl (hK _ _ rfl) rfl rfl rfl⟩
theorem df_662 (P : Params) : DefOk P 662 40 1000 (psOf (dg 40 1000)) := def_ok (by kernel_rfl) ⟨_,_,_,_,_,rfl,rfl,fun s vs hK h => match vs,h with | [a0,a1,a2],_ => by first | exact BindsTo.of_eq (by with_unfolding_all rfl) | exact BindsTo.of_defaults rfl (hK _ _ rfl) rfl rfl rfl⟩
theorem df_678 (P : Params) : DefOk P 678 48 1000 (psOf (dg 48 1000)) := def_ok (by kernel_rfl) ⟨_,_,_,_,_,rfl,rfl,fun s vs hK h => match vs,h with | [a0,a1],_ => by first | exact BindsTo.of_eq (by with_unfolding_all rfl) | exact BindsTo.of_defaults rfl (hK _ _ rfl) rfl rfl rfl⟩
theorem df_685 (P : Params) : DefOk P 685 49 1000 (psOf (dg 49 1000)) := def_ok (by kernel_rfl) ⟨_,_,_,_,_,rfl,rfl,fun s vs hK h => match vs,h with | [a0],_ => by first | exact BindsTo.of_eq (by with_unfolding_all rfl) | exact BindsTo.of_defaults rfl (hK _ _ rfl) rfl rfl rfl⟩
theorem df_699 (P : Params) : DefOk P 699 50 0 (psOf (dg 50 0)) := def_ok (by kernel_rfl) ⟨_,_,_,_,_,rfl,rfl,fun s vs hK h => match vs,h with | [a0,a1,a2,a3],_ => by first | exact BindsTo.of_eq (by with_unfolding_all rfl) | exact BindsTo.of_defaults rfl (hK _ _ rfl) rfl rfl rfl⟩
theorem df_706 (P : Params) : DefOk P 706 50 1 (psOf (dg 50 1)) := def_ok (by kernel_rfl) ⟨_,_,_,_,_,rfl,rfl,fun s vs hK h => match vs,h with | [a0,a1],_ => by first | exact BindsTo.of_eq (by with_unfolding_all rfl) | exact BindsTo.of_defaults rfl (hK _ _ rfl) rfl rfl rfl⟩
theorem df_775 (P : Params) : DefOk P 775 61 0 (psOf (dg 61 0)) := def_ok (by kernel_rfl) ⟨_,_,_,_,_,rfl,rfl,fun s vs hK h => match vs,h with | [a0],_ => by first | exact BindsTo.of_eq (by with_unfolding_all rfl) | exact BindsTo.of_defaults rfl (hK _ _ rfl) rfl rfl rfl⟩
theorem df_782 (P : Params) : DefOk P 782 61 1 (psOf (dg 61 1)) := def_ok (by kernel_rfl) ⟨_,_,_,_,_,rfl,rfl,fun s vs hK h => match vs,h with | [a0,a1],_ => by first | exact BindsTo.of_eq (by with_unfolding_all rfl) | exact BindsTo.of_defaults rfl (hK _ _ rfl) rfl rfl rfl⟩
theorem df_831 (P : Params) : DefOk P 831 75 1000 (psOf (dg 75 1000)) := def_ok (by kernel_rfl) ⟨_,_,_,_,_,rfl,rfl,fun s vs hK h => match vs,h with | [a0],_ => by first | exact BindsTo.of_eq (by with_unfolding_all rfl) | exact BindsTo.of_defaults rfl (hK _ _ rfl) rfl rfl rfl⟩
theorem df_846 (P : Params) : DefOk P 846 76 0 (psOf (dg 76 0)) := def_ok (by kernel_rfl) ⟨_,_,_,_,_,rfl,rfl,fun s vs hK h => match vs,h with | [a0,a1],_ => by first | exact BindsTo.of_eq (by with_unfolding_all rfl) | exact BindsTo.of_defaults rfl (hK _ _ rfl) rfl rfl rfl⟩
theorem df_853 (P : Params) : DefOk P 853 76 1 (psOf (dg 76 1)) := def_ok (by kernel_rfl) ⟨_,_,_,_,_,rfl,rfl,fun s vs hK h => match vs,h with | [a0,a1],_ => by first | exact BindsTo.of_eq (by with_unfolding_all rfl) | exact BindsTo.of_defaults rfl (hK _ _ rfl) rfl rfl rfl⟩
theorem df_860 (P : Params) : DefOk P 860 76 2 (psOf (dg 76 2)) := def_ok (by kernel_rfl) ⟨_,_,_,_,_,rfl,rfl,fun s vs hK h => match vs,h with | [a0],_ => by first | exact BindsTo.of_eq (by with_unfolding_all rfl) | exact BindsTo.of_defaults rfl (hK _ _ rfl) rfl rfl rfl⟩
theorem df_910 (P : Params) : DefOk P 910 76 9 (psOf (dg 76 9)) := def_ok (by kernel_rfl) ⟨_,_,_,_,_,rfl,rfl,fun s vs hK h => match vs,h with | [a0,a1,a2],_ => by first | exact BindsTo.of_eq (by with_unfolding_all rfl) | exact BindsTo.of_defaults rfl (hK _ _ rfl) rfl rfl rfl⟩
theorem df_945 (P : Params) : DefOk P 945 80 0 (psOf (dg 80 0)) := def_ok (by kernel_rfl) ⟨_,_,_,_,_,rfl,rfl,fun s vs hK h => match vs,h with | [a0],_ => by first | exact BindsTo.of_eq (by with_unfolding_all rfl) | exact BindsTo.of_defaults rfl (hK _ _ rfl) rfl rfl rfl⟩
theorem df_966 (P : Params) : DefOk P 966 80 3 (psOf (dg 80 3)) := def_ok (by kernel_rfl) ⟨_,_,_,_,_,rfl,rfl,fun s vs hK h => match vs,h with | [a0],_ => by first | exact BindsTo.of_eq (by with_unfolding_all rfl) | exact BindsTo.of_defaults rfl (hK _ _ rfl) rfl rfl rfl⟩
theorem df_973 (P : Params) : DefOk P 973 80 4 (psOf (dg 80 4)) := def_ok (by kernel_rfl) ⟨_,_,_,_,_,rfl,rfl,fun s vs hK h => match vs,h with | [a0,a1],_ => by first | exact BindsTo.of_eq (by with_unfolding_all rfl) | exact BindsTo.of_defaults rfl (hK _ _ rfl) rfl rfl rfl⟩
theorem df_994 (P : Params) : DefOk P 994 81 0 (psOf (dg 81 0)) := def_ok (by kernel_rfl) ⟨_,_,_,_,_,rfl,rfl,fun s vs hK h => match vs,h with | [a0,a1,a2],_ => by first | exact BindsTo.of_eq (by with_unfolding_all rfl) | exact BindsTo.of_defaults rfl (hK _ _ rfl) rfl rfl rfl⟩
theorem df_1036 (P : Params) : DefOk P 1036 81 6 (psOf (dg 81 6)) := def_ok (by kernel_rfl) ⟨_,_,_,_,_,rfl,rfl,fun s vs hK h => match vs,h with | [a0],_ => by first | exact BindsTo.of_eq (by with_unfolding_all rfl) | exact BindsTo.of_defaults rfl (hK _ _ rfl) rfl rfl rfl⟩
theorem df_1127 (P : Params) : DefOk P 1127 82 0 (psOf (dg 82 0)) := def_ok (by kernel_rfl) ⟨_,_,_,_,_,rfl,rfl,fun s vs hK h => match vs,h with | [a0,a1],_ => by first | exact BindsTo.of_eq (by with_unfolding_all rfl) | exact BindsTo.of_defaults rfl (hK _ _ rfl) rfl rfl rfl⟩
theorem df_1134 (P : Params) : DefOk P 1134 82 1 (psOf (dg 82 1)) := def_ok (by kernel_rfl) ⟨_,_,_,_,_,rfl,rfl,fun s vs hK h => match vs,h with | [a0,a1],_ => by first | exact BindsTo.of_eq (by with_unfolding_all rfl) | exact BindsTo.of_defaults rfl (hK _ _ rfl) rfl rfl rfl⟩
theorem df_1169 (P : Params) : DefOk P 1169 82 6 (psOf (dg 82 6)) := def_ok (by kernel_rfl) ⟨_,_,_,_,_,rfl,rfl,fun s vs hK h => match vs,h with | [a0],_ => by first | exact BindsTo.of_eq (by with_unfolding_all rfl) | exact BindsTo.of_defaults rfl (hK _ _ rfl) rfl rfl rfl⟩
theorem df_1198 (P : Params) : DefOk P 1198 82 10 (psOf (dg 82 10)) := def_ok (by kernel_rfl) ⟨_,_,_,_,_,rfl,rfl,fun s vs hK h => match vs,h with | [a0,a1],_ => by first | exact BindsTo.of_eq (by with_unfolding_all rfl) | exact BindsTo.of_defaults rfl (hK _ _ rfl) rfl rfl rfl⟩
theorem df_1228 (P : Params) : DefOk P 1228 85 0 (psOf (dg 85 0)) := def_ok (by kernel_rfl) ⟨_,_,_,_,_,rfl,rfl,fun s vs hK h => match vs,h with | [a0,a1,a2,a3,a4,a5],_ => by first | exact BindsTo.of_eq (by with_unfolding_all rfl) | exact BindsTo.of_defaults rfl (hK _ _ rfl) rfl rfl rfl⟩
theorem df_1235 (P : Params) : DefOk P 1235 85 1 (psOf (dg 85 1)) := def_ok (by kernel_rfl) ⟨_,_,_,_,_,rfl,rfl,fun s vs hK h => match vs,h with | [a0],_ => by first | exact BindsTo.of_eq (by with_unfolding_all rfl) | exact BindsTo.of_defaults rfl (hK _ _ rfl) rfl rfl rfl⟩
theorem df_1242 (P : Params) : DefOk P 1242 85 2 (psOf (dg 85 2)) := def_ok (by kernel_rfl) ⟨_,_,_,_,_,rfl,rfl,fun s vs hK h => match vs,h with | [a0,a1],_ => by first | exact BindsTo.of_eq (by with_unfolding_all rfl) | exact BindsTo.of_defaults rfl (hK _ _ rfl) rfl rfl rfl⟩
theorem df_1249 (P : Params) : DefOk P 1249 85 3 (psOf (dg 85 3)) := def_ok (by kernel_rfl) ⟨_,_,_,_,_,rfl,rfl,fun s vs hK h => match vs,h with | [a0],_ => by first | exact BindsTo.of_eq (by with_unfolding_all rfl) | exact BindsTo.of_defaults rfl (hK _ _ rfl) rfl rfl rfl⟩
theorem df_1256 (P : Params) : DefOk P 1256 85 4 (psOf (dg 85 4)) := def_ok (by kernel_rfl) ⟨_,_,_,_,_,rfl,rfl,fun s vs hK h => match vs,h with | [a0],_ => by first | exact BindsTo.of_eq (by with_unfolding_all rfl) | exact BindsTo.of_defaults rfl (hK _ _ rfl) rfl rfl rfl⟩
theorem df_1263 (P : Params) : DefOk P 1263 85 5 (psOf (dg 85 5)) := def_ok (by kernel_rfl) ⟨_,_,_,_,_,rfl,rfl,fun s vs hK h => match vs,h with | [a0],_ => by first | exact BindsTo.of_eq (by with_unfolding_all rfl) | exact BindsTo.of_defaults rfl (hK _ _ rfl) rfl rfl rfl⟩
theorem df_1270 (P : Params) : DefOk P 1270 85 6 (psOf (dg 85 6)) := def_ok (by kernel_rfl) ⟨_,_,_,_,_,rfl,rfl,fun s vs hK h => match vs,h with | [a0],_ => by first | exact BindsTo.of_eq (by with_unfolding_all rfl) | exact BindsTo.of_defaults rfl (hK _ _ rfl) rfl rfl rfl⟩
theorem df_1277 (P : Params) : DefOk P 1277 85 7 (psOf (dg 85 7)) := def_ok (by kernel_rfl) ⟨_,_,_,_,_,rfl,rfl,fun s vs hK h => match vs,h with | [a0,a1,a2],_ => by first | exact BindsTo.of_eq (by with_unfolding_all rfl) | exact BindsTo.of_defaults rfl (hK _ _ rfl) rfl rfl rfl⟩
theorem df_1284 (P : Params) : DefOk P 1284 85 8 (psOf (dg 85 8)) := def_ok (by kernel_rfl) ⟨_,_,_,_,_,rfl,rfl,fun s vs hK h => match vs,h with | [a0,a1],_ => by first | exact BindsTo.of_eq (by with_unfolding_all rfl) | exact BindsTo.of_defaults rfl (hK _ _ rfl) rfl rfl rfl⟩
theorem df_1291 (P : Params) : DefOk P 1291 85 9 (psOf (dg 85 9)) := def_ok (by kernel_rfl) ⟨_,_,_,_,_,rfl,rfl,fun s vs hK h => match vs,h with | [a0],_ => by first | exact BindsTo.of_eq (by with_unfolding_all rfl) | exact BindsTo.of_defaults rfl (hK _ _ rfl) rfl rfl rfl⟩
theorem df_1305 (P : Params) : DefOk P 1305 85 11 (psOf (dg 85 11)) := def_ok (by kernel_rfl) ⟨_,_,_,_,_,rfl,rfl,fun s vs hK h => match vs,h with | [a0,a1],_ => by first | exact BindsTo.of_eq (by with_unfolding_all rfl) | exact BindsTo.of_defaults rfl (hK _ _ rfl) rfl rfl rfl⟩
theorem df_1312 (P : Params) : DefOk P 1312 85 12 (psOf (dg 85 12)) := def_ok (by kernel_rfl) ⟨_,_,_,_,_,rfl,rfl,fun s vs hK h => match vs,h with | [a0],_ => by first | exact BindsTo.of_eq (by with_unfolding_all rfl) | exact BindsTo.of_defaults rfl (hK _ _ rfl) rfl rfl rfl⟩
theorem df_1319 (P : Params) : DefOk P 1319 85 13 (psOf (dg 85 13)) := def_ok (by kernel_rfl) ⟨_,_,_,_,_,rfl,rfl,fun s vs hK h => match vs,h with | [a0,a1,a2],_ => by first | exact BindsTo.of_eq (by with_unfolding_all rfl) | exact BindsTo.of_defaults rfl (hK _ _ rfl) rfl rfl rfl⟩
theorem df_1326 (P : Params) : DefOk P 1326 85 14 (psOf (dg 85 14)) := def_ok (by kernel_rfl) ⟨_,_,_,_,_,rfl,rfl,fun s vs hK h => match vs,h with | [a0,a1,a2],_ => by first | exact BindsTo.of_eq (by with_unfolding_all rfl) | exact BindsTo.of_defaults rfl (hK _ _ rfl) rfl rfl rfl⟩
theorem df_1333 (P : Params) : DefOk P 1333 85 15 (psOf (dg 85 15)) := def_ok (by kernel_rfl) ⟨_,_,_,_,_,rfl,rfl,fun s vs hK h => match vs,h with | [a0],_ => by first | exact BindsTo.of_eq (by with_unfolding_all rfl) | exact BindsTo.of_defaults rfl (hK _ _ rfl) rfl rfl rfl⟩
theorem df_1347 (P : Params) : DefOk P 1347 85 17 (psOf (dg 85 17)) := def_ok (by kernel_rfl) ⟨_,_,_,_,_,rfl,rfl,fun s vs hK h => match vs,h with | [a0,a1],_ => by first | exact BindsTo.of_eq (by with_unfolding_all rfl) | exact BindsTo.of_defaults rfl (hK _ _ rfl) rfl rfl rfl⟩
theorem df_1361 (P : Params) : DefOk P 1361 85 19 (psOf (dg 85 19)) := def_ok (by kernel_rfl) ⟨_,_,_,_,_,rfl,rfl,fun s vs hK h => match vs,h with | [a0],_ => by first | exact BindsTo.of_eq (by with_unfolding_all rfl) | exact BindsTo.of_defaults rfl (hK _ _ rfl) rfl rfl rfl⟩
theorem df_1375 (P : Params) : DefOk P 1375 85 21 (psOf (dg 85 21)) := def_ok (by kernel_rfl) ⟨_,_,_,_,_,rfl,rfl,fun s vs hK h => match vs,h with | [a0],_ => by first | exact BindsTo.of_eq (by with_unfolding_all rfl) | exact BindsTo.of_defaults rfl (hK _ _ rfl) rfl rfl rfl⟩
theorem df_1382 (P : Params) : DefOk P 1382 85 22 (psOf (dg 85 22)) := def_ok (by kernel_rfl) ⟨_,_,_,_,_,rfl,rfl,fun s vs hK h => match vs,h with | [a0],_ => by first | exact BindsTo.of_eq (by with_unfolding_all rfl) | exact BindsTo.of_defaults rfl (hK _ _ rfl) rfl rfl rfl⟩
theorem df_1389 (P : Params) : DefOk P 1389 85 23 (psOf (dg 85 23)) := def_ok (by kernel_rfl) ⟨_,_,_,_,_,rfl,rfl,fun s vs hK h => match vs,h with | [a0],_ => by first | exact BindsTo.of_eq (by with_unfolding_all rfl) | exact BindsTo.of_defaults rfl (hK _ _ rfl) rfl rfl rfl⟩
theorem df_1496 (P : Params) : DefOk P 1496 87 1000 (psOf (dg 87 1000)) := def_ok (by kernel_rfl) ⟨_,_,_,_,_,rfl,rfl,fun s vs hK h => match vs,h with | [a0,a1,a2,a3,a4],_ => by first | exact BindsTo.of_eq (by with_unfolding_all rfl) | exact BindsTo.of_defaults rfl (hK _ _ rfl) rfl rfl rfl⟩
theorem df_1510 (P : Params) : DefOk P 1510 91 1000 (psOf (dg 91 1000)) := def_ok (by kernel_rfl) ⟨_,_,_,_,_,rfl,rfl,fun s vs hK h => match vs,h with | [a0,a1],_ => by first | exact BindsTo.of_eq (by with_unfolding_all rfl) | exact BindsTo.of_defaults rfl (hK _ _ rfl) rfl rfl rfl⟩
theorem df_1517 (P : Params) : DefOk P 1517 92 1000 (psOf (dg 92 1000)) := def_ok (by kernel_rfl) ⟨_,_,_,_,_,rfl,rfl,fun s vs hK h => match vs,h with | [a0,a1],_ => by first | exact BindsTo.of_eq (by with_unfolding_all rfl) | exact BindsTo.of_defaults rfl (hK _ _ rfl) rfl rfl rfl⟩
theorem df_1524 (P : Params) : DefOk P 1524 93 1000 (psOf (dg 93 1000)) := def_ok (by kernel_rfl) ⟨_,_,_,_,_,rfl,rfl,fun s vs hK h => match vs,h with | [a0,a1,a2],_ => by first | exact BindsTo.of_eq (by with_unfolding_all rfl) | exact BindsTo.of_defaults rfl (hK _ _ rfl) rfl rfl rfl⟩
theorem df_1531 (P : Params) : DefOk P 1531 94 1000 (psOf (dg 94 1000)) := def_ok (by kernel_rfl) ⟨_,_,_,_,_,rfl,rfl,fun s vs hK h => match vs,h with | [a0,a1,a2],_ => by first | exact BindsTo.of_eq (by with_unfolding_all rfl) | exact BindsTo.of_defaults rfl (hK _ _ rfl) rfl rfl rfl⟩
theorem df_1538 (P : Params) : DefOk P 1538 95 1000 (psOf (dg 95 1000)) := def_ok (by kernel_rfl) ⟨_,_,_,_,_,rfl,rfl,fun s vs hK h => match vs,h with | [a0],_ => by first | exact BindsTo.of_eq (by with_unfolding_all rfl) | exact BindsTo.of_defaults rfl (hK _ _ rfl) rfl rfl rfl⟩
theorem df_1545 (P : Params) : DefOk P 1545 96 1000 (psOf (dg 96 1000)) := def_ok (by kernel_rfl) ⟨_,_,_,_,_,rfl,rfl,fun s vs hK h => match vs,h with | [a0,a1],_ => by first | exact BindsTo.of_eq (by with_unfolding_all rfl) | exact BindsTo.of_defaults rfl (hK _ _ rfl) rfl rfl rfl⟩
theorem df_1550 (P : Params) : DefOk P 1550 97 1000 (psOf (dg 97 1000)) := def_ok (by kernel_rfl) ⟨_,_,_,_,_,rfl,rfl,fun s vs hK h => match vs,h with | [a0],_ => by first | exact BindsTo.of_eq (by with_unfolding_all rfl) | exact BindsTo.of_defaults rfl (hK _ _ rfl) rfl rfl rfl⟩
theorem df_1560 (P : Params) : DefOk P 1560 99 1000 (psOf (dg 99 1000)) := def_ok (by kernel_rfl) ⟨_,_,_,_,_,rfl,rfl,fun s vs hK h => match vs,h with | [a0],_ => by first | exact BindsTo.of_eq (by with_unfolding_all rfl) | exact BindsTo.of_defaults rfl (hK _ _ rfl) rfl rfl rfl⟩
def mOk (P : Params) : Bool := mtab.all fun p => (findIn (KF P) (.ref p.1) (mnOf p.2.1) == some (some (.ref p.2.2))) && (typeIn (KF P) (.ref p.2.2) == some (.type "function")) && clsL.contains p.1 && (flds p.1).all fun f => nmOf f != mnOf p.2.1
theorem m_ok (P : Params) : mOk P = true := by kernel_rfl
theorem flds_miss {P : Params} {K : Fz} {m : Str} : ∀ {fs : List (Nat × V)} {es : List DictEntry},Flds P K es fs → (∀ p ∈ fs,(nmOf p.1 == m) = false) → es.find? (fun e => e.key.isStr m) = none
 | [],_,h,_ => by rw [show (_ : List DictEntry) = [] from h]; rfl
 | (i,y) :: fs,_,⟨e,r,rfl,⟨t,hk⟩,_,_,h⟩,hl => by
  have hb : e.key.isStr m = false := by rw [hk]; exact hl _ (.head _)
  rw [List.find?_cons,hb]
  exact flds_miss h fun p hp => hl p (.tail _ hp)
theorem mth_inst {W : Wx} {d : Nat} {H : Hp} {a C m f : Nat} {fs : List (Nat × V)} (hm : (C,m,f) ∈ mtab) (e : H a = some (.inst C fs)) : MthW W d (mnOf m) (.ref a) H (.ref f) := by
 intro A s K X v pl hA hS rv Q hQ
 obtain rfl := Rep.ref_iff.mp rv
 obtain ⟨D,O⟩ := hS.objs
 obtain ⟨h1,es,n,h2,h3,h4⟩ := O.at_ _ _ e
 have fa := List.all_eq_true.mp (m_ok W.w.params) _ hm
 simp only [Bool.and_eq_true,beq_iff_eq,List.all_eq_true] at fa
 obtain ⟨⟨⟨f1,f2⟩,f3⟩,f4⟩ := fa
 have c := cls_f W.w.params (List.contains_iff_mem.mp f3)
 refine method_fn (W.frag hS) (instAt_of h1 h2) c.ga c.gt f1 f2 ?_ hQ
 have miss := flds_miss (m := mnOf m) h3 fun p hp => by
  have := f4 p.1 (List.contains_iff_mem.mp (h4 p hp))
  simpa using this
 have lk : lookIn (mnOf m) (dictOf es n) = some none := by
  unfold lookIn
  simp only [dictOf,miss,flds_noRef h3]
  rfl
 unfold shadowIn
 simp only [lk]
 rfl
section
variable {W : Wx} {d : Nat} {H : Hp}
theorem mth_list {a m : Nat} {l : List V} {id : String} (e : H a = some (.list l)) (slot : Slot "list" (mnOf m) id) (hty : typeOf (.builtin id) = pure (.type "method_descriptor")) : MthW W d (mnOf m) (.ref a) H (.builtin id) := by
 intro A s K X v pl hA hS rv Q hQ
 obtain rfl := Rep.ref_iff.mp rv
 obtain ⟨vs,n,e1,r⟩ := hS.list e
 exact getMethod_builtin (isList_of e1).typeIs F.plainAttrs_list slot hty (fun b q => by cases q; exact ⟨_,e1,rfl⟩) hQ
end
section
variable {W : Wx} {d : Nat} {H : Hp} {R : V → Hp → Prop}
structure DefOkC (P : Params) (fa i j : Nat) (ps : List Str) (nn : Nat) (ds : List V) (dv : List Value) : Prop where
 fn : ∃ qual dV pm c t,(KF P).lookup fa = some (fo i j qual dV pm (.ref c)) ∧ (CA.zip CQ).lookup c = some (some (.str qual t)) ∧
  ∀ (s : Shared) (vs : List Value),(KF P).In s.heap → vs.length = nn → BindsTo s (fnOf (dName (dg i j)) qual (dParams (dg i j)) (dBody (dg i j)) (dScope (dg i j)) dV .none .none pm none (.ref c) .none) ⟨vs,[]⟩ (ps.zip (vs ++ dv))
 rds : ∀ K,Reps K ds dv
 kind : (dScope (dg i j)).kind = .function
 co : (dScope (dg i j)).isCoroutine = false
 gen : (dScope (dg i j)).isGenerator = false
 loc : ∀ x ∈ ps,(dScope (dg i j)).names.lookup x = some .local ∨ ((dScope (dg i j)).names.lookup x = some .cell ∧ ∀ n,((cellsFrom n (dScope (dg i j)).names []).lookup x).isSome = true)
 nd : ps.Nodup
 vnd : (cxOf (dg i j)).vars.Nodup
theorem bindL_skip {k : Str → Option NameKind} {x : Str} : ∀ (r : List (Str × Value)) (m : Str → Option Value),x ∉ r.map (·.1) → bindL k r m x = m x
 | [],_,_ => rfl
 | (n,v) :: r,m,h => by
  simp only [List.map_cons,List.mem_cons,not_or] at h
  unfold bindL
  rw [bindL_skip r _ h.2]
  split
  ·exact if_neg h.1
  ·rfl
theorem bindC_skip {k : Str → Option NameKind} {x : Str} : ∀ (r : List (Str × Value)) (m : Str → Option Value),x ∉ r.map (·.1) → bindC k r m x = m x
 | [],_,_ => rfl
 | (n,v) :: r,m,h => by
  simp only [List.map_cons,List.mem_cons,not_or] at h
  unfold bindC
  rw [bindC_skip r _ h.2]
  split
  ·rfl
  ·exact if_neg h.1
theorem bindL_get {k : Str → Option NameKind} {x : Str} {v : Value} (hk : k x = some .local) : ∀ (r : List (Str × Value)) (m : Str → Option Value),(r.map (·.1)).Nodup → r.lookup x = some v → bindL k r m x = some v
 | [],_,_,h => by cases h
 | (n,w) :: r,m,hn,h => by
  simp only [List.map_cons,List.nodup_cons] at hn
  rw [List.lookup_cons] at h
  unfold bindL
  cases q : x == n with
  | true =>
   rw [q] at h; cases h
   have := beq_iff_eq.mp q; subst this
   rw [bindL_skip r _ hn.1,if_pos hk]; exact if_pos rfl
  | false => rw [q] at h; exact bindL_get hk r _ hn.2 h
theorem bindC_get {k : Str → Option NameKind} {x : Str} {v : Value} (hk : k x ≠ some .local) : ∀ (r : List (Str × Value)) (m : Str → Option Value),(r.map (·.1)).Nodup → r.lookup x = some v → bindC k r m x = some v
 | [],_,_,h => by cases h
 | (n,w) :: r,m,hn,h => by
  simp only [List.map_cons,List.nodup_cons] at hn
  rw [List.lookup_cons] at h
  unfold bindC
  cases q : x == n with
  | true =>
   rw [q] at h; cases h
   have := beq_iff_eq.mp q; subst this
   rw [bindC_skip r _ hn.1,if_neg hk]; exact if_pos rfl
  | false => rw [q] at h; exact bindC_get hk r _ hn.2 h
theorem call_defC {fa i j nn : Nat} {ps : List Str} {ds : List V} {dv : List Value} (D : DefOkC W.w.params fa i j ps nn ds dv) {args : List V} (hl : args.length = nn) (hn : nn + ds.length = ps.length)
  (h : Run W d (codeAt i j) [] (ro0 i j ps (args ++ ds)) H (behind R)) : CallW W (d + 1) (.ref fa) args H R := by
 intro A s K X vs hA hS r0
 obtain ⟨qual,dV,pm,c,t,f1,f2,f3⟩ := D.fn
 have hcr : s.heap.CodeRec (.ref c) qual := by
  obtain ⟨o,ws,a1,a2,a3⟩ := W.says.2 c _ f2
  exact ⟨c,o,ws,t,rfl,hS.stays _ _ a1,a2,a3⟩
 have r : Reps K (args ++ ds) (vs ++ dv) := r0.append (D.rds K)
 have hvs : vs.length = nn := by rw [r0.length,hl]
 have hvs2 : (vs ++ dv).length = ps.length := by rw [r.length,List.length_append,hl,hn]
 have hfr := Sat.fresh hS
 refine codeAny_call_function (fd := fnOf (dName (dg i j)) qual (dParams (dg i j)) (dBody (dg i j)) (dScope (dg i j)) dV .none .none pm none (.ref c) .none) (body := dBody (dg i j)) ?_ (W.frag hS _ _ f1) rfl D.co D.gen rfl hcr (f3 s vs (W.frag hS) hvs _ _ _ _ ?_)
 ·have := hA.depth; unfold recursionLimit; omega
 refine wpAny_newFunctionEnv_cells D.kind (fun x hx => ?_) fun env he s' x => ?_
 ·rcases D.loc _ (List.of_mem_zip hx).1 with h | h
  ·exact .inl h
  ·exact .inr ⟨h.1,h.2 _⟩
 have hkeep := x.toInCall.keep
 refine ⟨(W.top.nolimit.keeps hS.stays).keeps hkeep,codeAny_func ?_⟩
 obtain ⟨h₁,tk,rfl,_⟩ := x.done
 obtain ⟨oL,es,ep,c1,c2⟩ := x.toInCall.ns
 have eL : env.locals = s.heap.objs.size := by rw [he]; rfl
 have eN : env.scope = dScope (dg i j) := by rw [he]; rfl
 have eC : env.cells = cellsFrom (s.heap.objs.size + 1) (dScope (dg i j)).names [] := by rw [he]; rfl
 generalize hXd : (fun b => if b = s.heap.objs.size ∨ b ∈ env.cells.map (·.2) then h₁.get? b else X b : Fz) = X₁
 have X1 : ∀ b,X₁ b = if b = s.heap.objs.size ∨ b ∈ env.cells.map (·.2) then h₁.get? b else X b := fun b => by rw [← hXd]
 have new : ∀ b,(b = s.heap.objs.size ∨ b ∈ env.cells.map (·.2)) → @LE.le Nat instLENat s.heap.objs.size b := fun b q => by
  rcases q with rfl | q
  ·exact Nat.le_refl _
  ·obtain ⟨⟨n',c'⟩,hm,rfl⟩ := List.mem_map.mp q
   have := x.above n' c' hm
   rw [eL] at this
   exact Nat.le_of_lt this
 have kN : ∀ b,@LE.le Nat instLENat s.heap.objs.size b → K b = none ∧ X b = none := fun b q => by
  obtain ⟨i,rfl⟩ := Nat.exists_eq_add_of_le q
  have := Sat.freshI hS i
  exact ⟨this.1,this.2.1⟩
 have S1 : W.Sat K X₁ H { s with heap := h₁,toks := tk } := by
  refine Sat.ext hS (F := fun _ => False) (fun _ f => f.elim) (fun b o _ q => hkeep b o q) Le.rfl (fun b o q => .inl q) (fun b ob q => ?_) (t := tk)
  rw [X1] at q
  split at q
  ·rename_i z
   exact ⟨(kN b (new b z)).1,q,.inr (new b z)⟩
  ·exact ⟨hS.apart _ _ q,hkeep _ _ (hS.keepX _ _ q),.inl (by rw [q]; simp)⟩
 have hb : W.h₀.get? s.heap.objs.size = none := by
  cases q : W.h₀.get? s.heap.objs.size with
  | none => rfl
  | some o => have := hS.base _ _ q; rw [hfr.1] at this; cases this
 have XL : X₁ env.locals = some oL := by rw [X1,if_pos (.inl eL)]; exact c1
 have ndz : ((ps.zip (vs ++ dv)).map (·.1)).Nodup := by rw [List.map_fst_zip (by omega)]; exact D.nd
 have F1 : FrOk W K X₁ (cxOf (dg i j)) env (ro0 i j ps (args ++ ds)) := by
  refine ⟨fun x => .inl (by rw [eN]; rfl),by rw [eN]; exact D.kind,by rw [he]; rfl,by rw [he]; rfl,D.vnd,by unfold ro0; simp,⟨_,⟨oL,es,ep,XL,c2⟩,fun n y hx => ?_⟩,by rw [eL]; exact hb⟩
  unfold ro0
  rw [List.getElem?_map,hx]
  show SlotOk _ _ _ _ _ ((ps.zip (args ++ ds)).lookup y)
  cases q : (ps.zip (args ++ ds)).lookup y with
  | none => trivial
  | some z =>
   obtain ⟨v,hv,rv⟩ := zip_rep r q
   have hp : y ∈ ps := (List.of_mem_zip (lookup_mem q)).1
   unfold SlotOk
   rw [eN]
   rcases D.loc y hp with hl | hl
   ·rw [hl]
    exact ⟨v,bindL_get (by show env.scope.names.lookup y = _; rw [eN]; exact hl) _ _ ndz hv,rv⟩
   ·rw [hl.1]
    obtain ⟨cc,hcc⟩ := Option.isSome_iff_exists.mp (hl.2 (s.heap.objs.size + 1))
    obtain ⟨oc,o1,o2⟩ := x.cell y cc (by rw [eC]; exact hcc)
    refine ⟨cc,oc,v,by rw [eC]; exact hcc,?_,?_,rv⟩
    ·rw [X1,if_pos (.inr (by rw [eC]; exact List.mem_map.mpr ⟨_,mem_of_lookup hcc,rfl⟩))]
     exact o1
    ·rw [o2,bindC_get (by show env.scope.names.lookup y ≠ _; rw [eN,hl.1]; simp) _ _ ndz hv]
 have hR : Room d (A.deeper env) := ⟨hA.handled,by have := hA.depth; show A.depth + 1 + 10 * d ≤ 900; omega,by have := hA.units; show A.units + 3 + 100 * d ≤ 9000; omega⟩
 have dropX : ∀ {K' X' : Fz} {H' : Hp} {s' : Shared},(∀ b,b ≠ env.locals → X' b = X₁ b) → W.Sat K' X' H' s' → W.Sat K' X H' s' := fun e S' => by
  refine Sat.drop S' fun b o q => ?_
  have lt : ¬ @LE.le Nat instLENat s.heap.objs.size b := fun z => by rw [(kN b z).2] at q; cases q
  have hb : ¬ (b = s.heap.objs.size ∨ b ∈ env.cells.map (·.2)) := fun z => lt (new b z)
  rw [e b (by rw [eL]; exact fun z => hb (.inl z)),X1,if_neg hb]; exact q
 refine ne_mono (sx_block (sound_X 12) hR (show Run W d (compSs (compS 12) (cxOf (dg i j)) (dBody (dg i j))) [] _ _ _ from h) S1 F1) fun fl s' p => ?_
 rcases p with ⟨rfl,K',X',H',ρ',le,eX,S',_,q⟩ | ⟨v,x,K',X',H',rfl,le,eX,S',rv,q⟩
 ·exact ⟨.none,rfl,K',.none,H',le,dropX eX S',Rep.none_iff.mpr rfl,q⟩
 ·exact ⟨v,rfl,K',x,H',le,dropX eX S',rv,q⟩
end
theorem cells_isSome {x : Str} : ∀ (l : List (Str × NameKind)) (n m : Nat) (acc acc' : List (Str × Addr)),(acc.lookup x).isSome = (acc'.lookup x).isSome → ((cellsFrom n l acc).lookup x).isSome = ((cellsFrom m l acc').lookup x).isSome
 | [],_,_,_,_,h => h
 | (y,k) :: r,n,m,acc,acc',h => by
  unfold cellsFrom
  split
  ·refine cells_isSome r _ _ _ _ ?_
   rw [List.lookup_cons,List.lookup_cons]
   cases x == y with
   | true => rfl
   | false => exact h
  ·exact cells_isSome r _ _ _ _ h
def defBC (i j : Nat) (ps : List Str) : Bool := (dScope (dg i j)).kind == .function && !(dScope (dg i j)).isCoroutine && !(dScope (dg i j)).isGenerator &&
 ps.all (fun x => (dScope (dg i j)).names.lookup x == some .local || ((dScope (dg i j)).names.lookup x == some .cell && ((cellsFrom 0 (dScope (dg i j)).names []).lookup x).isSome)) && nodupB ps && nodupB (cxOf (dg i j)).vars
theorem def_okC {P : Params} {fa i j nn : Nat} {ps : List Str} {ds : List V} {dv : List Value} (h : defBC i j ps = true) (f : ∃ qual dV pm c t,(KF P).lookup fa = some (fo i j qual dV pm (.ref c)) ∧ (CA.zip CQ).lookup c = some (some (.str qual t)) ∧
  ∀ (s : Shared) (vs : List Value),(KF P).In s.heap → vs.length = nn → BindsTo s (fnOf (dName (dg i j)) qual (dParams (dg i j)) (dBody (dg i j)) (dScope (dg i j)) dV .none .none pm none (.ref c) .none) ⟨vs,[]⟩ (ps.zip (vs ++ dv)))
  (hd : ∀ K,Reps K ds dv) : DefOkC P fa i j ps nn ds dv := by
 unfold defBC at h
 simp only [Bool.and_eq_true,List.all_eq_true,Bool.not_eq_true',Bool.or_eq_true] at h
 obtain ⟨⟨⟨⟨⟨h1,h3⟩,h4⟩,h5⟩,h6⟩,h7⟩ := h
 refine ⟨f,hd,?_,h3,h4,fun x hx => ?_,nodupB_ok h6,nodupB_ok h7⟩
 ·revert h1; cases (dScope (dg i j)).kind <;> simp
 ·rcases h5 x hx with h | h
  ·exact .inl (optEq h)
  ·exact .inr ⟨optEq h.1,fun n => (cells_isSome _ n 0 [] [] rfl).trans h.2⟩
theorem df_267 (P : Params) : DefOkC P 267 22 0 (psOf (dg 22 0)) 3 [] [] := def_okC (by kernel_rfl) ⟨_,_,_,_,_,rfl,rfl,fun s vs hK h => match vs,h with | [a0,a1,a2],_ => by exact BindsTo.of_eq (by with_unfolding_all rfl)⟩ fun _ => Reps.nil
theorem df_293 (P : Params) : DefOkC P 293 22 4 (psOf (dg 22 4)) 3 [] [] := def_okC (by kernel_rfl) ⟨_,_,_,_,_,rfl,rfl,fun s vs hK h => match vs,h with | [a0,a1,a2],_ => by exact BindsTo.of_eq (by with_unfolding_all rfl)⟩ fun _ => Reps.nil
theorem df_1555 (P : Params) : DefOkC P 1555 98 1000 (psOf (dg 98 1000)) 4 [] [] := def_okC (by kernel_rfl) ⟨_,_,_,_,_,rfl,rfl,fun s vs hK h => match vs,h with | [a0,a1,a2,a3],_ => by exact BindsTo.of_eq (by with_unfolding_all rfl)⟩ fun _ => Reps.nil
theorem df_846' (P : Params) : DefOkC P 846 76 0 (psOf (dg 76 0)) 1 [.none] [.none] := def_okC (by kernel_rfl) ⟨_,_,_,_,_,rfl,rfl,fun s vs hK h => match vs,h with | [a0],_ => by exact BindsTo.of_defaults rfl (hK _ _ rfl) rfl rfl rfl⟩ fun _ => Reps.cons (Rep.none_iff.mpr rfl) Reps.nil
def iOk (P : Params) : Bool := itab.all fun p => (findIn (KF P) (.ref p.1) "__init__" == some (some (.ref p.2))) && (typeIn (KF P) (.ref p.2) == some (.type "function")) && clsL.contains p.1
theorem i_ok (P : Params) : iOk P = true := by kernel_rfl
theorem call_cls {W : Wx} {d C f : Nat} {H : Hp} {R : V → Hp → Prop} {args : List V} (hi : (C,f) ∈ itab) (h : ∀ a,H a = none → CallW W d (.ref f) (.ref a :: args) (setF H a (.inst C [])) fun x H' => x = .none ∧ R (.ref a) H') : CallW W (d + 1) (.ref C) args H R := by
 intro A s K X vs hA hS r
 have fa := List.all_eq_true.mp (i_ok W.w.params) _ hi
 simp only [Bool.and_eq_true,beq_iff_eq] at fa
 obtain ⟨⟨f1,f2⟩,f3⟩ := fa
 have c := cls_f W.w.params (List.contains_iff_mem.mp f3)
 have XK := W.frag hS
 obtain ⟨hh,g,dr,t,os⟩ := s
 obtain ⟨hn,S1⟩ := Sat.allocI hS C (t := t)
 refine make_core (makes_of XK c.mkI) (looks_findIn XK f1) (fun self => bind_fn XK self f2) (.inl rfl) ?_
 refine codeAny_mono (h _ hn (A.under (.builtin "type.__call__" ⟨.ref C :: vs,[]⟩)) ⟨(hh.push emptyDict).push (instObj C hh.objs.size),g,dr,t,os⟩ K X (.ref (hh.objs.size + 1) :: vs) ⟨hA.handled,?_,?_⟩ S1 (Reps.cons (Rep.ref_iff.mpr rfl) r)) fun rr s' p => ?_
 ·have := hA.depth
  have e : (A.under (.builtin "type.__call__" ⟨.ref C :: vs,[]⟩)).depth ≤ A.depth + 1 := by
   simp [Around.under,Code.cUnits,Code.frames,Code.isFrame]
   first | (unfold Code.weight; split <;> omega) | (unfold Code.weight; simp) | exact Nat.le_of_eq (by kernel_rfl) | decide +kernel
  omega
 ·have := hA.units
  have e : (A.under (.builtin "type.__call__" ⟨.ref C :: vs,[]⟩)).units ≤ A.units + 10 := by simp [Around.under,Code.cUnits,Code.frames,Code.isFrame]
  omega
 ·obtain ⟨v,rfl,K',x,H',le,S',rv,rfl,q⟩ := p
  obtain rfl := Rep.none_iff.mp rv
  exact ⟨rfl,_,rfl,K',_,H',le,S',Rep.ref_iff.mpr rfl,q⟩
section
variable {W : Wx} {d : Nat} {H : Hp} {R : V → Hp → Prop}
theorem sat_keeps {K X : Fz} {s : Shared} {h' : Heap} {t : Nat} (hS : W.Sat K X H s) (hk : ∀ b o,s.heap.get? b = some o → h'.get? b = some o) : W.Sat K X H { s with heap := h',toks := t } :=
 Sat.ext hS (F := fun _ => False) (fun _ f => f.elim) (fun b o _ q => hk b o q) Le.rfl (fun b o q => .inl q) (fun b ob q => ⟨hS.apart _ _ q,hk _ _ (hS.keepX _ _ q),.inl (by rw [q]; simp)⟩) (t := t)
theorem CallT.one {f : Value} {x : V} (h : ∀ A s K X a,Room d A → W.Sat K X H s → Rep K x a → wpAny W.M A (PySem.call f [a]) (Post W K X R) NoE s) : CallT W d f [x] H R := by
 intro A s K X vs hA hS hr
 obtain ⟨a,r,rfl,h1,h2⟩ := Reps.cons_iff.mp hr
 rw [Reps.nil_iff.mp h2]
 exact h A s K X a hA hS h1
theorem CallT.two {f : Value} {x y : V} (h : ∀ A s K X a b,Room d A → W.Sat K X H s → Rep K x a → Rep K y b → wpAny W.M A (PySem.call f [a,b]) (Post W K X R) NoE s) : CallT W d f [x,y] H R := by
 intro A s K X vs hA hS hr
 obtain ⟨a,r,rfl,h1,h2⟩ := Reps.cons_iff.mp hr
 obtain ⟨b,r,rfl,h3,h4⟩ := Reps.cons_iff.mp h2
 rw [Reps.nil_iff.mp h4]
 exact h A s K X a b hA hS h1 h3
theorem CallT.three {f : Value} {x y z : V} (h : ∀ A s K X a b c,Room d A → W.Sat K X H s → Rep K x a → Rep K y b → Rep K z c → wpAny W.M A (PySem.call f [a,b,c]) (Post W K X R) NoE s) : CallT W d f [x,y,z] H R := by
 intro A s K X vs hA hS hr
 obtain ⟨a,r,rfl,h1,h2⟩ := Reps.cons_iff.mp hr
 obtain ⟨b,r,rfl,h3,h4⟩ := Reps.cons_iff.mp h2
 obtain ⟨c,r,rfl,h5,h6⟩ := Reps.cons_iff.mp h4
 rw [Reps.nil_iff.mp h6]
 exact h A s K X a b c hA hS h1 h3 h5
theorem ct_len {a : Addr} {l : List V} (e : H a = some (.list l)) (hl : l.length ≤ 1000000) (h : R (.int l.length) H) : CallT W d (.builtin "len") [.ref a] H R :=
 CallT.one fun A s K X p hA hS rx => by
  obtain rfl := Rep.ref_iff.mp rx
  obtain ⟨vs,n,e1,r⟩ := hS.list e
  have hs := reps_size r
  refine call_len_list (isList_of e1) (by rw [hs]; omega) ?_
  rw [hs]
  exact post_same hS (Rep.int_iff.mpr ⟨_,rfl⟩) h
theorem ct_lenT {l : List V} (hl : l.length ≤ 1000000) (h : R (.int l.length) H) : CallT W d (.builtin "len") [.tup l] H R :=
 CallT.one fun A s K X p hA hS rx => by
  obtain ⟨a,n,vs,rfl,e1,r⟩ := Rep.tup_iff.mp rx
  have hs := reps_size r
  refine call_len_meets (n := (vs.size : Int)) (isTup_of (hS.keep _ _ e1)).typeIs PySem.F.slot_tuple_len PySem.F.entry_tuple_len (PySem.F.args_tuple_len_1 _) (AutoSeq1.tuple___len___tuple_0 a vs n) (by omega) (by rw [hs]; omega) (fun Q' q => ⟨hS.keep _ _ e1,q⟩) ?_
  rw [hs]
  exact post_same hS (Rep.int_iff.mpr ⟨_,rfl⟩) h
theorem ct_max {a b : Int} (h : R (.int (max a b)) H) : CallT W d (.builtin "max") [.int a,.int b] H R :=
 CallT.two fun A s K X x y hA hS rx ry => by
  obtain ⟨t,rfl⟩ := Rep.int_iff.mp rx
  obtain ⟨u,rfl⟩ := Rep.int_iff.mp ry
  refine max_two_ints hA.handled fun h' tk hk => ⟨K,.int (max a b),H,Le.rfl,sat_keeps hS hk,?_,h⟩
  split
  ·exact Rep.int_iff.mpr ⟨u,by congr 1; omega⟩
  ·exact Rep.int_iff.mpr ⟨t,by congr 1; omega⟩
theorem ct_min {a b : Int} (h : R (.int (min a b)) H) : CallT W d (.builtin "min") [.int a,.int b] H R :=
 CallT.two fun A s K X x y hA hS rx ry => by
  obtain ⟨t,rfl⟩ := Rep.int_iff.mp rx
  obtain ⟨u,rfl⟩ := Rep.int_iff.mp ry
  refine min_two_ints hA.handled fun h' tk hk => ⟨K,.int (min a b),H,Le.rfl,sat_keeps hS hk,?_,h⟩
  split
  ·exact Rep.int_iff.mpr ⟨u,by congr 1; omega⟩
  ·exact Rep.int_iff.mpr ⟨t,by congr 1; omega⟩
theorem ct_append {a : Addr} {l : List V} {x : V} (e : H a = some (.list l)) (hl : l.length ≤ 1000000) (h : R .none (setF H a (.list (l ++ [x])))) : CallT W d (.builtin "list.append") [.ref a,x] H R :=
 CallT.two fun A s K X p q hA hS rx ry => by
  obtain rfl := Rep.ref_iff.mp rx
  obtain ⟨vs,n,e1,r⟩ := hS.list e
  have hs := reps_size r
  refine wpAny_list_append_plain (items := vs) ⟨n,e1⟩ (fun h' hp hb => ?_) (by rw [hs,sizeLine_eq]; omega)
  obtain ⟨n',e2⟩ := hp
  exact ⟨K,.none,_,Le.rfl,Sat.update hS e (m' := .list (l ++ [x])) hb (fun _ _ q => nomatch q) (fun D => ⟨_,_,e2,by rw [Array.toList_push]; exact r.append (Reps.cons ry Reps.nil)⟩) (t := s.toks),Rep.none_iff.mpr rfl,h⟩
theorem ct_extend {a b : Addr} {l l' : List V} (e : H a = some (.list l)) (e' : H b = some (.list l')) (hl : l.length + l'.length ≤ 1000000) (h : R .none (setF H a (.list (l ++ l')))) : CallT W d (.builtin "list.extend") [.ref a,.ref b] H R :=
 CallT.two fun A s K X p q hA hS rx ry => by
  obtain rfl := Rep.ref_iff.mp rx
  obtain rfl := Rep.ref_iff.mp ry
  obtain ⟨vs,n,e1,r⟩ := hS.list e
  obtain ⟨vs',n',e1',r'⟩ := hS.list e'
  have hs := reps_size r
  have hs' := reps_size r'
  refine call_meets PySem.F.slot_list_extend ⟨_,e1,rfl⟩ PySem.F.entry_list_extend (PySem.F.args_list_extend_2 _ _) (AutoSeq1.list_extend_list_list_0 a vs n b vs' n' (by simp [Builtin.List.listTooLong,sizeLine]; omega) (by rw [sizeLine_eq]; omega) (by rw [sizeLine_eq]; omega)) ⟨e1,e1',?_⟩
  obtain ⟨n2,hd⟩ := Obj.data_mapSeq (o := listO vs n) rfl (fun x => x ++ vs')
  refine ⟨K,.none,_,Le.rfl,Sat.update hS e (m' := .list (l ++ l')) (Heap.SameBut.update s.heap a (Obj.mapSeq fun x => x ++ vs')) (fun _ _ q => nomatch q) (fun D => ⟨vs ++ vs',n2,?_,by rw [Array.toList_append]; exact r.append r'⟩) (t := s.toks),Rep.none_iff.mpr rfl,h⟩
  rw [Heap.get?_update_self _ e1 (Obj.isFreed_of_seq hd)]
  unfold Obj.mapSeq at hd ⊢
  simp only at hd ⊢
  rw [hd]
theorem ct_pop {a : Addr} {l : List V} {x : V} (e : H a = some (.list (l ++ [x]))) (hl : l.length ≤ 1000000) (h : R x (setF H a (.list l))) : CallT W d (.builtin "list.pop") [.ref a] H R :=
 CallT.one fun A s K X p hA hS rx => by
  obtain rfl := Rep.ref_iff.mp rx
  obtain ⟨vs,n,e1,r⟩ := hS.list e
  have hs := reps_size r
  rw [List.length_append,List.length_singleton] at hs
  obtain ⟨y,hy,ry⟩ := r.get l.length (x := x) (by simp)
  have hz : vs.size - 1 = l.length := by omega
  refine call_meets PySem.F.slot_list_pop ⟨_,e1,rfl⟩ PySem.F.entry_list_pop (PySem.F.args_list_pop_1 _) (PySem.MeetsSeq.list_pop_last a vs n y (by rw [hz]; simpa using hy) (by rw [hs,sizeLine_eq]; omega)) ⟨e1,?_⟩
  obtain ⟨n2,hd⟩ := Obj.data_mapSeq (o := listO vs n) rfl (fun xs => xs.eraseIdxIfInBounds (vs.size - 1))
  refine ⟨K,x,_,Le.rfl,Sat.update hS e (m' := .list l) (Heap.SameBut.update s.heap a (Obj.mapSeq fun xs => xs.eraseIdxIfInBounds (vs.size - 1))) (fun _ _ q => nomatch q) (fun D => ⟨vs.eraseIdxIfInBounds (vs.size - 1),n2,?_,?_⟩) (t := s.toks),ry,h⟩
  ·rw [Heap.get?_update_self _ e1 (Obj.isFreed_of_seq hd)]
   unfold Obj.mapSeq at hd ⊢
   simp only at hd ⊢
   rw [hd]
  ·have := r.take l.length
   rw [List.take_left] at this
   have e3 : (vs.eraseIdxIfInBounds (vs.size - 1)).toList = vs.toList.take l.length := by
    rw [← hz]
    simp [Array.eraseIdxIfInBounds]
    split
    ·simp [List.eraseIdx_eq_take_drop_succ]
     omega
    ·omega
   rw [e3]; exact this
theorem ef_setitem {a : Addr} {l : List V} {i : Int} {x : V} {R : Hp → Prop} (e : H a = some (.list l)) (h0 : 0 ≤ i) (h1 : i < l.length) (hl : l.length ≤ 1000000) (h : R (setF H a (.list (l.set i.toNat x)))) :
  EffW W d (u3 fun v o i => setItem o i v) [x,.ref a,.int i] H R :=
 EffW.three fun A s K X p q z hA hS rx ry rz => by
  obtain rfl := Rep.ref_iff.mp ry
  obtain ⟨t,rfl⟩ := Rep.int_iff.mp rz
  obtain ⟨vs,n,e1,r⟩ := hS.list e
  have hs := reps_size r
  have hL := isList_of e1
  unfold setItem
  refine wpAny_holding ?_
  refine wpAny_bind (wpAny_sequenceKey hL.typeIs (by decide) ?_)
  refine wpAny_bind (wpAny_callSpecial?_slot (name := Str.ofString "__setitem__") hL.typeIs slot_list_setitem
   (wpAny_call_entry slot_list_setitem hL.typeIs entry_list_setitem ?_ (args_list_setitem _ _ _)))
  show wpAny _ _ (Builtin.List.listSubscript? (.int i t) >>= _) _ _ s
  refine wpAny_bind (wpAny_listSubscript_int (fitsIndex_of h0 (by omega)) ?_)
  obtain ⟨j,rfl⟩ := Int.eq_ofNat_of_zero_le h0
  have hj : j < vs.size := by omega
  show wpAny _ _ ((seqItemAt a j >>= fun r => pure (r.map (j,·))) >>= _) _ _ s
  refine wpAny_bind (wpAny_bind (wpAny_seqItemAt e1 rfl (wpAny_pure ?_)))
  rw [Array.getElem?_eq_getElem hj]
  show wpAny _ _ (setSeqItemAt a j p >>= _) _ _ s
  obtain ⟨n2,hd⟩ := Obj.data_mapSeq (o := listO vs n) rfl (fun x => x.setIfInBounds j p)
  have S' := Sat.update hS e (m' := .list (l.set j x)) (Heap.SameBut.update s.heap a (Obj.mapSeq fun x => x.setIfInBounds j p)) (fun _ _ q => nomatch q) (fun D => ⟨vs.setIfInBounds j p,n2,by
   rw [Heap.get?_update_self _ e1 (Obj.isFreed_of_seq hd)]
   unfold Obj.mapSeq at hd ⊢
   simp only at hd ⊢
   rw [hd],by rw [Array.toList_setIfInBounds]; exact r.set j rx⟩) (t := s.toks)
  refine wpAny_bind (wpAny_setSeqItemAt e1 rfl ?_)
  generalize hs2 : ({ s with heap := s.heap.update a (Obj.mapSeq fun x => x.setIfInBounds j p) } : Shared) = s2
  have S2 : W.Sat K X (setF H a (.list (l.set j x))) s2 := by rw [← hs2]; exact S'
  first
   | exact wpAny_bind (wpAny_pure (wpAny_pure ⟨.none,rfl,wpAny_pure ⟨K,_,Le.rfl,S2,h⟩⟩))
   | exact wpAny_pure ⟨.none,rfl,wpAny_pure ⟨K,_,Le.rfl,S2,h⟩⟩
theorem op_addL {a b : Addr} {l l' : List V} (e : H a = some (.list l)) (e' : H b = some (.list l')) (hl : l.length + l'.length ≤ 1000000) (h : ∀ c,H c = none → R (.ref c) (setF H c (.list (l ++ l')))) : OpW W d (t2 (binaryOp .Add)) [.ref a,.ref b] H R :=
 OpW.two fun A s K X p q hA hS rx ry => by
  obtain rfl := Rep.ref_iff.mp rx
  obtain rfl := Rep.ref_iff.mp ry
  obtain ⟨vs,n,e1,r⟩ := hS.list e
  obtain ⟨vs',n',e1',r'⟩ := hS.list e'
  have hs := reps_size r
  have hs' := reps_size r'
  refine concat_meets ⟨_,e1,rfl⟩ ⟨_,e1',rfl⟩ noFill_list_add seq_list_add PySem.F.slot_list_add PySem.F.entry_list_add (PySem.F.args_list_add_2 _ _) (AutoSeq1.list___add___list_list_0 a vs n b vs' n' (by rw [sizeLine_eq]; omega)) ⟨e1,e1',?_⟩
  exact post_list (vs := vs ++ vs') (n := 0) (t := s.toks) hS (by rw [Array.toList_append]; exact r.append r') h
theorem op_mulL {a : Addr} {x : V} {k : Int} (e : H a = some (.list [x])) (hl : -1000 ≤ k ∧ k ≤ 1000) (h : ∀ c,H c = none → R (.ref c) (setF H c (.list (List.replicate k.toNat x)))) : OpW W d (t2 (binaryOp .Mult)) [.ref a,.int k] H R :=
 OpW.two fun A s K X p q hA hS rx ry => by
  obtain rfl := Rep.ref_iff.mp rx
  obtain ⟨u,rfl⟩ := Rep.int_iff.mp ry
  obtain ⟨vs,n,e1,r⟩ := hS.list e
  have hs := reps_size r
  simp only [List.length_singleton] at hs
  refine wpAny_binaryOp_repeat_ref (T := "list") (U := "int") (by decide) ⟨_,e1,rfl⟩ (fun s' => typeIs_int s' k u) noFill_list_mul PySem.F.fills_int_mul PySem.F.slot_int_rmul repeat_list PySem.F.slot_int_index.lookup
   (call_meets PySem.F.slot_int_rmul (typeIs_int s k u) PySem.F.entry_int_rmul (PySem.F.args_int_rmul_2 _ _) (int___rmul___int_list k u a vs n)
    ⟨e1,rfl,⟨_,e1,rfl⟩,call_meets PySem.F.slot_list_mul ⟨_,e1,rfl⟩ PySem.F.entry_list_mul (PySem.F.args_list_mul_2 _ _)
     (AutoListH.list___mul___list_int_3 a vs n k u (by simp [Builtin.List.listFitsIndex]; omega) (by rw [hs]; omega) (by rw [hs]; simp [Builtin.List.listTooLong,sizeLine]; omega)) ⟨e1,?_⟩⟩)
  have hne : vs.isEmpty = false := by cases q : vs.isEmpty with | false => rfl | true => rw [Array.isEmpty_iff] at q; rw [q] at hs; cases hs
  rw [hne]
  simp only [Bool.false_eq_true,if_false,listMul_foldl,List.nil_append,Array.toList_empty]
  obtain ⟨v,r1,ev,rv,r2⟩ := Reps.cons_iff.mp r
  rw [Reps.nil_iff.mp r2] at ev
  refine post_list (n := 0) (t := s.toks) hS ?_ h
  simp only [ev]
  generalize k.toNat = m
  induction m with
  | zero => exact Reps.nil
  | succ m ih => simp only [List.replicate_succ,List.flatten_cons,List.singleton_append]; exact Reps.cons rv (by simpa using ih)
theorem op_addT {l l' : List V} (hl : l.length + l'.length ≤ 1000) (h : R (.tup (l ++ l')) H) : OpW W d (t2 (binaryOp .Add)) [.tup l,.tup l'] H R :=
 OpW.two fun A s K X p q hA hS rx ry => by
  obtain ⟨a,n,vs,rfl,e1,r⟩ := Rep.tup_iff.mp rx
  obtain ⟨b,n',vs',rfl,e1',r'⟩ := Rep.tup_iff.mp ry
  have hs := reps_size r
  have hs' := reps_size r'
  have k1 := hS.keep _ _ e1
  have k2 := hS.keep _ _ e1'
  by_cases hv : vs.isEmpty = true
  ·refine concat_meets ⟨_,k1,rfl⟩ ⟨_,k2,rfl⟩ noFill_tuple_add seq_tuple_add PySem.F.slot_tuple_add PySem.F.entry_tuple_add (PySem.F.args_tuple_add_2 _ _) (AutoSeq1.tuple___add___tuple_tuple_0 a vs n b vs' n' hv) ⟨k1,k2,?_⟩
   rw [Array.isEmpty_iff] at hv
   subst hv
   have : l = [] := List.eq_nil_of_length_eq_zero hs.symm
   subst this
   exact post_same hS (Rep.tup_iff.mpr ⟨b,n',vs',rfl,e1',r'⟩) h
  ·by_cases hv' : vs'.isEmpty = true
   ·refine concat_meets ⟨_,k1,rfl⟩ ⟨_,k2,rfl⟩ noFill_tuple_add seq_tuple_add PySem.F.slot_tuple_add PySem.F.entry_tuple_add (PySem.F.args_tuple_add_2 _ _) (AutoSeq1.tuple___add___tuple_tuple_1 a vs n b vs' n' hv hv') ⟨k1,k2,?_⟩
    rw [Array.isEmpty_iff] at hv'
    subst hv'
    have : l' = [] := List.eq_nil_of_length_eq_zero hs'.symm
    subst this
    rw [List.append_nil] at h
    exact post_same hS (Rep.tup_iff.mpr ⟨a,n,vs,rfl,e1,r⟩) h
   ·refine concat_meets ⟨_,k1,rfl⟩ ⟨_,k2,rfl⟩ noFill_tuple_add seq_tuple_add PySem.F.slot_tuple_add PySem.F.entry_tuple_add (PySem.F.args_tuple_add_2 _ _) (AutoSeq1.tuple___add___tuple_tuple_2 a vs n b vs' n' hv hv' (by rw [sizeLine_eq]; omega)) ⟨k1,k2,?_⟩
    have := post_freeze (vs := vs.toList ++ vs'.toList) (n := 0) (t := s.toks) hS (r.append r') h
    have e : (vs.toList ++ vs'.toList).toArray = vs ++ vs' := by simp
    rw [e] at this
    exact this
def optV : Option Int → V | none => .none | some i => .int i
def pySlice (l : List V) (lo hi : Option Int) : List V := (l.drop (lo.elim 0 (clipAt l.length))).take (hi.elim l.length (clipAt l.length) - lo.elim 0 (clipAt l.length))
theorem part_of {K : Fz} {o : Option Int} {v : Value} (r : Rep K (optV o) v) : IsPart v o := by
 cases o with
 | none => rw [Rep.none_iff.mp r]; exact .none
 | some i => obtain ⟨t,rfl⟩ := Rep.int_iff.mp r; exact .int i t
theorem slice_core {K X : Fz} {s : Shared} {A : Around} {a : Addr} {l : List V} {vs : Array Value} {n : Nat} {sl : Addr} {lo hi : Option Int} {v u : Value} (hS : W.Sat K X H s) (e1 : s.heap.get? a = some (listO vs n)) (r : Reps K l vs.toList)
  (hl : l.length ≤ 1000000) (ks : K sl = some (sliceO v u)) (rl : Rep K (optV lo) v) (ru : Rep K (optV hi) u) (h : ∀ c,H c = none → R (.ref c) (setF H c (.list (pySlice l lo hi)))) : wpAny W.M A (getItem (.ref a) (.ref sl)) (Post W K X R) NoE s := by
 have hs := reps_size r
 refine wpAny_getItem_list_slice (isList_of e1) ⟨_,hS.keep _ _ ks,rfl,rfl⟩ (part_of rl) (part_of ru) .none (by simp) ?_ (by rw [hs,sizeLine_eq]; omega)
 rw [slicePick_plain]
 refine post_list (n := 0) (t := s.toks) hS ?_ h
 unfold pySlice
 rw [← hs]
 exact (r.drop _).take _
theorem slc_list {a : Addr} {l : List V} {lo hi : Option Int} (e : H a = some (.list l)) (hl : l.length ≤ 1000000) (h : ∀ c,H c = none → R (.ref c) (setF H c (.list (pySlice l lo hi)))) : SlcW W d (.ref a) (optV lo) (optV hi) H R := by
 intro A s K X o sl v u hA hS ro ks rl ru
 obtain rfl := Rep.ref_iff.mp ro
 obtain ⟨vs,n,e1,r⟩ := hS.list e
 exact slice_core hS e1 r hl ks rl ru h
theorem slc_raw {a : Addr} {l : List V} {vs : Array Value} {n : Nat} {lo hi : Option Int} (e : W.h₀.get? a = some (listO vs n)) (r : ∀ K,Reps K l vs.toList) (hl : l.length ≤ 1000000) (h : ∀ c,H c = none → R (.ref c) (setF H c (.list (pySlice l lo hi)))) : SlcW W d (.raw (.ref a)) (optV lo) (optV hi) H R := by
 intro A s K X o sl v u hA hS ro ks rl ru
 obtain rfl := Rep.raw_iff.mp ro
 exact slice_core hS (hS.stays _ _ e) (r K) hl ks rl ru h
end
mutual
inductive Dat (H : Hp) : Nat → V → PyData → Prop where
 | none {n} : Dat H n .none .none
 | bool {n b} : Dat H n (.bool b) (.bool b)
 | int {n i} : Dat H n (.int i) (.int i)
 | str {n s} : PyData.strOk s = true → Dat H n (.str s) (.str s)
 | tup {n l ds} : DatAll H n l ds → Dat H (n + 1) (.tup l) (.tuple ds)
 | list {n a l ds} : H a = some (.list l) → DatAll H n l ds → Dat H (n + 1) (.ref a) (.list ds)
inductive DatAll (H : Hp) : Nat → List V → List PyData → Prop where
 | nil {n} : DatAll H n [] []
 | cons {n x l d ds} : Dat H n x d → DatAll H n l ds → DatAll H n (x :: l) (d :: ds)
end
section
variable {W : Wx} {H : Hp}
mutual
theorem Dat.reads {K X : Fz} {s : Shared} (hS : W.Sat K X H s) : ∀ {n : Nat} {x : V} {e : PyData} {v : Value},Dat H n x e → Rep K x v → ∃ as,Reads s.heap v e as
 | _,_,_,_,.none,r => by rw [Rep.none_iff.mp r]; exact ⟨_,.none⟩
 | _,_,_,_,.bool,r => by rw [Rep.bool_iff.mp r]; exact ⟨_,.bool _⟩
 | _,_,_,_,.int,r => by obtain ⟨t,rfl⟩ := Rep.int_iff.mp r; exact ⟨_,.int _ _⟩
 | _,_,_,_,.str _,r => by obtain ⟨t,rfl⟩ := Rep.str_iff.mp r; exact ⟨_,.str _ _⟩
 | _,_,_,_,.tup h,r => by
  obtain ⟨a,n,vs,rfl,e1,r⟩ := Rep.tup_iff.mp r
  obtain ⟨as,h'⟩ := DatAll.reads hS h r
  exact ⟨_,.tuple (hS.keep _ _ e1) rfl rfl h'⟩
 | _,_,_,_,.list e h,r => by
  obtain rfl := Rep.ref_iff.mp r
  obtain ⟨vs,n,e1,r⟩ := hS.list e
  obtain ⟨as,h'⟩ := DatAll.reads hS h r
  exact ⟨_,.list e1 rfl rfl h'⟩
theorem DatAll.reads {K X : Fz} {s : Shared} (hS : W.Sat K X H s) : ∀ {n : Nat} {l : List V} {es : List PyData} {vs : List Value},DatAll H n l es → Reps K l vs → ∃ as,ReadsAll s.heap vs es as
 | _,_,_,_,.nil,r => by rw [Reps.nil_iff.mp r]; exact ⟨_,.nil⟩
 | _,_,_,_,.cons h h',r => by
  obtain ⟨v,r',rfl,p,q⟩ := Reps.cons_iff.mp r
  obtain ⟨as,a⟩ := Dat.reads hS h p
  obtain ⟨bs,b⟩ := DatAll.reads hS h' q
  exact ⟨_,.cons a b⟩
end
mutual
theorem Dat.lay : ∀ {n : Nat} {x : V} {e : PyData},Dat H n x e → e.canLay0 = true ∧ e.depth ≤ n + 1
 | _,_,_,.none => ⟨by simp [PyData.canLay0],by simp [PyData.depth]⟩
 | _,_,_,.bool => ⟨by simp [PyData.canLay0],by simp [PyData.depth]⟩
 | _,_,_,.int => ⟨by simp [PyData.canLay0],by simp [PyData.depth]⟩
 | _,_,_,.str h => ⟨by simpa [PyData.canLay0] using h,by simp [PyData.depth]⟩
 | _,_,_,.tup h => by have := DatAll.lay h; exact ⟨by simpa [PyData.canLay0] using this.1,by simp only [PyData.depth]; have := this.2; omega⟩
 | _,_,_,.list _ h => by have := DatAll.lay h; exact ⟨by simpa [PyData.canLay0] using this.1,by simp only [PyData.depth]; have := this.2; omega⟩
theorem DatAll.lay : ∀ {n : Nat} {l : List V} {es : List PyData},DatAll H n l es → PyData.canLayAll0 es = true ∧ PyData.depthAll es ≤ n + 1
 | _,_,_,.nil => ⟨by simp [PyData.canLayAll0],by simp [PyData.depthAll]⟩
 | _,_,_,.cons h h' => by
  have a := Dat.lay h
  have b := DatAll.lay h'
  exact ⟨by simp only [PyData.canLayAll0,a.1,b.1,Bool.and_self],by simp only [PyData.depthAll]; have := a.2; have := b.2; omega⟩
end
variable {d : Nat} {R : V → Hp → Prop}
theorem op_eqD {n m : Nat} {x y : V} {e f : PyData} (hx : Dat H n x e) (hy : Dat H m y f) (hn : n ≤ 60) (hm : m ≤ 60) (h : R (.bool (PyData.eqv e f)) H) : OpW W d (t2 (compareOp .Eq)) [x,y] H R :=
 OpW.two fun A s K X p q hA hS rx ry => by
  obtain ⟨as,ra⟩ := hx.reads hS rx
  obtain ⟨bs,rb⟩ := hy.reads hS ry
  have l1 := hx.lay
  have l2 := hy.lay
  have hsh : ∀ {e : PyData},e.canLay0 = true → e.depth ≤ 64 → SeqAt.shaped e = true := fun a b => by unfold SeqAt.shaped; rw [a,decide_eq_true b]; rfl
  exact SeqAt.compareEq_shaped ra rb (hsh l1.1 (by omega)) (hsh l2.1 (by omega)) (by have := hA.units; unfold cLine; omega) (post_same hS (Rep.bool_iff.mpr rfl) h)
theorem op_neD {n m : Nat} {x y : V} {e f : PyData} (hx : Dat H n x e) (hy : Dat H m y f) (hn : n ≤ 60) (hm : m ≤ 60) (h : R (.bool (!PyData.eqv e f)) H) : OpW W d (t2 (compareOp .NotEq)) [x,y] H R :=
 OpW.two fun A s K X p q hA hS rx ry => by
  obtain ⟨as,ra⟩ := hx.reads hS rx
  obtain ⟨bs,rb⟩ := hy.reads hS ry
  have l1 := hx.lay
  have l2 := hy.lay
  have hsh : ∀ {e : PyData},e.canLay0 = true → e.depth ≤ 64 → SeqAt.shaped e = true := fun a b => by unfold SeqAt.shaped; rw [a,decide_eq_true b]; rfl
  exact SeqAt.compareNe_shaped ra rb (hsh l1.1 (by omega)) (hsh l2.1 (by omega)) (by have := hA.units; unfold cLine; omega) (post_same hS (Rep.bool_iff.mpr rfl) h)
theorem Dat.eqv_self {n : Nat} {x : V} {e : PyData} (hx : Dat H n x e) : PyData.eqv e e = true := SeqAt.eqv_refl e hx.lay.1
theorem op_inS {x : Str} {l : List Str} (h : R (.bool (l.any (· == x))) H) : OpW W d (t2 (compareOp .In)) [.str x,.tup (l.map .str)] H R :=
 OpW.two fun A s K X p q hA hS rx ry => by
  obtain ⟨t,rfl⟩ := Rep.str_iff.mp rx
  obtain ⟨a,n,vs,rfl,e1,r⟩ := Rep.tup_iff.mp ry
  have all : ∀ (l : List Str) (vs : List Value),Reps K (l.map .str) vs → (∀ y ∈ vs,∃ z u,y = .str z u) ∧ vs.any (fun y => match y with | .str z _ => z == x | _ => false) = l.any (· == x) := by
   intro l
   induction l with
   | nil => intro vs r; rw [Reps.nil_iff.mp r]; exact ⟨fun _ h => (nomatch h),rfl⟩
   | cons z l ih =>
    intro vs r
    obtain ⟨v,r',rfl,p,q⟩ := Reps.cons_iff.mp r
    obtain ⟨u,rfl⟩ := Rep.str_iff.mp p
    obtain ⟨i1,i2⟩ := ih _ q
    refine ⟨fun y hy => ?_,by rw [List.any_cons,List.any_cons,i2]⟩
    rcases List.mem_cons.mp hy with rfl | hy
    ·exact ⟨_,_,rfl⟩
    ·exact i1 y hy
  obtain ⟨a1,a2⟩ := all l _ r
  refine SeqAt.in_tupleAt (fun y => match y with | .str z _ => z == x | _ => false) (isTup_of (hS.keep _ _ e1)) (fun y hy => ?_) ?_
  ·obtain ⟨z,u,rfl⟩ := a1 y (by simpa using hy)
   exact SeqAt.EqAt.str_str z u x t
  ·rw [← Array.any_toList,a2]
   exact post_same hS (Rep.bool_iff.mpr rfl) h
theorem ct_list {a : Addr} {l : List V} (e : H a = some (.list l)) (hl : l.length ≤ 1000000) (h : ∀ c,H c = none → R (.ref c) (setF H c (.list l))) : CallT W d (.type "list") [.ref a] H R :=
 CallT.one fun A s K X p hA hS rx => by
  obtain rfl := Rep.ref_iff.mp rx
  obtain ⟨vs,n,e1,r⟩ := hS.list e
  have hs := reps_size r
  refine call_list_seq a (.inl rfl) e1 rfl rfl (fun h' c' hk hc => ?_) (by rw [hs,sizeLine_eq]; omega)
  have hfr := Sat.fresh hS
  have S1 : W.Sat K (setF X s.heap.objs.size (listO vs c')) H { s with heap := h' } := by
   refine Sat.ext hS (F := fun _ => False) (fun _ f => f.elim) (fun b o _ q => hk b o q) Le.rfl (fun b o q => .inl q) (fun b ob q => ?_) (t := s.toks)
   unfold setF at q
   split at q
   ·rename_i z; cases q; subst z; exact ⟨hfr.1,hc,.inr (Nat.le_refl _)⟩
   ·exact ⟨hS.apart _ _ q,hk _ _ (hS.keepX _ _ q),.inl (by rw [q]; simp)⟩
  obtain ⟨hn,S2⟩ := Sat.thaw S1 (a := s.heap.objs.size) (m := .list l) (X' := X) setF_same (fun b o q => by
   rw [setF_ne]; · exact q
   intro z; rw [z,hfr.2.1] at q; cases q) hfr.2.1 (fun _ _ q => nomatch q) (h' := h') ⟨rfl,fun _ _ => rfl⟩ (fun D => ⟨vs,c',hc,r⟩) (t := s.toks)
  exact ⟨K,_,_,Le.rfl,S2,Rep.ref_iff.mpr rfl,h _ hn⟩
theorem ct_listT {l : List V} (hl : l.length ≤ 1000000) (h : ∀ c,H c = none → R (.ref c) (setF H c (.list l))) : CallT W d (.type "list") [.tup l] H R :=
 CallT.one fun A s K X p hA hS rx => by
  obtain ⟨a,n,vs,rfl,e1,r⟩ := Rep.tup_iff.mp rx
  have hs := reps_size r
  refine call_list_seq a (.inr rfl) (hS.keep _ _ e1) rfl rfl (fun h' c' hk hc => ?_) (by rw [hs,sizeLine_eq]; omega)
  have hfr := Sat.fresh hS
  have S1 : W.Sat K (setF X s.heap.objs.size (listO vs c')) H { s with heap := h' } := by
   refine Sat.ext hS (F := fun _ => False) (fun _ f => f.elim) (fun b o _ q => hk b o q) Le.rfl (fun b o q => .inl q) (fun b ob q => ?_) (t := s.toks)
   unfold setF at q
   split at q
   ·rename_i z; cases q; subst z; exact ⟨hfr.1,hc,.inr (Nat.le_refl _)⟩
   ·exact ⟨hS.apart _ _ q,hk _ _ (hS.keepX _ _ q),.inl (by rw [q]; simp)⟩
  obtain ⟨hn,S2⟩ := Sat.thaw S1 (a := s.heap.objs.size) (m := .list l) (X' := X) setF_same (fun b o q => by
   rw [setF_ne]; · exact q
   intro z; rw [z,hfr.2.1] at q; cases q) hfr.2.1 (fun _ _ q => nomatch q) (h' := h') ⟨rfl,fun _ _ => rfl⟩ (fun D => ⟨vs,c',hc,r⟩) (t := s.toks)
  exact ⟨K,_,_,Le.rfl,S2,Rep.ref_iff.mpr rfl,h _ hn⟩
theorem ct_int {i : Int} (h : R (.int i) H) : CallT W d (.type "int") [.int i] H R :=
 CallT.one fun A s K X p hA hS rx => by
  obtain ⟨t,rfl⟩ := Rep.int_iff.mp rx
  exact call_int_int (post_same hS (Rep.int_iff.mpr ⟨_,rfl⟩) h)
theorem ct_all {a : Addr} {n : Nat} (e : H a = some (.list (List.replicate n (.bool true)))) (h : R (.bool true) H) : CallT W d (.builtin "all") [.ref a] H R :=
 CallT.one fun A s K X p hA hS rx => by
  obtain rfl := Rep.ref_iff.mp rx
  obtain ⟨vs,k,e1,r⟩ := hS.list e
  have hL := isList_of e1
  have hlt : a < s.heap.objs.size := Heap.lt_size e1
  refine call_all_walk (wpAny_pyIter_list hL ?_)
  refine ⟨_,_,_,_,_,_,fun _ => true,rfl,Walks.list (A := A.in1) hA.handled _ a (Nat.ne_of_lt hlt) vs,⟨⟨_,Heap.get?_push_size _ rfl,rfl,rfl⟩,hL.push _⟩,fun i v s' Q E hi hQ => ?_,fun h' tk hk => ?_⟩
  ·have : v = .bool true := by
    have hl : vs.toList[i]? = some v := by simpa using hi
    have : ∀ (n : Nat) (vs : List Value) (i : Nat),Reps K (List.replicate n (.bool true)) vs → vs[i]? = some v → v = .bool true := by
     intro n
     induction n with
     | zero => intro vs i r q; rw [Reps.nil_iff.mp r] at q; cases q
     | succ n ih =>
      intro vs i r q
      obtain ⟨v',r',rfl,p,q'⟩ := Reps.cons_iff.mp r
      cases i with
      | zero => cases q; exact Rep.bool_iff.mp p
      | succ i => exact ih _ i q' q
    exact this _ _ _ r hl
   subst this
   exact wpAny_truthy_bool hQ
  ·have : (List.range vs.size).all (fun _ => true) = true := by simp
   rw [this]
   exact ⟨K,_,_,Le.rfl,(sat_keeps (s := s) hS (old_kept (s := s) (l := a) hk) : W.Sat K X H { s with heap := h',toks := tk }),Rep.bool_iff.mpr rfl,h⟩
end
section
variable {α : Type} [DecidableEq α]
def dAt (k : α) (l : List (α × V)) : Option V := (l.find? fun p => p.1 = k).map (·.2)
def dPut (k : α) (x : V) (l : List (α × V)) : List (α × V) := if l.any (fun p => p.1 = k) then l.map (fun p => if p.1 = k then (p.1,x) else p) else l ++ [(k,x)]
theorem Kvs.keys {K : Fz} : ∀ {l : List (α × V)} {kvs : List (α × Value)},Kvs K kvs l → kvs.map (·.1) = l.map (·.1)
 | [],_,h => by rw [show (_ : List (α × Value)) = [] from h]; rfl
 | (k,x) :: l,_,⟨v,r,e,_,h⟩ => by subst e; simp [Kvs.keys h]
theorem Kvs.at {K : Fz} {k : α} : ∀ {l : List (α × V)} {kvs : List (α × Value)},Kvs K kvs l → match dAt k l with | some x => ∃ v,valueAt kvs k = some v ∧ Rep K x v | none => valueAt kvs k = none
 | [],_,h => by rw [show (_ : List (α × Value)) = [] from h]; rfl
 | (j,y) :: l,_,⟨v,r,e,hv,h⟩ => by
  subst e
  have ih := Kvs.at (k := k) h
  unfold dAt valueAt at ih ⊢
  rw [List.find?_cons,List.find?_cons]
  by_cases q : j = k
  ·simp only [q,decide_true,Option.map_some]; exact ⟨v,rfl,hv⟩
  ·simp only [q,decide_false]; exact ih
theorem Kvs.map {K : Fz} {k : α} {x : V} {v : Value} (hx : Rep K x v) : ∀ {l : List (α × V)} {kvs : List (α × Value)},Kvs K kvs l → Kvs K (kvs.map fun kv => if kv.1 = k then (kv.1,v) else kv) (l.map fun p => if p.1 = k then (p.1,x) else p)
 | [],_,h => by rw [show (_ : List (α × Value)) = [] from h]; rfl
 | (j,y) :: l,_,⟨w,r,e,hv,h⟩ => by
  subst e
  by_cases q : j = k
  ·simp only [List.map_cons,q,if_true]; exact ⟨v,_,rfl,hx,by simpa [q] using Kvs.map hx h⟩
  ·simp only [List.map_cons,q,if_false]; exact ⟨w,_,rfl,hv,Kvs.map hx h⟩
theorem Kvs.snoc {K : Fz} {k : α} {x : V} {v : Value} (hx : Rep K x v) : ∀ {l : List (α × V)} {kvs : List (α × Value)},Kvs K kvs l → Kvs K (kvs ++ [(k,v)]) (l ++ [(k,x)])
 | [],_,h => by rw [show (_ : List (α × Value)) = [] from h]; exact ⟨v,[],rfl,hx,rfl⟩
 | (j,y) :: l,_,⟨w,r,e,hv,h⟩ => by subst e; exact ⟨w,_,rfl,hv,Kvs.snoc hx h⟩
theorem Kvs.put {K : Fz} {k : α} {x : V} {v : Value} (hx : Rep K x v) {l : List (α × V)} {kvs : List (α × Value)} (h : Kvs K kvs l) : Kvs K (stored kvs k v) (dPut k x l) := by
 unfold stored dPut
 have e : kvs.any (fun kv => kv.1 = k) = l.any (fun p => p.1 = k) := by
  have := congrArg (fun m => m.any fun z => decide (z = k)) h.keys
  simpa [List.any_map,Function.comp_def] using this
 rw [e]
 split
 ·exact Kvs.map hx h
 ·exact Kvs.snoc hx h
end
section
variable {W : Wx} {d : Nat} {H : Hp} {R : V → Hp → Prop}
theorem Wx.Sat.dict {K X : Fz} {s : Shared} {a : Addr} {l : List (Str × V)} (hS : W.Sat K X H s) (e : H a = some (.dict l)) : a ≠ sysModules ∧ ∃ kvs,s.heap.DictOf (PySem.strKind prg W.w) a kvs ∧ Kvs K kvs l :=
 let ⟨_,O⟩ := hS.objs; O.at_ _ _ e
theorem Wx.Sat.dictB {K X : Fz} {s : Shared} {a : Addr} {l : List (List UInt8 × V)} (hS : W.Sat K X H s) (e : H a = some (.dictB l)) : a ≠ sysModules ∧ ∃ kvs,s.heap.DictOf (bytesKind prg W.w) a kvs ∧ Kvs K kvs l :=
 let ⟨_,O⟩ := hS.objs; O.at_ _ _ e
theorem nsm {a : Addr} (h : a ≠ sysModules) : (a == sysModules) = false := by simpa using h
theorem dict0 {κ κ' : Type} [DecidableEq κ] [DecidableEq κ'] {h : Heap} {a : Addr} {knd : KeyKind prg W.w κ} {knd' : KeyKind prg W.w κ'} (x : h.DictOf knd a []) : h.DictOf knd' a [] := by
 obtain ⟨o,es,ep,h1,h2,h3,_,h5,_⟩ := x
 have : es.toList = [] := List.eq_nil_of_length_eq_zero h5.length
 refine ⟨o,es,ep,h1,h2,h3,fun e he => ?_,this ▸ .nil,List.nodup_nil⟩
 rw [← Array.mem_toList_iff,this] at he; cases he
theorem op_dget {a : Addr} {l : List (Str × V)} {k : Str} {x : V} (e : H a = some (.dict l)) (hx : dAt k l = some x) (h : R x H) : OpW W d (t2 getItem) [.ref a,.str k] H R :=
 OpW.two fun A s K X p q hA hS rx ry => by
  obtain rfl := Rep.ref_iff.mp rx
  obtain ⟨t,rfl⟩ := Rep.str_iff.mp ry
  obtain ⟨ns,kvs,hd,hk⟩ := hS.dict e
  have := hk.at (k := k)
  rw [hx] at this
  obtain ⟨v,hv,rv⟩ := this
  exact wpAny_getItem_of (knd := PySem.strKind prg W.w) (k := k) (by simp [PySem.strKind,Value.isStrOf]) hd.mapOf hv (post_same hS rv h)
theorem ef_dset {a : Addr} {l : List (Str × V)} {k : Str} {x : V} {R : Hp → Prop} (e : H a = some (.dict l)) (hl : l.length ≤ 1000) (h : R (setF H a (.dict (dPut k x l)))) : EffW W d (u3 fun v o i => setItem o i v) [x,.ref a,.str k] H R :=
 EffW.three fun A s K X p q z hA hS rx ry rz => by
  obtain rfl := Rep.ref_iff.mp ry
  obtain ⟨t,rfl⟩ := Rep.str_iff.mp rz
  obtain ⟨ns,kvs,hd,hk⟩ := hS.dict e
  have hlen : kvs.length = l.length := by have := congrArg List.length hk.keys; simpa using this
  refine wpAny_setItem_pairs (knd := PySem.strKind prg W.w) (k := k) (by simp [PySem.strKind,Value.isStrOf]) hd (fun h' hm hb => ?_) (by rw [hlen,sizeLine_eq]; omega)
  exact ⟨K,_,Le.rfl,Sat.update hS e (m' := .dict (dPut k x l)) hb (fun _ _ q => nomatch q) (fun D => ⟨ns,_,hm,hk.put rx⟩) (t := s.toks + 1),h⟩
theorem op_dgetB {a : Addr} {l : List (List UInt8 × V)} {k : Array UInt8} {x : V} (e : H a = some (.dictB l)) (hx : dAt k.toList l = some x) (h : R x H) : OpW W d (t2 getItem) [.ref a,.bytes k] H R :=
 OpW.two fun A s K X p q hA hS rx ry => by
  obtain rfl := Rep.ref_iff.mp rx
  obtain ⟨t,rfl⟩ := Rep.bytes_iff.mp ry
  obtain ⟨ns,kvs,hd,hk⟩ := hS.dictB e
  have := hk.at (k := k.toList)
  rw [hx] at this
  obtain ⟨v,hv,rv⟩ := this
  exact wpAny_getItem_of (knd := bytesKind prg W.w) (k := k.toList) (by simp [bytesKind,isBytes]) hd.mapOf hv (post_same hS rv h)
theorem ef_dsetB0 {a : Addr} {k : Array UInt8} {x : V} {R : Hp → Prop} (e : H a = some (.dict [])) (h : R (setF H a (.dictB [(k.toList,x)]))) : EffW W d (u3 fun v o i => setItem o i v) [x,.ref a,.bytes k] H R :=
 EffW.three fun A s K X p q z hA hS rx ry rz => by
  obtain rfl := Rep.ref_iff.mp ry
  obtain ⟨t,rfl⟩ := Rep.bytes_iff.mp rz
  obtain ⟨ns,kvs,hd,hk⟩ := hS.dict e
  rw [show kvs = [] from hk] at hd
  have hd' := dict0 (knd' := bytesKind prg W.w) hd
  refine wpAny_setItem_pairs (knd := bytesKind prg W.w) (k := k.toList) (by simp [bytesKind,isBytes]) hd' (fun h' hm hb => ?_) (by simp)
  exact ⟨K,_,Le.rfl,Sat.update hS e (m' := .dictB [(k.toList,x)]) hb (fun _ _ q => nomatch q) (fun D => ⟨ns,_,hm,⟨p,[],rfl,rx,rfl⟩⟩) (t := s.toks + 1),h⟩
theorem op_notinB0 {a : Addr} {k : Array UInt8} (e : H a = some (.dict [])) (h : R (.bool true) H) : OpW W d (t2 (compareOp .NotIn)) [.bytes k,.ref a] H R :=
 OpW.two fun A s K X p q hA hS rx ry => by
  obtain rfl := Rep.ref_iff.mp ry
  obtain ⟨t,rfl⟩ := Rep.bytes_iff.mp rx
  obtain ⟨ns,kvs,hd,hk⟩ := hS.dict e
  rw [show kvs = [] from hk] at hd
  have hd' := dict0 (knd' := bytesKind prg W.w) hd
  exact wpAny_notIn_of (knd := bytesKind prg W.w) (k := k.toList) (by simp [bytesKind,isBytes]) (nsm ns) hd'.mapOf (post_same hS (Rep.bool_iff.mpr rfl) h)
theorem op_notinB {a : Addr} {l : List (List UInt8 × V)} {k : Array UInt8} (e : H a = some (.dictB l)) (h : R (.bool !(dAt k.toList l).isSome) H) : OpW W d (t2 (compareOp .NotIn)) [.bytes k,.ref a] H R :=
 OpW.two fun A s K X p q hA hS rx ry => by
  obtain rfl := Rep.ref_iff.mp ry
  obtain ⟨t,rfl⟩ := Rep.bytes_iff.mp rx
  obtain ⟨ns,kvs,hd,hk⟩ := hS.dictB e
  have := hk.at (k := k.toList)
  refine wpAny_notIn_of (knd := bytesKind prg W.w) (k := k.toList) (by simp [bytesKind,isBytes]) (nsm ns) hd.mapOf (post_same hS (Rep.bool_iff.mpr ?_) h)
  cases q : dAt k.toList l with
  | none => rw [q] at this; rw [this]; rfl
  | some x => rw [q] at this; obtain ⟨v,hv,_⟩ := this; rw [hv]; rfl
theorem ct_dget {a : Addr} {l : List (Str × V)} {k : Str} {y : V} (e : H a = some (.dict l)) (h : R ((dAt k l).getD y) H) : CallT W d (.builtin "dict.get") [.ref a,.str k,y] H R :=
 CallT.three fun A s K X p q z hA hS rx ry rz => by
  obtain rfl := Rep.ref_iff.mp rx
  obtain ⟨t,rfl⟩ := Rep.str_iff.mp ry
  obtain ⟨ns,kvs,hd,hk⟩ := hS.dict e
  have := hk.at (k := k)
  refine call_meetsIn PySem.F.slot_dict_get hd.typeIs PySem.F.entry_dict_get (PySem.F.args_dict_get_3 _ _ _) (meets_dict_get_default (PySem.strKind prg W.w) a (k := k) (by simp [PySem.strKind,Value.isStrOf]) (nsm ns) z) ⟨_,hd.mapOf,?_⟩
  refine post_same hS ?_ h
  cases q : dAt k l with
  | none => rw [q] at this; rw [this]; exact rz
  | some x => rw [q] at this; obtain ⟨v,hv,rv⟩ := this; rw [hv]; exact rv
theorem ct_dget0 {a : Addr} {i : Int} {y : V} (e : H a = some (.dict [])) (h : R y H) : CallT W d (.builtin "dict.get") [.ref a,.int i,y] H R :=
 CallT.three fun A s K X p q z hA hS rx ry rz => by
  obtain rfl := Rep.ref_iff.mp rx
  obtain ⟨t,rfl⟩ := Rep.int_iff.mp ry
  obtain ⟨ns,kvs,hd,hk⟩ := hS.dict e
  rw [show kvs = [] from hk] at hd
  have hd' := dict0 (knd' := PySem.intKind prg W.w) hd
  refine call_meetsIn PySem.F.slot_dict_get hd.typeIs PySem.F.entry_dict_get (PySem.F.args_dict_get_3 _ _ _) (meets_dict_get_default (PySem.intKind prg W.w) a (k := i) (by simp [PySem.intKind,Value.isInt]) (nsm ns) z) ⟨_,hd'.mapOf,?_⟩
  exact post_same hS rz h
theorem mth_dict {a m : Nat} {l : List (Str × V)} {id : String} (e : H a = some (.dict l)) (slot : Slot "dict" (mnOf m) id) (hty : typeOf (.builtin id) = pure (.type "method_descriptor")) : MthW W d (mnOf m) (.ref a) H (.builtin id) := by
 intro A s K X v pl hA hS rv Q hQ
 obtain rfl := Rep.ref_iff.mp rv
 obtain ⟨ns,kvs,hd,hk⟩ := hS.dict e
 exact getMethod_builtin hd.typeIs PySem.F.plainAttrs_dict slot hty hd.mapOf.noDict hQ
theorem setF_setF {β : Type} {f : Addr → Option β} {a : Addr} {x y : β} : setF (setF f a x) a y = setF f a y := by
 funext b; unfold setF; split <;> rfl
theorem lst_to {K X : Fz} {s : Shared} {a : Addr} {l₀ l : List V} {vs : Array Value} {n t : Nat} (hS : W.Sat K X H s) (e : H a = some (.list l₀)) (e1 : s.heap.get? a = some (listO vs n)) (f : Array Value → Array Value) (r : Reps K l (f vs).toList) :
  W.Sat K X (setF H a (.list l)) { s with heap := s.heap.update a (Obj.mapSeq f),toks := t } := by
 obtain ⟨n2,hd⟩ := Obj.data_mapSeq (o := listO vs n) rfl f
 refine Sat.update hS e (m' := .list l) (Heap.SameBut.update s.heap a (Obj.mapSeq f)) (fun _ _ q => nomatch q) (fun D => ⟨f vs,n2,?_,r⟩)
 rw [Heap.get?_update_self _ e1 (Obj.isFreed_of_seq hd)]
 unfold Obj.mapSeq at hd ⊢
 simp only at hd ⊢
 rw [hd]
theorem ct_sorted0 {a : Addr} (e : H a = some (.dict [])) (h : ∀ c,H c = none → R (.ref c) (setF H c (.list []))) : CallT W d (.builtin "sorted") [.ref a] H R :=
 CallT.one fun A s K X p hA hS rx => by
  obtain rfl := Rep.ref_iff.mp rx
  obtain ⟨ns,kvs,hd,hk⟩ := hS.dict e
  rw [show kvs = [] from hk] at hd
  obtain ⟨ep,hat⟩ := hd.dictAt
  refine Calls.call_function_entry kind_sorted plain_sorted entry_sorted (args_sorted1 _) ?_
  unfold Builtin.«sorted»
  refine wpAny_bind (m := checkCount "sorted" 1 1 _) (wpAny_pure ?_)
  refine wpAny_bind (kdu_collect (A := A.in1) (kdl_dict (knd := PySem.strKind prg W.w) (kvs := []) (ep := ep) (nsm ns)) hA.handled hat (Nat.zero_le _) fun h' tk acc hk hacc => ?_)
  have ha : acc = #[] := by have := hacc.1; simpa using this
  subst ha
  have S1 : W.Sat K X H { s with heap := h',toks := tk } := sat_keeps hS hk
  refine wpAny_bind (wpAny_newList ?_ (by simp))
  have hoL : (h'.push (seqObj "list" (#[] : Array Value).toList.toArray 0)).get? h'.objs.size = some (seqObj "list" ([] : List Value).toArray 0) := Heap.get?_push_size _ rfl
  refine wpAny_bind (wpAny_holding (wpAny_call_entry slot_list_sort ⟨_,hoL,rfl⟩ entry_list_sort (list_sort_tree hoL (vs := []) (ns := []) .nil (by simp) fun out ns' a1 a2 a3 => ⟨_,rfl,?_⟩) (args_list_sort _)))
  have hn' : ns' = [] := a2.eq_nil
  subst hn'
  have ho : out.toList = [] := by cases hq : out.toList with | nil => rfl | cons v r => rw [hq] at a1; cases a1
  refine wpAny_pure ⟨_,rfl,?_⟩
  have S2 := Sat.alloc S1 (listO #[] 0) (.list []) (fun _ _ e => nomatch e) (fun D => ⟨#[],0,Heap.get?_push_size _ rfl,Reps.nil⟩) (t := tk)
  have hfr := (Sat.fresh S1).2.2
  have S3 := lst_to S2 (vs := #[]) (n := 0) setF_same (Heap.get?_push_size _ rfl) (fun _ => #[]) (l := []) Reps.nil (t := tk)
  have S4 := sat_keeps (t := tk) S3 fun b o e => Heap.get?_push_of_some (seqObj "tuple" ([] : List Value).toArray 0) e
  have S5 := sat_keeps (t := tk) S4 fun b o e => Heap.get?_push_of_some (seqObj "list" #[] 0) e
  obtain ⟨vs2,n2,e2,_⟩ := S5.list (a := h'.objs.size) (l := []) setF_same
  have S6 := lst_to S5 (vs := vs2) (n := n2) setF_same e2 (fun _ => out) (l := []) (by rw [ho]; exact Reps.nil) (t := tk)
  rw [setF_setF,setF_setF] at S6
  exact ⟨K,_,_,Le.rfl,S6,Rep.ref_iff.mpr rfl,h _ hfr⟩
end
section
variable {W : Wx} {d : Nat} {H : Hp} {R : V → Hp → Prop}
def cd_62 : List I := [.lit (.raw (.builtin "max")),.loc 1,.lit (.raw (.builtin "min")),.loc 0,.loc 2,.call 2,.call 2,.ret]
theorem in_62 (a0 a1 a2 : V) (h : Run W d cd_62 [] [some a0,some a1,some a2] H (behind R)) : CallW W (d + 1) (.ref 62) [a0,a1,a2] H R := call_def (df_62 _) (by kernel_rfl) (by rw [show codeAt 8 1000 = cd_62 by kernel_rfl,show ro0 8 1000 (psOf (dg 8 1000)) [a0,a1,a2] = [some a0,some a1,some a2] by kernel_rfl]; exact h)
def cd_69 : List I := [.lit (.int (0)),.lit (.int (-1)),.loc 0,.lit (.int (2)),.idx,.lit (.int (-1)),.lit (.int (0)),.tup 5,.ret]
theorem in_69 (a0 : V) (h : Run W d cd_69 [] [some a0] H (behind R)) : CallW W (d + 1) (.ref 69) [a0] H R := call_def (df_69 _) (by kernel_rfl) (by rw [show codeAt 9 1000 = cd_69 by kernel_rfl,show ro0 9 1000 (psOf (dg 9 1000)) [a0] = [some a0] by kernel_rfl]; exact h)
def cd_76 : List I := [.tup 0,.lit (.int (1)),.lit (.raw (.ref 69)),.loc 0,.call 1,.lit (.bool false),.tup 4,.ret]
theorem in_76 (a0 : V) (h : Run W d cd_76 [] [some a0] H (behind R)) : CallW W (d + 1) (.ref 76) [a0] H R := call_def (df_76 _) (by kernel_rfl) (by rw [show codeAt 10 1000 = cd_76 by kernel_rfl,show ro0 10 1000 (psOf (dg 10 1000)) [a0] = [some a0] by kernel_rfl]; exact h)
def cd_83 : List I := [.loc 0,.lit (.int (0)),.idx,.tup 0,.cmp .Eq,.chk,.ite [.loc 0,.lit (.int (1)),.idx,.lit (.int (1)),.cmp .Eq,.chk] [.lit (.bool false)],.ret]
theorem in_83 (a0 : V) (h : Run W d cd_83 [] [some a0] H (behind R)) : CallW W (d + 1) (.ref 83) [a0] H R := call_def (df_83 _) (by kernel_rfl) (by rw [show codeAt 11 1000 = cd_83 by kernel_rfl,show ro0 11 1000 (psOf (dg 11 1000)) [a0] = [some a0] by kernel_rfl]; exact h)
def cd_90 : List I := [.loc 0,.tup 0,.lit (.int (1)),.lit (.tup [.int (0),.int (-1),.int (-1),.int (-1),.int (0)]),.lit (.bool false),.tup 4,.cmp .Eq,.ret]
theorem in_90 (a0 : V) (h : Run W d cd_90 [] [some a0] H (behind R)) : CallW W (d + 1) (.ref 90) [a0] H R := call_def (df_90 _) (by kernel_rfl) (by rw [show codeAt 12 1000 = cd_90 by kernel_rfl,show ro0 12 1000 (psOf (dg 12 1000)) [a0] = [some a0] by kernel_rfl]; exact h)
def cd_98 : List I := [.lit (.raw (.ref 76)),.loc 1,.call 1,.lst 1,.lit (.raw (.builtin "max")),.lit (.int (0)),.loc 0,.call 2,.bin .Mult,.ret]
theorem in_98 (a0 a1 : V) (h : Run W d cd_98 [] [some a0,some a1] H (behind R)) : CallW W (d + 1) (.ref 98) [a0,a1] H R := call_def (df_98 _) (by kernel_rfl) (by rw [show codeAt 15 1000 = cd_98 by kernel_rfl,show ro0 15 1000 (psOf (dg 15 1000)) [a0,a1] = [some a0,some a1] by kernel_rfl]; exact h)
def cd_105 : List I := [.tup 0,.lit (.int (0)),.loc 0,.lit (.int (2)),.idx,.loc 0,.lit (.int (3)),.idx,.tup 4,.ret]
theorem in_105 (a0 : V) (h : Run W d cd_105 [] [some a0] H (behind R)) : CallW W (d + 1) (.ref 105) [a0] H R := call_def (df_105 _) (by kernel_rfl) (by rw [show codeAt 16 1000 = cd_105 by kernel_rfl,show ro0 16 1000 (psOf (dg 16 1000)) [a0] = [some a0] by kernel_rfl]; exact h)
def cd_112 : List I := [.lit (.int (0)),.loc 1,.cmpk .Lt,.ite [.lit (.raw (.builtin "len")),.loc 0,.call 1,.cmp .Lt] [.pop,.lit (.bool false)],.chk,.ite [.loc 0,.loc 1,.idx,.lit (.int (1)),.idx,.lit (.int (0)),.cmp .Eq,.chk] [.lit (.bool false)],.ite [.lit (.raw (.ref 76)),.loc 0,.loc 1,.lit (.int (1)),.bin .Sub,.idx,.lit (.int (2)),.idx,.call 1,.loc 0,.loc 1,.lit (.int (1)),.bin .Sub,.sidx,.lit (.raw (.ref 76)),.loc 0,.loc 1,.idx,.lit (.int (2)),.idx,.call 1,.loc 0,.loc 1,.sidx] []]
theorem in_112 (a0 a1 : V) (h : Run W d cd_112 [] [some a0,some a1] H (behind R)) : CallW W (d + 1) (.ref 112) [a0,a1] H R := call_def (df_112 _) (by kernel_rfl) (by rw [show codeAt 17 1000 = cd_112 by kernel_rfl,show ro0 17 1000 (psOf (dg 17 1000)) [a0,a1] = [some a0,some a1] by kernel_rfl]; exact h)
def cd_140 : List I := [.lit (.raw (.ref 98)),.loc 1,.loc 2,.call 2,.loc 0,.sattr 0,.lit (.bool false),.loc 0,.sattr 1,.lit (.tup [.str (S "single"),.str (S "wide"),.str (S "top"),.str (S "bottom")]),.lit (.int (0)),.idx,.loc 0,.sattr 2]
theorem in_140 (a0 a1 a2 : V) (h : Run W d cd_140 [] [some a0,some a1,some a2] H (behind R)) : CallW W (d + 1) (.ref 140) [a0,a1,a2] H R := call_def (df_140 _) (by kernel_rfl) (by rw [show codeAt 20 0 = cd_140 by kernel_rfl,show ro0 20 0 (psOf (dg 20 0)) [a0,a1,a2] = [some a0,some a1,some a2] by kernel_rfl]; exact h)
def cd_162 : List I := [.lit (.raw (.ref 112)),.loc 0,.attr 0,.loc 1,.call 2,.pop]
theorem in_162 (a0 a1 : V) (h : Run W d cd_162 [] [some a0,some a1] H (behind R)) : CallW W (d + 1) (.ref 162) [a0,a1] H R := call_def (df_162 _) (by kernel_rfl) (by rw [show codeAt 20 3 = cd_162 by kernel_rfl,show ro0 20 3 (psOf (dg 20 3)) [a0,a1] = [some a0,some a1] by kernel_rfl]; exact h)
def cd_169 : List I := [.lit (.int (0)),.loc 1,.cmpk .LtE,.ite [.lit (.raw (.builtin "len")),.loc 0,.attr 0,.call 1,.cmp .Lt] [.pop,.lit (.bool false)],.chk,.notb,.ite [.lit (.bool true)] [.loc 2,.lit (.int (1)),.idx,.lit (.int (0)),.cmp .Eq,.chk],.ite [.lit (.none),.ret] [],.loc 2,.lit (.int (1)),.idx,.lit (.int (2)),.cmp .Eq,.chk,.ite [.loc 1,.lit (.int (1)),.bin .Add,.lit (.raw (.builtin "len")),.loc 0,.attr 0,.call 1,.cmp .Eq,.chk] [.lit (.bool false)],.ite [.lit (.raw (.ref 76)),.loc 2,.lit (.int (2)),.idx,.call 1,.sto 2] [],.loc 0,.mth 0,.loc 1,.call 2,.pop,.loc 0,.mth 0,.loc 1,.loc 2,.lit (.int (1)),.idx,.bin .Add,.call 2,.pop,.loc 2,.loc 0,.attr 0,.loc 1,.sidx,.loc 2,.lit (.int (1)),.idx,.lit (.int (2)),.cmp .Eq,.chk,.ite [.lit (.raw (.ref 105)),.loc 2,.call 1,.loc 0,.attr 0,.loc 1,.lit (.int (1)),.bin .Add,.sidx] []]
theorem in_169 (a0 a1 a2 : V) (h : Run W d cd_169 [] [some a0,some a1,some a2] H (behind R)) : CallW W (d + 1) (.ref 169) [a0,a1,a2] H R := call_def (df_169 _) (by kernel_rfl) (by rw [show codeAt 20 4 = cd_169 by kernel_rfl,show ro0 20 4 (psOf (dg 20 4)) [a0,a1,a2] = [some a0,some a1,some a2] by kernel_rfl]; exact h)
def cd_248 : List I := [.loc 0,.attr 0,.loc 0,.attr 1,.loc 0,.attr 2,.tup 3,.loc 1,.attr 0,.loc 1,.attr 1,.loc 1,.attr 2,.tup 3,.cmp .Eq,.ret]
theorem in_248 (a0 a1 : V) (h : Run W d cd_248 [] [some a0,some a1] H (behind R)) : CallW W (d + 1) (.ref 248) [a0,a1] H R := call_def (df_248 _) (by kernel_rfl) (by rw [show codeAt 20 15 = cd_248 by kernel_rfl,show ro0 20 15 (psOf (dg 20 15)) [a0,a1] = [some a0,some a1] by kernel_rfl]; exact h)
def cd_267 : List I := [.loc 1,.lit (.int (1)),.cmp .Lt,.chk,.ite [.lit (.bool true)] [.loc 2,.lit (.int (1)),.cmp .Lt,.chk],.ite [.bad] [],.loc 1,.loc 0,.sattr 3,.loc 2,.loc 0,.sattr 4,.has [none,some 2],.loc 1,.lc .range 1 [none,some 2] [.sto 0] [.lit (.raw (.ref 251)),.loc 1,.lit (.tup [.int (0),.int (-1),.int (-1),.int (-1),.int (0)]),.call 2],.loc 0,.sattr 5]
theorem in_267 (a0 a1 a2 : V) (h : Run W d cd_267 [] [some a0,some a1,some a2] H (behind R)) : CallW W (d + 1) (.ref 267) [a0,a1,a2] H R := call_defC (df_267 _) rfl (by kernel_rfl) (by rw [show codeAt 22 0 = cd_267 by kernel_rfl,show ro0 22 0 (psOf (dg 22 0)) ([a0,a1,a2] ++ []) = [some a0,some a1,some a2] by kernel_rfl]; exact h)
def cd_274 : List I := [.loc 0,.attr 5,.loc 1,.idx,.ret]
theorem in_274 (a0 a1 : V) (h : Run W d cd_274 [] [some a0,some a1] H (behind R)) : CallW W (d + 1) (.ref 274) [a0,a1] H R := call_def (df_274 _) (by kernel_rfl) (by rw [show codeAt 22 1 = cd_274 by kernel_rfl,show ro0 22 1 (psOf (dg 22 1)) [a0,a1] = [some a0,some a1] by kernel_rfl]; exact h)
def cd_288 : List I := [.loc 1,.lit (.int (1)),.idx,.lit (.int (0)),.cmp .Eq,.chk,.ite [.loc 1,.lit (.int (3)),.idx,.loc 0,.attr 4,.lit (.int (1)),.bin .Sub,.cmp .Eq,.chk] [.lit (.bool false)],.ret]
theorem in_288 (a0 a1 : V) (h : Run W d cd_288 [] [some a0,some a1] H (behind R)) : CallW W (d + 1) (.ref 288) [a0,a1] H R := call_def (df_288 _) (by kernel_rfl) (by rw [show codeAt 22 3 = cd_288 by kernel_rfl,show ro0 22 3 (psOf (dg 22 3)) [a0,a1] = [some a0,some a1] by kernel_rfl]; exact h)
def cd_293 : List I := [.has [none,some 2,some 0],.loc 1,.lc .range 1 [none,some 2,some 0] [.sto 0] [.lit (.raw (.ref 251)),.loc 2,.attr 4,.loc 1,.call 2],.ret]
theorem in_293 (a0 a1 a2 : V) (h : Run W d cd_293 [] [some a0,some a1,some a2] H (behind R)) : CallW W (d + 1) (.ref 293) [a0,a1,a2] H R := call_defC (df_293 _) rfl (by kernel_rfl) (by rw [show codeAt 22 4 = cd_293 by kernel_rfl,show ro0 22 4 (psOf (dg 22 4)) ([a0,a1,a2] ++ []) = [some a0,some a1,some a2] by kernel_rfl]; exact h)
def cd_300 : List I := [.loc 1,.lit (.int (0)),.cmp .Gt,.chk,.ite [.lit (.bool false),.loc 0,.attr 5,.loc 1,.lit (.int (1)),.bin .Sub,.idx,.sattr 1] []]
theorem in_300 (a0 a1 : V) (h : Run W d cd_300 [] [some a0,some a1] H (behind R)) : CallW W (d + 1) (.ref 300) [a0,a1] H R := call_def (df_300 _) (by kernel_rfl) (by rw [show codeAt 22 5 = cd_300 by kernel_rfl,show ro0 22 5 (psOf (dg 22 5)) [a0,a1] = [some a0,some a1] by kernel_rfl]; exact h)
def cd_307 : List I := [.loc 1,.unp 4,.sto 4,.sto 5,.sto 6,.sto 7,.lit (.raw (.ref 62)),.loc 2,.lit (.int (0)),.loc 6,.loc 4,.bin .Sub,.lit (.int (1)),.bin .Add,.call 3,.sto 2,.loc 2,.lit (.int (0)),.cmp .Eq,.chk,.ite [.lst 0,.ret] [],.loc 0,.mth 4,.loc 1,.call 2,.chk,.notb,.ite [.loc 4,.loc 6,.lit (.int (1)),.bin .Add,.loc 2,.bin .Sub,.fr .range 2 [.sto 8] [.bad,.pop],.bad,.pop,.bad,.pop,.lst 0,.ret] [],.loc 0,.attr 5,.loc 4,.loc 4,.loc 2,.bin .Add,.slc,.sto 9,.loc 0,.attr 5,.loc 4,.loc 2,.bin .Add,.loc 6,.lit (.int (1)),.bin .Add,.slc,.sto 10,.loc 10,.lst 0,.cmp .Eq,.chk,.ite [.lit (.bool false),.loc 9,.lit (.int (1)),.neg,.idx,.sattr 1] [],.loc 0,.attr 5,.lit (.none),.loc 4,.slc,.loc 10,.bin .Add,.loc 0,.mth 5,.loc 2,.loc 3,.call 3,.bin .Add,.loc 0,.attr 5,.loc 6,.lit (.int (1)),.bin .Add,.lit (.none),.slc,.bin .Add,.loc 0,.sattr 5,.loc 0,.mth 6,.loc 4,.call 2,.pop,.loc 0,.mth 6,.loc 6,.lit (.int (1)),.bin .Add,.loc 2,.bin .Sub,.call 2,.pop,.loc 9,.ret]
theorem in_307 (a0 a1 a2 a3 : V) (h : Run W d cd_307 [] [some a0,some a1,some a2,some a3,none,none,none,none,none,none,none] H (behind R)) : CallW W (d + 1) (.ref 307) [a0,a1,a2,a3] H R := call_def (df_307 _) (by kernel_rfl) (by rw [show codeAt 22 6 = cd_307 by kernel_rfl,show ro0 22 6 (psOf (dg 22 6)) [a0,a1,a2,a3] = [some a0,some a1,some a2,some a3,none,none,none,none,none,none,none] by kernel_rfl]; exact h)
def cd_388 : List I := [.loc 0,.attr 3,.loc 1,.attr 3,.cmp .NotEq,.chk,.ite [.lit (.bool true)] [.loc 0,.attr 4,.loc 1,.attr 4,.cmp .NotEq,.chk],.ite [.lit (.bool false),.ret] [],.lit (.raw (.builtin "all")),.has [none,none],.loc 0,.attr 5,.loc 1,.attr 5,.lc .zip 2 [none,none] [.unp 2,.sto 0,.sto 1] [.loc 0,.mth 2,.loc 1,.call 2],.call 1,.ret]
theorem in_388 (a0 a1 : V) (h : Run W d cd_388 [] [some a0,some a1] H (behind R)) : CallW W (d + 1) (.ref 388) [a0,a1] H R := call_def (df_388 _) (by kernel_rfl) (by rw [show codeAt 22 18 = cd_388 by kernel_rfl,show ro0 22 18 (psOf (dg 22 18)) [a0,a1] = [some a0,some a1] by kernel_rfl]; exact h)
def cd_428 : List I := [.loc 1,.loc 0,.sattr 6,.lst 0,.loc 0,.sattr 5,.lit (.int (0)),.loc 0,.sattr 7]
theorem in_428 (a0 a1 : V) (h : Run W d cd_428 [] [some a0,some a1] H (behind R)) : CallW W (d + 1) (.ref 428) [a0,a1] H R := call_def (df_428 _) (by kernel_rfl) (by rw [show codeAt 27 0 = cd_428 by kernel_rfl,show ro0 27 0 (psOf (dg 27 0)) [a0,a1] = [some a0,some a1] by kernel_rfl]; exact h)
def cd_442 : List I := [.loc 0,.attr 5,.mth 41,.loc 1,.call 2,.pop,.lit (.raw (.builtin "len")),.loc 0,.attr 5,.call 1,.loc 0,.attr 6,.cmp .LtE,.chk,.ite [.lit (.none),.ret] [],.bad,.loc 0,.attr 5,.mth 43,.lit (.int (0)),.call 2,.ret]
theorem in_442 (a0 a1 : V) (h : Run W d cd_442 [] [some a0,some a1] H (behind R)) : CallW W (d + 1) (.ref 442) [a0,a1] H R := call_def (df_442 _) (by kernel_rfl) (by rw [show codeAt 27 2 = cd_442 by kernel_rfl,show ro0 27 2 (psOf (dg 27 2)) [a0,a1] = [some a0,some a1] by kernel_rfl]; exact h)
def cd_475 : List I := [.lit (.raw (.ref 487)),.loc 0,.attr 5,.loc 1,.attr 5,.call 2,.ret]
theorem in_475 (a0 a1 : V) (h : Run W d cd_475 [] [some a0,some a1] H (behind R)) : CallW W (d + 1) (.ref 475) [a0,a1] H R := call_def (df_475 _) (by kernel_rfl) (by rw [show codeAt 27 7 = cd_475 by kernel_rfl,show ro0 27 7 (psOf (dg 27 7)) [a0,a1] = [some a0,some a1] by kernel_rfl]; exact h)
def cd_487 : List I := [.lit (.raw (.builtin "len")),.loc 0,.call 1,.lit (.raw (.builtin "len")),.loc 1,.call 1,.cmp .NotEq,.chk,.ite [.lit (.bool false),.ret] [],.lit (.raw (.builtin "all")),.has [none,none],.loc 0,.loc 1,.lc .zip 2 [none,none] [.unp 2,.sto 0,.sto 1] [.loc 0,.mth 2,.loc 1,.call 2],.call 1,.ret]
theorem in_487 (a0 a1 : V) (h : Run W d cd_487 [] [some a0,some a1] H (behind R)) : CallW W (d + 1) (.ref 487) [a0,a1] H R := call_def (df_487 _) (by kernel_rfl) (by rw [show codeAt 28 1000 = cd_487 by kernel_rfl,show ro0 28 1000 (psOf (dg 28 1000)) [a0,a1] = [some a0,some a1] by kernel_rfl]; exact h)
def cd_501 : List I := [.loc 1,.loc 0,.sattr 8,.loc 2,.loc 0,.sattr 2,.lst 0,.loc 0,.sattr 9,.lst 0,.loc 0,.sattr 0,.lit (.bool true),.loc 0,.sattr 10]
theorem in_501 (a0 a1 a2 : V) (h : Run W d cd_501 [] [some a0,some a1,some a2] H (behind R)) : CallW W (d + 1) (.ref 501) [a0,a1,a2] H R := call_def (df_501 _) (by kernel_rfl) (by rw [show codeAt 29 0 = cd_501 by kernel_rfl,show ro0 29 0 (psOf (dg 29 0)) [a0,a1,a2] = [some a0,some a1,some a2] by kernel_rfl]; exact h)
def cd_508 : List I := [.loc 0,.attr 9,.mth 41,.lit (.raw (.builtin "len")),.loc 0,.attr 0,.call 1,.call 2,.pop,.loc 0,.attr 0,.mth 42,.loc 1,.call 2,.pop]
theorem in_508 (a0 a1 : V) (h : Run W d cd_508 [] [some a0,some a1] H (behind R)) : CallW W (d + 1) (.ref 508) [a0,a1] H R := call_def (df_508 _) (by kernel_rfl) (by rw [show codeAt 29 1 = cd_508 by kernel_rfl,show ro0 29 1 (psOf (dg 29 1)) [a0,a1] = [some a0,some a1] by kernel_rfl]; exact h)
def cd_515 : List I := [.whl [.lit (.raw (.builtin "len")),.loc 0,.attr 0,.call 1,.loc 1,.cmp .Lt,.chk] [.loc 0,.attr 0,.mth 41,.lit (.raw (.ref 76)),.lit (.tup [.int (0),.int (-1),.int (-1),.int (-1),.int (0)]),.call 1,.call 2,.pop]]
theorem in_515 (a0 a1 : V) (h : Run W d cd_515 [] [some a0,some a1] H (behind R)) : CallW W (d + 1) (.ref 515) [a0,a1] H R := call_def (df_515 _) (by kernel_rfl) (by rw [show codeAt 29 2 = cd_515 by kernel_rfl,show ro0 29 2 (psOf (dg 29 2)) [a0,a1] = [some a0,some a1] by kernel_rfl]; exact h)
def cd_522 : List I := [.loc 1,.lit (.int (1)),.bin .Add,.lit (.raw (.builtin "len")),.loc 0,.attr 9,.call 1,.cmp .Lt,.chk,.ite [.loc 0,.attr 9,.loc 1,.lit (.int (1)),.bin .Add,.idx,.loc 0,.attr 9,.loc 1,.idx,.bin .Sub] [.lit (.none)],.ret]
theorem in_522 (a0 a1 : V) (h : Run W d cd_522 [] [some a0,some a1] H (behind R)) : CallW W (d + 1) (.ref 522) [a0,a1] H R := call_def (df_522 _) (by kernel_rfl) (by rw [show codeAt 29 3 = cd_522 by kernel_rfl,show ro0 29 3 (psOf (dg 29 3)) [a0,a1] = [some a0,some a1] by kernel_rfl]; exact h)
def cd_529 : List I := [.loc 0,.mth 10,.loc 1,.call 2,.sto 3,.loc 3,.lit (.none),.cmp .IsNot,.chk,.ite [.loc 2,.loc 3,.cmpk .GtE,.ite [.lit (.int (0)),.cmp .Gt] [.pop,.lit (.bool false)],.chk] [.lit (.bool false)],.ite [.loc 0,.attr 9,.loc 1,.idx,.loc 3,.bin .Add,.lit (.int (1)),.bin .Sub,.lit (.bool true),.tup 2,.ret] [],.loc 0,.attr 9,.loc 1,.idx,.loc 2,.bin .Add,.lit (.bool false),.tup 2,.ret]
theorem in_529 (a0 a1 a2 : V) (h : Run W d cd_529 [] [some a0,some a1,some a2,none] H (behind R)) : CallW W (d + 1) (.ref 529) [a0,a1,a2] H R := call_def (df_529 _) (by kernel_rfl) (by rw [show codeAt 29 4 = cd_529 by kernel_rfl,show ro0 29 4 (psOf (dg 29 4)) [a0,a1,a2] = [some a0,some a1,some a2,none] by kernel_rfl]; exact h)
def cd_543 : List I := [.lit (.raw (.builtin "len")),.loc 0,.call 1,.sto 1,.whl [.loc 1,.lit (.int (0)),.cmp .Gt,.chk,.ite [.lit (.raw (.ref 90)),.loc 0,.loc 1,.lit (.int (1)),.bin .Sub,.idx,.call 1,.chk] [.lit (.bool false)]] [.loc 1,.lit (.int (1)),.bin .Sub,.sto 1],.loc 0,.lit (.none),.loc 1,.slc,.ret]
theorem in_543 (a0 : V) (h : Run W d cd_543 [] [some a0,none] H (behind R)) : CallW W (d + 1) (.ref 543) [a0] H R := call_def (df_543 _) (by kernel_rfl) (by rw [show codeAt 30 1000 = cd_543 by kernel_rfl,show ro0 30 1000 (psOf (dg 30 1000)) [a0] = [some a0,none] by kernel_rfl]; exact h)
def cd_550 : List I := [.lit (.raw (.builtin "len")),.loc 0,.attr 0,.call 1,.lit (.int (0)),.cmp .Gt,.chk,.ite [.loc 0,.attr 0,.lit (.int (0)),.idx,.lit (.int (1)),.idx,.lit (.int (2)),.cmp .Eq,.chk] [.lit (.bool false)],.ret]
theorem in_550 (a0 : V) (h : Run W d cd_550 [] [some a0] H (behind R)) : CallW W (d + 1) (.ref 550) [a0] H R := call_def (df_550 _) (by kernel_rfl) (by rw [show codeAt 31 1000 = cd_550 by kernel_rfl,show ro0 31 1000 (psOf (dg 31 1000)) [a0] = [some a0] by kernel_rfl]; exact h)
def cd_557 : List I := [.loc 0,.loc 1,.idx,.attr 0,.sto 2,.lit (.raw (.ref 564)),.loc 0,.loc 1,.call 2,.chk,.notb,.ite [.lit (.raw (.ref 543)),.loc 2,.call 1,.ret] [],.lit (.raw (.ref 83)),.loc 2,.lit (.int (1)),.neg,.idx,.call 1,.chk,.ite [.lit (.raw (.ref 550)),.loc 0,.loc 1,.lit (.int (1)),.bin .Add,.idx,.call 1,.chk] [.lit (.bool false)],.ite [.loc 2,.lit (.none),.lit (.int (1)),.neg,.slc,.ret] [],.loc 2,.ret]
theorem in_557 (a0 a1 : V) (h : Run W d cd_557 [] [some a0,some a1,none] H (behind R)) : CallW W (d + 1) (.ref 557) [a0,a1] H R := call_def (df_557 _) (by kernel_rfl) (by rw [show codeAt 32 1000 = cd_557 by kernel_rfl,show ro0 32 1000 (psOf (dg 32 1000)) [a0,a1] = [some a0,some a1,none] by kernel_rfl]; exact h)
def cd_564 : List I := [.loc 1,.lit (.int (1)),.bin .Add,.lit (.raw (.builtin "len")),.loc 0,.call 1,.cmp .GtE,.chk,.ite [.lit (.bool true)] [.loc 0,.loc 1,.idx,.attr 1,.chk,.notb,.ite [.lit (.bool true)] [.lit (.raw (.builtin "len")),.loc 0,.loc 1,.idx,.attr 0,.call 1,.lit (.int (0)),.cmp .Eq,.chk]],.ite [.lit (.bool false),.ret] [],.loc 0,.loc 1,.idx,.attr 2,.lit (.str (S "single")),.cmp .Eq,.chk,.ite [.loc 0,.loc 1,.lit (.int (1)),.bin .Add,.idx,.attr 2,.lit (.str (S "single")),.cmp .Eq,.chk] [.lit (.bool false)],.ret]
theorem in_564 (a0 a1 : V) (h : Run W d cd_564 [] [some a0,some a1] H (behind R)) : CallW W (d + 1) (.ref 564) [a0,a1] H R := call_def (df_564 _) (by kernel_rfl) (by rw [show codeAt 33 1000 = cd_564 by kernel_rfl,show ro0 33 1000 (psOf (dg 33 1000)) [a0,a1] = [some a0,some a1] by kernel_rfl]; exact h)
def cd_571 : List I := [.lst 0,.lit (.int (0)),.tup 2,.unp 2,.sto 1,.sto 2,.whl [.loc 2,.lit (.raw (.builtin "len")),.loc 0,.call 1,.cmp .Lt,.chk] [.lit (.raw (.ref 532)),.loc 2,.loc 0,.loc 2,.idx,.attr 2,.call 2,.sto 3,.whl [.lit (.raw (.ref 564)),.loc 0,.loc 2,.call 2,.chk] [.loc 3,.mth 1,.lit (.raw (.ref 557)),.loc 0,.loc 2,.call 2,.call 2,.pop,.loc 2,.lit (.int (1)),.bin .Add,.sto 2],.loc 3,.mth 1,.lit (.raw (.ref 557)),.loc 0,.loc 2,.call 2,.call 2,.pop,.loc 0,.loc 2,.idx,.attr 1,.chk,.notb,.loc 3,.sattr 10,.loc 1,.mth 41,.loc 3,.call 2,.pop,.loc 2,.lit (.int (1)),.bin .Add,.sto 2],.loc 1,.ret]
theorem in_571 (a0 : V) (h : Run W d cd_571 [] [some a0,none,none,none] H (behind R)) : CallW W (d + 1) (.ref 571) [a0] H R := call_def (df_571 _) (by kernel_rfl) (by rw [show codeAt 34 1000 = cd_571 by kernel_rfl,show ro0 34 1000 (psOf (dg 34 1000)) [a0] = [some a0,none,none,none] by kernel_rfl]; exact h)
def cd_578 : List I := [.lst 0,.lst 0,.lst 0,.lit (.int (0)),.tup 4,.unp 4,.sto 2,.sto 3,.sto 4,.sto 5,.whl [.loc 5,.lit (.raw (.builtin "len")),.loc 0,.call 1,.cmp .Lt,.chk] [.loc 0,.loc 5,.idx,.sto 6,.loc 6,.lit (.int (1)),.idx,.lit (.int (2)),.cmp .Eq,.chk,.ite [.loc 5,.lit (.int (1)),.bin .Add,.lit (.raw (.builtin "len")),.loc 0,.call 1,.cmp .Lt,.chk,.ite [.loc 0,.loc 5,.lit (.int (1)),.bin .Add,.idx,.lit (.int (1)),.idx,.lit (.int (0)),.cmp .Eq,.chk] [.lit (.bool false)]] [.lit (.bool false)],.ite [.lit (.int (2))] [.lit (.int (1))],.sto 7,.loc 0,.loc 5,.loc 5,.loc 7,.bin .Add,.slc,.sto 8,.loc 7,.loc 1,.cmp .Gt,.chk,.ite [.lit (.bool true)] [.loc 7,.lit (.int (1)),.cmp .Eq,.chk,.ite [.loc 6,.lit (.int (1)),.idx,.lit (.int (1)),.cmp .NotEq,.chk] [.lit (.bool false)]],.ite [.lit (.raw (.ref 76)),.loc 6,.lit (.int (2)),.idx,.call 1,.lst 1,.sto 8] [],.lit (.raw (.builtin "len")),.loc 3,.call 1,.lit (.raw (.builtin "len")),.loc 8,.call 1,.bin .Add,.loc 1,.cmp .Gt,.chk,.ite [.lit (.raw (.builtin "len")),.loc 3,.call 1,.loc 1,.cmp .Lt,.chk,.ite [.loc 3,.mth 41,.lit (.raw (.ref 76)),.lit (.tup [.int (0),.int (-1),.int (-1),.int (-1),.int (0)]),.call 1,.call 2,.pop] [],.loc 2,.mth 41,.loc 3,.call 2,.pop,.lst 0,.sto 3] [],.loc 7,.fr .range 1 [.sto 9] [.loc 4,.mth 41,.lit (.raw (.builtin "len")),.loc 2,.call 1,.lit (.raw (.builtin "len")),.loc 3,.call 1,.lit (.raw (.builtin "min")),.loc 9,.lit (.raw (.builtin "len")),.loc 8,.call 1,.lit (.int (1)),.bin .Sub,.call 2,.bin .Add,.tup 2,.call 2,.pop],.loc 3,.mth 42,.loc 8,.call 2,.pop,.loc 5,.loc 7,.bin .Add,.sto 5],.loc 2,.mth 41,.loc 3,.call 2,.pop,.loc 2,.loc 4,.tup 2,.ret]
theorem in_578 (a0 a1 : V) (h : Run W d cd_578 [] [some a0,some a1,none,none,none,none,none,none,none,none] H (behind R)) : CallW W (d + 1) (.ref 578) [a0,a1] H R := call_def (df_578 _) (by kernel_rfl) (by rw [show codeAt 35 1000 = cd_578 by kernel_rfl,show ro0 35 1000 (psOf (dg 35 1000)) [a0,a1] = [some a0,some a1,none,none,none,none,none,none,none,none] by kernel_rfl]; exact h)
def cd_585 : List I := [.loc 2,.lit (.raw (.builtin "len")),.loc 1,.call 1,.cmp .Lt,.chk,.ite [.loc 1,.loc 2,.idx,.ret] [],.lit (.raw (.builtin "len")),.loc 0,.call 1,.lit (.int (1)),.bin .Sub,.lit (.raw (.builtin "len")),.loc 0,.lit (.int (1)),.neg,.idx,.call 1,.tup 2,.ret]
theorem in_585 (a0 a1 a2 : V) (h : Run W d cd_585 [] [some a0,some a1,some a2] H (behind R)) : CallW W (d + 1) (.ref 585) [a0,a1,a2] H R := call_def (df_585 _) (by kernel_rfl) (by rw [show codeAt 36 1000 = cd_585 by kernel_rfl,show ro0 36 1000 (psOf (dg 36 1000)) [a0,a1,a2] = [some a0,some a1,some a2] by kernel_rfl]; exact h)
def cd_592 : List I := [.lit (.raw (.ref 251)),.loc 1,.lit (.tup [.int (0),.int (-1),.int (-1),.int (-1),.int (0)]),.call 2,.sto 3,.loc 0,.fr .enum 1 [.unp 2,.sto 4,.sto 5] [.loc 5,.loc 3,.attr 0,.loc 4,.sidx],.loc 2,.loc 3,.sattr 1,.loc 3,.ret]
theorem in_592 (a0 a1 a2 : V) (h : Run W d cd_592 [] [some a0,some a1,some a2,none,none,none] H (behind R)) : CallW W (d + 1) (.ref 592) [a0,a1,a2] H R := call_def (df_592 _) (by kernel_rfl) (by rw [show codeAt 37 1000 = cd_592 by kernel_rfl,show ro0 37 1000 (psOf (dg 37 1000)) [a0,a1,a2] = [some a0,some a1,some a2,none,none,none] by kernel_rfl]; exact h)
def cd_606 : List I := [.loc 2,.loc 0,.sattr 4,.lst 0,.loc 0,.sattr 5,.lit (.int (0)),.loc 0,.sattr 8,.lit (.int (0)),.loc 0,.sattr 11,.lit (.int (0)),.loc 0,.sattr 12,.lit (.bool false),.loc 0,.sattr 13,.lst 0,.loc 0,.sattr 14,.lit (.raw (.ref 571)),.loc 1,.call 1,.fr .plain 1 [.sto 5] [.loc 0,.mth 1,.loc 5,.loc 1,.loc 3,.loc 4,.call 5,.pop]]
theorem in_606 (a0 a1 a2 a3 a4 : V) (h : Run W d cd_606 [] [some a0,some a1,some a2,some a3,some a4,none] H (behind R)) : CallW W (d + 1) (.ref 606) [a0,a1,a2,a3,a4] H R := call_def (df_606 _) (by kernel_rfl) (by rw [show codeAt 38 0 = cd_606 by kernel_rfl,show ro0 38 0 (psOf (dg 38 0)) [a0,a1,a2,a3,a4] = [some a0,some a1,some a2,some a3,some a4,none] by kernel_rfl]; exact h)
def cd_613 : List I := [.lit (.raw (.builtin "len")),.loc 0,.attr 5,.call 1,.loc 1,.attr 8,.lit (.raw (.builtin "len")),.loc 1,.attr 9,.call 1,.bin .Add,.lit (.int (1)),.bin .Sub,.tup 2,.unp 2,.sto 5,.sto 6,.loc 1,.attr 2,.lit (.str (S "single")),.cmp .NotEq,.chk,.ite [.loc 0,.attr 5,.mth 41,.bad,.call 2,.pop,.loc 0,.attr 14,.mth 41,.loc 5,.lit (.int (0)),.lit (.none),.lit (.none),.lit (.none),.tup 5,.call 2,.pop,.loc 1,.attr 8,.loc 3,.cmp .Eq,.chk,.ite [.loc 5,.loc 0,.sattr 8] [],.loc 1,.attr 8,.loc 4,.lit (.int (0)),.idx,.cmp .Eq,.chk,.ite [.loc 5,.lit (.raw (.builtin "min")),.loc 4,.lit (.int (1)),.idx,.loc 0,.attr 4,.lit (.int (1)),.bin .Sub,.call 2,.tup 2,.unp 2,.loc 0,.sattr 11,.loc 0,.sattr 12,.loc 4,.lit (.int (2)),.idx,.chk,.ite [.loc 2,.loc 1,.attr 8,.idx,.attr 4,.loc 0,.attr 4,.cmp .Eq,.chk] [.lit (.bool false)],.loc 0,.sattr 13] [],.lit (.none),.ret] [],.loc 1,.attr 8,.loc 4,.lit (.int (0)),.idx,.cmpk .LtE,.ite [.loc 6,.cmp .LtE] [.pop,.lit (.bool false)],.sto 7,.loc 7,.chk,.ite [.loc 1,.mth 11,.loc 4,.lit (.int (0)),.idx,.loc 1,.attr 8,.bin .Sub,.loc 4,.lit (.int (1)),.idx,.call 3] [.lit (.int (0)),.lit (.bool false),.tup 2],.unp 2,.sto 8,.sto 9,.lit (.raw (.ref 578)),.loc 1,.attr 0,.loc 0,.attr 4,.call 2,.unp 2,.sto 10,.sto 11,.loc 7,.chk,.ite [.loc 4,.lit (.int (2)),.idx,.chk,.notb,.ite [.lit (.int (0)),.lit (.raw (.builtin "len")),.loc 1,.attr 0,.call 1,.cmpk .Lt,.ite [.loc 8,.cmp .Eq] [.pop,.lit (.bool false)],.chk,.ite [.lit (.raw (.builtin "len")),.loc 10,.lit (.int (1)),.neg,.idx,.call 1,.loc 0,.attr 4,.cmp .Eq,.chk] [.lit (.bool false)]] [.lit (.bool false)]] [.lit (.bool false)],.sto 12,.loc 7,.chk,.ite [.loc 12,.chk,.notb] [.lit (.bool false)],.ite [.loc 1,.mth 9,.loc 8,.lit (.int (1)),.bin .Add,.call 2,.pop,.lit (.raw (.ref 578)),.loc 1,.attr 0,.loc 0,.attr 4,.call 2,.unp 2,.sto 10,.sto 11] [],.loc 1,.attr 9,.fr .enum 1 [.unp 2,.sto 13,.sto 14] [.loc 0,.attr 14,.mth 41,.loc 5,.loc 14,.loc 1,.mth 10,.loc 13,.call 2,.loc 10,.loc 11,.tup 5,.call 2,.pop],.loc 10,.fr .enum 1 [.unp 2,.sto 15,.sto 16] [.loc 15,.lit (.int (1)),.bin .Add,.lit (.raw (.builtin "len")),.loc 10,.call 1,.cmp .Lt,.chk,.ite [.lit (.bool true)] [.loc 1,.attr 10,.chk,.notb],.sto 17,.loc 0,.attr 5,.mth 41,.lit (.raw (.ref 592)),.loc 16,.loc 0,.attr 4,.loc 17,.call 3,.call 2,.pop],.loc 1,.attr 8,.loc 3,.cmpk .LtE,.ite [.loc 6,.cmp .LtE] [.pop,.lit (.bool false)],.chk,.ite [.lit (.raw (.ref 585)),.loc 10,.loc 11,.loc 1,.attr 9,.loc 3,.loc 1,.attr 8,.bin .Sub,.idx,.call 3,.sto 18,.loc 5,.loc 18,.lit (.int (0)),.idx,.bin .Add,.loc 0,.sattr 8] [],.loc 7,.chk,.ite [.lit (.raw (.ref 585)),.loc 10,.loc 11,.loc 8,.call 3,.sto 18,.loc 5,.loc 18,.lit (.int (0)),.idx,.bin .Add,.lit (.raw (.builtin "min")),.loc 18,.lit (.int (1)),.idx,.loc 0,.attr 4,.lit (.int (1)),.bin .Sub,.call 2,.tup 2,.unp 2,.loc 0,.sattr 11,.loc 0,.sattr 12,.loc 12,.chk,.ite [.lit (.bool true),.loc 0,.sattr 13] [.loc 9,.chk,.ite [.lit (.raw (.builtin "min")),.loc 0,.attr 12,.lit (.int (1)),.bin .Add,.loc 0,.attr 4,.lit (.int (1)),.bin .Sub,.call 2,.loc 0,.sattr 12] [.loc 4,.lit (.int (2)),.idx,.chk,.ite [.loc 0,.mth 12,.call 1,.pop] []]]] []]
theorem in_613 (a0 a1 a2 a3 a4 : V) (h : Run W d cd_613 [] [some a0,some a1,some a2,some a3,some a4,none,none,none,none,none,none,none,none,none,none,none,none,none,none] H (behind R)) : CallW W (d + 1) (.ref 613) [a0,a1,a2,a3,a4] H R := call_def (df_613 _) (by kernel_rfl) (by rw [show codeAt 38 1 = cd_613 by kernel_rfl,show ro0 38 1 (psOf (dg 38 1)) [a0,a1,a2,a3,a4] = [some a0,some a1,some a2,some a3,some a4,none,none,none,none,none,none,none,none,none,none,none,none,none,none] by kernel_rfl]; exact h)
def cd_620 : List I := [.loc 0,.attr 12,.lit (.int (1)),.bin .Add,.loc 0,.attr 4,.cmp .Lt,.chk,.ite [.loc 0,.attr 12,.lit (.int (1)),.bin .Add,.loc 0,.sattr 12] [.lit (.bool true),.loc 0,.sattr 13]]
theorem in_620 (a0 : V) (h : Run W d cd_620 [] [some a0] H (behind R)) : CallW W (d + 1) (.ref 620) [a0] H R := call_def (df_620 _) (by kernel_rfl) (by rw [show codeAt 38 2 = cd_620 by kernel_rfl,show ro0 38 2 (psOf (dg 38 2)) [a0] = [some a0] by kernel_rfl]; exact h)
def cd_634 : List I := [.whl [.lit (.raw (.builtin "len")),.loc 0,.attr 5,.call 1,.loc 0,.attr 8,.bin .Sub,.loc 1,.cmp .Gt,.chk,.ite [.lit (.raw (.builtin "len")),.loc 0,.attr 5,.call 1,.lit (.int (1)),.bin .Sub,.loc 0,.attr 11,.cmp .Gt,.chk] [.lit (.bool false)]] [.loc 0,.attr 5,.lit (.int (1)),.neg,.idx,.sto 2,.loc 2,.attr 1,.chk,.ite [.lit (.bool true)] [.loc 2,.attr 2,.lit (.str (S "single")),.cmp .NotEq,.chk,.ite [.lit (.bool true)] [.lit (.raw (.ref 543)),.loc 2,.attr 0,.call 1,.lst 0,.cmp .NotEq,.chk]],.ite [.lit (.none),.ret] [],.loc 0,.attr 5,.mth 43,.call 1,.pop]]
theorem in_634 (a0 a1 : V) (h : Run W d cd_634 [] [some a0,some a1,none] H (behind R)) : CallW W (d + 1) (.ref 634) [a0,a1] H R := call_def (df_634 _) (by kernel_rfl) (by rw [show codeAt 38 4 = cd_634 by kernel_rfl,show ro0 38 4 (psOf (dg 38 4)) [a0,a1] = [some a0,some a1,none] by kernel_rfl]; exact h)
def cd_641 : List I := [.lit (.raw (.builtin "len")),.loc 0,.attr 5,.call 1,.loc 0,.attr 8,.bin .Sub,.loc 1,.cmp .Gt,.chk,.ite [.lit (.raw (.builtin "min")),.lit (.raw (.builtin "len")),.loc 0,.attr 5,.call 1,.loc 1,.bin .Sub,.loc 0,.attr 11,.call 2,.ret] [],.lit (.raw (.builtin "max")),.lit (.int (0)),.lit (.raw (.builtin "min")),.loc 0,.attr 8,.lit (.raw (.builtin "len")),.loc 0,.attr 5,.call 1,.loc 1,.bin .Sub,.call 2,.call 2,.ret]
theorem in_641 (a0 a1 : V) (h : Run W d cd_641 [] [some a0,some a1] H (behind R)) : CallW W (d + 1) (.ref 641) [a0,a1] H R := call_def (df_641 _) (by kernel_rfl) (by rw [show codeAt 38 5 = cd_641 by kernel_rfl,show ro0 38 5 (psOf (dg 38 5)) [a0,a1] = [some a0,some a1] by kernel_rfl]; exact h)
def cd_655 : List I := [.loc 0,.attr 33,.lit (.none),.cmp .IsNot,.chk,.ite [.loc 0,.attr 33,.attr 5] [.lst 0],.sto 3,.lit (.raw (.builtin "len")),.loc 3,.call 1,.loc 0,.attr 35,.attr 11,.bin .Add,.loc 0,.attr 35,.attr 12,.loc 0,.attr 35,.attr 13,.tup 3,.sto 4,.lit (.raw (.ref 644)),.loc 3,.loc 0,.attr 34,.attr 5,.bin .Add,.loc 2,.lit (.raw (.builtin "len")),.loc 3,.call 1,.loc 4,.call 4,.sto 5,.loc 5,.mth 13,.loc 1,.call 2,.pop,.loc 5,.ret]
theorem in_655 (a0 a1 a2 : V) (h : Run W d cd_655 [] [some a0,some a1,some a2,none,none,none] H (behind R)) : CallW W (d + 1) (.ref 655) [a0,a1,a2] H R := call_def (df_655 _) (by kernel_rfl) (by rw [show codeAt 39 1000 = cd_655 by kernel_rfl,show ro0 39 1000 (psOf (dg 39 1000)) [a0,a1,a2] = [some a0,some a1,some a2,none,none,none] by kernel_rfl]; exact h)
def cd_662 : List I := [.lit (.raw (.ref 655)),.loc 0,.loc 1,.loc 2,.call 3,.sto 3,.loc 3,.mth 14,.loc 1,.call 2,.sto 4,.lit (.none),.sto 5,.loc 0,.attr 33,.lit (.none),.cmp .IsNot,.chk,.ite [.lit (.raw (.ref 478)),.loc 0,.attr 33,.attr 6,.call 1,.sto 5,.loc 0,.attr 33,.attr 7,.loc 5,.sattr 7,.loc 3,.attr 5,.lit (.none),.loc 4,.slc,.fr .plain 1 [.sto 6] [.loc 5,.mth 8,.loc 6,.call 2,.pop]] [],.lit (.raw (.ref 396)),.loc 1,.loc 2,.call 2,.sto 7,.loc 3,.attr 5,.loc 4,.loc 4,.loc 1,.bin .Add,.slc,.fr .enum 1 [.unp 2,.sto 8,.sto 6] [.loc 6,.loc 7,.attr 5,.loc 8,.sidx],.loc 4,.loc 1,.bin .Add,.lit (.raw (.builtin "len")),.loc 3,.attr 5,.call 1,.cmp .Lt,.chk,.ite [.lit (.bool false),.loc 7,.attr 5,.loc 1,.lit (.int (1)),.bin .Sub,.idx,.sattr 1] [],.loc 7,.loc 5,.loc 3,.attr 11,.loc 4,.bin .Sub,.loc 3,.attr 12,.loc 3,.attr 13,.tup 3,.tup 3,.ret]
theorem in_662 (a0 a1 a2 : V) (h : Run W d cd_662 [] [some a0,some a1,some a2,none,none,none,none,none,none] H (behind R)) : CallW W (d + 1) (.ref 662) [a0,a1,a2] H R := call_def (df_662 _) (by kernel_rfl) (by rw [show codeAt 40 1000 = cd_662 by kernel_rfl,show ro0 40 1000 (psOf (dg 40 1000)) [a0,a1,a2] = [some a0,some a1,some a2,none,none,none,none,none,none] by kernel_rfl]; exact h)
def cd_678 : List I := [.lit (.int (0)),.lit (.raw (.builtin "len")),.loc 0,.call 1,.tup 2,.unp 2,.sto 2,.sto 3,.whl [.loc 2,.loc 3,.cmp .Lt,.chk] [.loc 2,.loc 3,.bin .Add,.lit (.int (2)),.bin .FloorDiv,.sto 4,.loc 0,.loc 4,.idx,.lit (.int (1)),.idx,.loc 1,.cmp .Lt,.chk,.ite [.loc 4,.lit (.int (1)),.bin .Add,.sto 2] [.loc 4,.sto 3]],.loc 2,.lit (.raw (.builtin "len")),.loc 0,.call 1,.cmp .Lt,.chk,.ite [.loc 0,.loc 2,.idx,.lit (.int (0)),.idx,.loc 1,.cmp .LtE,.chk] [.lit (.bool false)],.ret]
theorem in_678 (a0 a1 : V) (h : Run W d cd_678 [] [some a0,some a1,none,none,none] H (behind R)) : CallW W (d + 1) (.ref 678) [a0,a1] H R := call_def (df_678 _) (by kernel_rfl) (by rw [show codeAt 48 1000 = cd_678 by kernel_rfl,show ro0 48 1000 (psOf (dg 48 1000)) [a0,a1] = [some a0,some a1,none,none,none] by kernel_rfl]; exact h)
def cd_685 : List I := [.lit (.int (1)),.neg,.sto 1,.loc 0,.fr .enum 1 [.unp 2,.sto 2,.unp 2,.sto 3,.sto 4] [.loc 1,.loc 3,.cmpk .Lt,.ite [.loc 4,.cmp .LtE] [.pop,.lit (.bool false)],.chk,.notb,.ite [.bad] [],.loc 4,.sto 1]]
theorem in_685 (a0 : V) (h : Run W d cd_685 [] [some a0,none,none,none,none] H (behind R)) : CallW W (d + 1) (.ref 685) [a0] H R := call_def (df_685 _) (by kernel_rfl) (by rw [show codeAt 49 1000 = cd_685 by kernel_rfl,show ro0 49 1000 (psOf (dg 49 1000)) [a0] = [some a0,none,none,none,none] by kernel_rfl]; exact h)
def cd_699 : List I := [.lit (.raw (.type "list")),.loc 1,.call 1,.loc 0,.sattr 15,.lit (.raw (.type "list")),.loc 2,.call 1,.loc 0,.sattr 16,.lit (.raw (.type "list")),.loc 3,.call 1,.loc 0,.sattr 17,.loc 0,.attr 15,.loc 0,.attr 16,.loc 0,.attr 17,.tup 3,.fr .plain 1 [.sto 4] [.lit (.raw (.ref 685)),.loc 4,.call 1,.pop]]
theorem in_699 (a0 a1 a2 a3 : V) (h : Run W d cd_699 [] [some a0,some a1,some a2,some a3,none] H (behind R)) : CallW W (d + 1) (.ref 699) [a0,a1,a2,a3] H R := call_def (df_699 _) (by kernel_rfl) (by rw [show codeAt 50 0 = cd_699 by kernel_rfl,show ro0 50 0 (psOf (dg 50 0)) [a0,a1,a2,a3] = [some a0,some a1,some a2,some a3,none] by kernel_rfl]; exact h)
def cd_706 : List I := [.lit (.raw (.ref 678)),.loc 0,.attr 16,.loc 1,.call 2,.chk,.ite [.lit (.int (0)),.ret] [],.lit (.raw (.ref 678)),.loc 0,.attr 15,.loc 1,.call 2,.chk,.ite [.lit (.int (2))] [.lit (.int (1))],.ret]
theorem in_706 (a0 a1 : V) (h : Run W d cd_706 [] [some a0,some a1] H (behind R)) : CallW W (d + 1) (.ref 706) [a0,a1] H R := call_def (df_706 _) (by kernel_rfl) (by rw [show codeAt 50 1 = cd_706 by kernel_rfl,show ro0 50 1 (psOf (dg 50 1)) [a0,a1] = [some a0,some a1] by kernel_rfl]; exact h)
def cd_775 : List I := [.dct 0,.loc 0,.sattr 18,.dct 0,.loc 0,.sattr 19,.lit (.tup [.str (S "send_receive"),.str (S "autowrap"),.str (S "autorepeat"),.str (S "show_cursor"),.str (S "num_lock")]),.fr .plain 1 [.sto 1] [.lit (.bool true),.loc 0,.attr 18,.loc 1,.sidx]]
theorem in_775 (a0 : V) (h : Run W d cd_775 [] [some a0,none] H (behind R)) : CallW W (d + 1) (.ref 775) [a0] H R := call_def (df_775 _) (by kernel_rfl) (by rw [show codeAt 61 0 = cd_775 by kernel_rfl,show ro0 61 0 (psOf (dg 61 0)) [a0] = [some a0,none] by kernel_rfl]; exact h)
def cd_782 : List I := [.loc 0,.attr 18,.mth 44,.loc 1,.lit (.bool false),.call 3,.ret]
theorem in_782 (a0 a1 : V) (h : Run W d cd_782 [] [some a0,some a1] H (behind R)) : CallW W (d + 1) (.ref 782) [a0,a1] H R := call_def (df_782 _) (by kernel_rfl) (by rw [show codeAt 61 1 = cd_782 by kernel_rfl,show ro0 61 1 (psOf (dg 61 1)) [a0,a1] = [some a0,some a1] by kernel_rfl]; exact h)
def cd_831 : List I := [.loc 0,.lit (.bytes #[66]),.cmp .Eq,.chk,.ite [.dct 0,.ret] [],.loc 0,.lit (.bytes #[65]),.cmp .Eq,.chk,.ite [.bad,.lit (.bytes #[35]),.lit (.int (163)),.lst 1,.call 2,.ret] [],.loc 0,.lit (.bytes #[48]),.cmp .Eq,.chk,.ite [.bad,.call 0,.ret] [],.loc 0,.lit (.bytes #[37,53]),.cmp .Eq,.chk,.ite [.lit (.bool true)] [.loc 0,.lit (.bytes #[60]),.cmp .Eq,.chk],.ite [.bad,.lit (.bool true),.call 1,.ret] [],.loc 0,.bad,.cmp .Eq,.chk,.ite [.bad,.lit (.bool false),.call 1] [.bad,.loc 0,.call 1],.ret]
theorem in_831 (a0 : V) (h : Run W d cd_831 [] [some a0] H (behind R)) : CallW W (d + 1) (.ref 831) [a0] H R := call_def (df_831 _) (by kernel_rfl) (by rw [show codeAt 75 1000 = cd_831 by kernel_rfl,show ro0 75 1000 (psOf (dg 75 1000)) [a0] = [some a0] by kernel_rfl]; exact h)
def cd_846 : List I := [.loc 1,.lit (.none),.cmp .Is,.chk,.ite [.dct 0] [.loc 1],.loc 0,.sattr 20,.loc 0,.mth 18,.call 1,.pop]
theorem in_846 (a0 : V) (h : Run W d cd_846 [] [some a0,some V.none] H (behind R)) : CallW W (d + 1) (.ref 846) [a0] H R := call_defC (df_846' _) rfl (by kernel_rfl) (by rw [show codeAt 76 0 = cd_846 by kernel_rfl,show ro0 76 0 (psOf (dg 76 0)) ([a0] ++ [V.none]) = [some a0,some V.none] by kernel_rfl]; exact h)
def cd_853 : List I := [.loc 1,.loc 0,.attr 20,.cmp .NotIn,.chk,.ite [.lit (.raw (.ref 831)),.loc 1,.call 1,.loc 0,.attr 20,.loc 1,.sidx] [],.loc 0,.attr 20,.loc 1,.idx,.ret]
theorem in_853 (a0 a1 : V) (h : Run W d cd_853 [] [some a0,some a1] H (behind R)) : CallW W (d + 1) (.ref 853) [a0,a1] H R := call_def (df_853 _) (by kernel_rfl) (by rw [show codeAt 76 1 = cd_853 by kernel_rfl,show ro0 76 1 (psOf (dg 76 1)) [a0,a1] = [some a0,some a1] by kernel_rfl]; exact h)
def cd_860 : List I := [.lit (.bytes #[66]),.lit (.bytes #[66]),.lit (.bytes #[37,53]),.lit (.bytes #[37,53]),.lst 4,.loc 0,.sattr 21,.lit (.int (0)),.loc 0,.sattr 22,.lit (.int (2)),.loc 0,.sattr 23,.lit (.none),.loc 0,.sattr 24]
theorem in_860 (a0 : V) (h : Run W d cd_860 [] [some a0] H (behind R)) : CallW W (d + 1) (.ref 860) [a0] H R := call_def (df_860 _) (by kernel_rfl) (by rw [show codeAt 76 2 = cd_860 by kernel_rfl,show ro0 76 2 (psOf (dg 76 2)) [a0] = [some a0] by kernel_rfl]; exact h)
def cd_910 : List I := [.loc 0,.attr 24,.lit (.none),.cmp .Is,.chk,.ite [.loc 0,.attr 22] [.loc 0,.attr 24],.sto 3,.loc 0,.attr 24,.lit (.none),.cmp .IsNot,.sto 4,.lit (.none),.loc 0,.sattr 24,.lit (.int (32)),.loc 1,.cmpk .LtE,.ite [.lit (.int (127)),.cmp .LtE] [.pop,.lit (.bool false)],.chk,.ite [.loc 0,.mth 17,.loc 0,.attr 21,.loc 3,.idx,.call 2,.mth 44,.loc 1,.loc 1,.call 3,.ret] [],.loc 2,.chk,.ite [.lit (.int (160)),.loc 1,.cmpk .LtE,.ite [.lit (.int (255)),.cmp .LtE] [.pop,.lit (.bool false)],.chk] [.lit (.bool false)],.ite [.loc 4,.chk,.ite [.loc 3] [.loc 0,.attr 23],.sto 3,.bad,.loc 0,.mth 17,.loc 0,.attr 21,.loc 3,.idx,.call 2,.loc 1,.call 2,.ret] [],.loc 1,.ret]
theorem in_910 (a0 a1 a2 : V) (h : Run W d cd_910 [] [some a0,some a1,some a2,none,none] H (behind R)) : CallW W (d + 1) (.ref 910) [a0,a1,a2] H R := call_def (df_910 _) (by kernel_rfl) (by rw [show codeAt 76 9 = cd_910 by kernel_rfl,show ro0 76 9 (psOf (dg 76 9)) [a0,a1,a2] = [some a0,some a1,some a2,none,none] by kernel_rfl]; exact h)
def cd_945 : List I := [.lit (.int (0)),.loc 0,.sattr 11,.lit (.int (0)),.loc 0,.sattr 12,.lit (.bool false),.loc 0,.sattr 13,.lit (.tup [.int (0),.int (-1),.int (-1),.int (-1),.int (0)]),.loc 0,.sattr 25,.lit (.bool false),.loc 0,.sattr 26,.lit (.bool false),.loc 0,.sattr 27]
theorem in_945 (a0 : V) (h : Run W d cd_945 [] [some a0] H (behind R)) : CallW W (d + 1) (.ref 945) [a0] H R := call_def (df_945 _) (by kernel_rfl) (by rw [show codeAt 80 0 = cd_945 by kernel_rfl,show ro0 80 0 (psOf (dg 80 0)) [a0] = [some a0] by kernel_rfl]; exact h)
def cd_966 : List I := [.loc 0,.attr 11,.loc 0,.attr 12,.tup 2,.ret]
theorem in_966 (a0 : V) (h : Run W d cd_966 [] [some a0] H (behind R)) : CallW W (d + 1) (.ref 966) [a0] H R := call_def (df_966 _) (by kernel_rfl) (by rw [show codeAt 80 3 = cd_966 by kernel_rfl,show ro0 80 3 (psOf (dg 80 3)) [a0] = [some a0] by kernel_rfl]; exact h)
def cd_973 : List I := [.loc 0,.mth 20,.call 1,.loc 1,.mth 20,.call 1,.cmp .NotEq,.chk,.ite [.lit (.bool true)] [.loc 0,.attr 13,.loc 1,.attr 13,.cmp .NotEq,.chk,.ite [.lit (.bool true)] [.loc 0,.attr 25,.loc 1,.attr 25,.cmp .NotEq,.chk]],.ite [.lit (.bool false),.ret] [],.loc 0,.attr 26,.loc 1,.attr 26,.cmp .Eq,.chk,.ite [.loc 0,.attr 27,.loc 1,.attr 27,.cmp .Eq,.chk] [.lit (.bool false)],.ret]
theorem in_973 (a0 a1 : V) (h : Run W d cd_973 [] [some a0,some a1] H (behind R)) : CallW W (d + 1) (.ref 973) [a0,a1] H R := call_def (df_973 _) (by kernel_rfl) (by rw [show codeAt 80 4 = cd_973 by kernel_rfl,show ro0 80 4 (psOf (dg 80 4)) [a0,a1] = [some a0,some a1] by kernel_rfl]; exact h)
def cd_994 : List I := [.loc 1,.loc 0,.sattr 3,.loc 2,.loc 0,.sattr 4,.lit (.int (0)),.loc 0,.sattr 28,.loc 1,.lit (.int (1)),.bin .Sub,.loc 0,.sattr 29,.lit (.int (0)),.loc 0,.sattr 22,.loc 2,.lit (.int (1)),.bin .Sub,.loc 0,.sattr 23]
theorem in_994 (a0 a1 a2 : V) (h : Run W d cd_994 [] [some a0,some a1,some a2] H (behind R)) : CallW W (d + 1) (.ref 994) [a0,a1,a2] H R := call_def (df_994 _) (by kernel_rfl) (by rw [show codeAt 81 0 = cd_994 by kernel_rfl,show ro0 81 0 (psOf (dg 81 0)) [a0,a1,a2] = [some a0,some a1,some a2] by kernel_rfl]; exact h)
def cd_1036 : List I := [.loc 0,.attr 28,.loc 0,.attr 22,.loc 0,.attr 29,.loc 0,.attr 23,.tup 4,.ret]
theorem in_1036 (a0 : V) (h : Run W d cd_1036 [] [some a0] H (behind R)) : CallW W (d + 1) (.ref 1036) [a0] H R := call_def (df_1036 _) (by kernel_rfl) (by rw [show codeAt 81 6 = cd_1036 by kernel_rfl,show ro0 81 6 (psOf (dg 81 6)) [a0] = [some a0] by kernel_rfl]; exact h)
def cd_1127 : List I := [.loc 1,.loc 0,.sattr 4,.dct 0,.loc 0,.sattr 30,.loc 0,.mth 22,.lit (.int (0)),.call 2,.pop]
theorem in_1127 (a0 a1 : V) (h : Run W d cd_1127 [] [some a0,some a1] H (behind R)) : CallW W (d + 1) (.ref 1127) [a0,a1] H R := call_def (df_1127 _) (by kernel_rfl) (by rw [show codeAt 82 0 = cd_1127 by kernel_rfl,show ro0 82 0 (psOf (dg 82 0)) [a0,a1] = [some a0,some a1] by kernel_rfl]; exact h)
def cd_1134 : List I := [.lit (.int (8)),.loc 0,.attr 4,.lit (.int (8)),.fr .range 3 [.sto 2] [.loc 2,.loc 1,.cmp .GtE,.chk,.ite [.lit (.bool true),.loc 0,.attr 30,.loc 2,.sidx] []]]
theorem in_1134 (a0 a1 : V) (h : Run W d cd_1134 [] [some a0,some a1,none] H (behind R)) : CallW W (d + 1) (.ref 1134) [a0,a1] H R := call_def (df_1134 _) (by kernel_rfl) (by rw [show codeAt 82 1 = cd_1134 by kernel_rfl,show ro0 82 1 (psOf (dg 82 1)) [a0,a1] = [some a0,some a1,none] by kernel_rfl]; exact h)
def cd_1169 : List I := [.lit (.raw (.builtin "sorted")),.loc 0,.attr 30,.call 1,.ret]
theorem in_1169 (a0 : V) (h : Run W d cd_1169 [] [some a0] H (behind R)) : CallW W (d + 1) (.ref 1169) [a0] H R := call_def (df_1169 _) (by kernel_rfl) (by rw [show codeAt 82 6 = cd_1169 by kernel_rfl,show ro0 82 6 (psOf (dg 82 6)) [a0] = [some a0] by kernel_rfl]; exact h)
def cd_1198 : List I := [.loc 0,.attr 4,.sto 2,.loc 1,.loc 0,.sattr 4,.loc 0,.mth 23,.call 1,.fr .plain 1 [.sto 3] [.loc 3,.loc 1,.cmp .GtE,.chk,.ite [.loc 0,.attr 30,.mth 43,.loc 3,.call 2,.pop] []],.loc 1,.loc 2,.cmp .Gt,.chk,.ite [.loc 0,.mth 22,.loc 2,.call 2,.pop] []]
theorem in_1198 (a0 a1 : V) (h : Run W d cd_1198 [] [some a0,some a1,none,none] H (behind R)) : CallW W (d + 1) (.ref 1198) [a0,a1] H R := call_def (df_1198 _) (by kernel_rfl) (by rw [show codeAt 82 10 = cd_1198 by kernel_rfl,show ro0 82 10 (psOf (dg 82 10)) [a0,a1] = [some a0,some a1,none,none] by kernel_rfl]; exact h)
def cd_1228 : List I := [.loc 1,.loc 0,.sattr 3,.loc 2,.loc 0,.sattr 4,.loc 3,.loc 0,.sattr 31,.loc 4,.loc 0,.sattr 32,.loc 5,.loc 0,.sattr 33,.lit (.raw (.ref 396)),.loc 1,.loc 2,.call 2,.loc 0,.sattr 34,.lit (.raw (.ref 976)),.call 0,.loc 0,.sattr 35,.lit (.raw (.ref 1109)),.loc 1,.loc 2,.call 2,.loc 0,.sattr 36,.lit (.raw (.ref 1208)),.loc 2,.call 1,.loc 0,.sattr 37,.lit (.raw (.ref 920)),.call 0,.loc 0,.sattr 38,.lit (.none),.loc 0,.sattr 39,.lst 0,.loc 0,.sattr 40,.lit (.bool false),.loc 0,.sattr 41]
theorem in_1228 (a0 a1 a2 a3 a4 a5 : V) (h : Run W d cd_1228 [] [some a0,some a1,some a2,some a3,some a4,some a5] H (behind R)) : CallW W (d + 1) (.ref 1228) [a0,a1,a2,a3,a4,a5] H R := call_def (df_1228 _) (by kernel_rfl) (by rw [show codeAt 85 0 = cd_1228 by kernel_rfl,show ro0 85 0 (psOf (dg 85 0)) [a0,a1,a2,a3,a4,a5] = [some a0,some a1,some a2,some a3,some a4,some a5] by kernel_rfl]; exact h)
def cd_1235 : List I := [.loc 0,.attr 34,.mth 3,.loc 0,.attr 35,.attr 11,.call 2,.ret]
theorem in_1235 (a0 : V) (h : Run W d cd_1235 [] [some a0] H (behind R)) : CallW W (d + 1) (.ref 1235) [a0] H R := call_def (df_1235 _) (by kernel_rfl) (by rw [show codeAt 85 1 = cd_1235 by kernel_rfl,show ro0 85 1 (psOf (dg 85 1)) [a0] = [some a0] by kernel_rfl]; exact h)
def cd_1242 : List I := [.loc 0,.attr 34,.mth 3,.loc 1,.call 2,.attr 2,.lit (.tup [.str (S "wide"),.str (S "top"),.str (S "bottom")]),.cmp .In,.chk,.ite [.loc 0,.attr 4,.lit (.int (2)),.bin .FloorDiv] [.loc 0,.attr 4],.ret]
theorem in_1242 (a0 a1 : V) (h : Run W d cd_1242 [] [some a0,some a1] H (behind R)) : CallW W (d + 1) (.ref 1242) [a0,a1] H R := call_def (df_1242 _) (by kernel_rfl) (by rw [show codeAt 85 2 = cd_1242 by kernel_rfl,show ro0 85 2 (psOf (dg 85 2)) [a0,a1] = [some a0,some a1] by kernel_rfl]; exact h)
def cd_1249 : List I := [.lit (.raw (.builtin "max")),.lit (.int (0)),.loc 0,.mth 25,.loc 0,.attr 35,.attr 11,.call 2,.lit (.int (1)),.bin .Sub,.call 2,.sto 1,.loc 0,.attr 35,.attr 12,.loc 0,.attr 36,.attr 23,.cmp .LtE,.chk,.ite [.lit (.raw (.builtin "min")),.loc 1,.loc 0,.attr 36,.attr 23,.call 2] [.loc 1],.ret]
theorem in_1249 (a0 : V) (h : Run W d cd_1249 [] [some a0,none] H (behind R)) : CallW W (d + 1) (.ref 1249) [a0] H R := call_def (df_1249 _) (by kernel_rfl) (by rw [show codeAt 85 3 = cd_1249 by kernel_rfl,show ro0 85 3 (psOf (dg 85 3)) [a0] = [some a0,none] by kernel_rfl]; exact h)
def cd_1256 : List I := [.loc 0,.attr 35,.attr 12,.loc 0,.attr 36,.attr 22,.cmp .GtE,.chk,.ite [.loc 0,.attr 36,.attr 22] [.lit (.int (0))],.ret]
theorem in_1256 (a0 : V) (h : Run W d cd_1256 [] [some a0] H (behind R)) : CallW W (d + 1) (.ref 1256) [a0] H R := call_def (df_1256 _) (by kernel_rfl) (by rw [show codeAt 85 4 = cd_1256 by kernel_rfl,show ro0 85 4 (psOf (dg 85 4)) [a0] = [some a0] by kernel_rfl]; exact h)
def cd_1263 : List I := [.loc 0,.attr 36,.attr 22,.loc 0,.attr 35,.attr 12,.cmpk .LtE,.ite [.loc 0,.attr 36,.attr 23,.cmp .LtE] [.pop,.lit (.bool false)],.ret]
theorem in_1263 (a0 : V) (h : Run W d cd_1263 [] [some a0] H (behind R)) : CallW W (d + 1) (.ref 1263) [a0] H R := call_def (df_1263 _) (by kernel_rfl) (by rw [show codeAt 85 5 = cd_1263 by kernel_rfl,show ro0 85 5 (psOf (dg 85 5)) [a0] = [some a0] by kernel_rfl]; exact h)
def cd_1270 : List I := [.loc 0,.attr 36,.mth 21,.call 1,.lit (.int (0)),.lit (.int (0)),.loc 0,.attr 3,.lit (.int (1)),.bin .Sub,.loc 0,.attr 4,.lit (.int (1)),.bin .Sub,.tup 4,.cmp .Eq,.ret]
theorem in_1270 (a0 : V) (h : Run W d cd_1270 [] [some a0] H (behind R)) : CallW W (d + 1) (.ref 1270) [a0] H R := call_def (df_1270 _) (by kernel_rfl) (by rw [show codeAt 85 6 = cd_1270 by kernel_rfl,show ro0 85 6 (psOf (dg 85 6)) [a0] = [some a0] by kernel_rfl]; exact h)
def cd_1277 : List I := [.lit (.raw (.ref 62)),.loc 1,.lit (.int (0)),.loc 0,.attr 3,.lit (.int (1)),.bin .Sub,.call 3,.loc 0,.attr 35,.sattr 11,.lit (.raw (.ref 62)),.loc 2,.lit (.int (0)),.lit (.raw (.builtin "max")),.lit (.int (0)),.loc 0,.mth 25,.loc 0,.attr 35,.attr 11,.call 2,.lit (.int (1)),.bin .Sub,.call 2,.call 3,.loc 0,.attr 35,.sattr 12,.lit (.bool false),.loc 0,.attr 35,.sattr 13]
theorem in_1277 (a0 a1 a2 : V) (h : Run W d cd_1277 [] [some a0,some a1,some a2] H (behind R)) : CallW W (d + 1) (.ref 1277) [a0,a1,a2] H R := call_def (df_1277 _) (by kernel_rfl) (by rw [show codeAt 85 7 = cd_1277 by kernel_rfl,show ro0 85 7 (psOf (dg 85 7)) [a0,a1,a2] = [some a0,some a1,some a2] by kernel_rfl]; exact h)
def cd_1284 : List I := [.loc 0,.attr 38,.mth 19,.loc 1,.loc 0,.attr 41,.call 3,.sto 2,.loc 0,.attr 32,.mth 15,.loc 2,.call 2,.sto 3,.loc 3,.lit (.int (0)),.cmp .Eq,.chk,.ite [.loc 0,.mth 32,.loc 2,.call 2,.pop] [.loc 0,.attr 31,.mth 16,.lit (.str (S "clusters")),.call 2,.chk,.ite [.bad,.chk,.ite [.loc 0,.mth 32,.loc 2,.call 2,.chk] [.lit (.bool false)]] [.lit (.bool false)],.notb,.ite [.loc 0,.mth 34,.loc 2,.tup 1,.loc 3,.call 3,.pop] []]]
theorem in_1284 (a0 a1 : V) (h : Run W d cd_1284 [] [some a0,some a1,none,none] H (behind R)) : CallW W (d + 1) (.ref 1284) [a0,a1] H R := call_def (df_1284 _) (by kernel_rfl) (by rw [show codeAt 85 8 = cd_1284 by kernel_rfl,show ro0 85 8 (psOf (dg 85 8)) [a0,a1] = [some a0,some a1,none,none] by kernel_rfl]; exact h)
def cd_1291 : List I := [.loc 0,.attr 35,.attr 13,.chk,.ite [.loc 0,.attr 35,.attr 12] [.loc 0,.attr 35,.attr 12,.lit (.int (1)),.bin .Sub],.sto 1,.loc 1,.lit (.int (0)),.cmp .Lt,.chk,.ite [.lit (.none),.ret] [],.loc 0,.mth 3,.call 1,.attr 0,.loc 1,.idx,.sto 2,.loc 2,.lit (.int (1)),.idx,.lit (.int (0)),.cmp .Eq,.chk,.ite [.loc 1,.lit (.int (1)),.bin .Sub,.sto 1,.loc 1,.lit (.int (0)),.cmp .GtE,.chk,.ite [.loc 0,.mth 3,.call 1,.attr 0,.loc 1,.idx] [.loc 2],.sto 2] [],.loc 1,.lit (.int (0)),.cmp .GtE,.chk,.ite [.loc 2,.lit (.int (0)),.idx,.tup 0,.cmp .NotEq,.chk] [.lit (.bool false)],.ite [.loc 1] [.lit (.none)],.ret]
theorem in_1291 (a0 : V) (h : Run W d cd_1291 [] [some a0,none,none] H (behind R)) : CallW W (d + 1) (.ref 1291) [a0] H R := call_def (df_1291 _) (by kernel_rfl) (by rw [show codeAt 85 9 = cd_1291 by kernel_rfl,show ro0 85 9 (psOf (dg 85 9)) [a0] = [some a0,none,none] by kernel_rfl]; exact h)
def cd_1305 : List I := [.loc 0,.mth 31,.call 1,.sto 2,.loc 2,.lit (.none),.cmp .Is,.chk,.ite [.lit (.bool false),.ret] [],.loc 0,.mth 3,.call 1,.attr 0,.loc 2,.idx,.unp 4,.sto 3,.sto 4,.sto 5,.sto 6,.loc 3,.loc 1,.tup 1,.bin .Add,.sto 3,.loc 0,.attr 31,.mth 16,.lit (.str (S "clusters")),.call 2,.chk,.ite [.bad,.loc 3,.loc 0,.attr 32,.call 2] [.loc 4],.sto 7,.loc 7,.lit (.int (2)),.cmp .Eq,.chk,.ite [.loc 4,.lit (.int (1)),.cmp .Eq,.chk,.ite [.loc 2,.loc 0,.mth 26,.call 1,.cmp .Lt,.chk,.ite [.loc 0,.attr 35,.attr 13,.chk,.notb] [.lit (.bool false)]] [.lit (.bool false)]] [.lit (.bool false)],.ite [.loc 0,.mth 3,.call 1,.mth 1,.loc 2,.loc 3,.lit (.int (2)),.loc 5,.loc 6,.tup 4,.call 3,.pop,.loc 0,.mth 35,.loc 2,.lit (.int (2)),.call 3,.pop] [.loc 0,.mth 3,.call 1,.mth 1,.loc 2,.loc 3,.loc 4,.loc 5,.loc 6,.tup 4,.call 3,.pop],.lit (.raw (.type "list")),.loc 3,.call 1,.loc 0,.sattr 40,.lit (.bool true),.ret]
theorem in_1305 (a0 a1 : V) (h : Run W d cd_1305 [] [some a0,some a1,none,none,none,none,none,none] H (behind R)) : CallW W (d + 1) (.ref 1305) [a0,a1] H R := call_def (df_1305 _) (by kernel_rfl) (by rw [show codeAt 85 11 = cd_1305 by kernel_rfl,show ro0 85 11 (psOf (dg 85 11)) [a0,a1] = [some a0,some a1,none,none,none,none,none,none] by kernel_rfl]; exact h)
def cd_1312 : List I := [.loc 0,.attr 35,.attr 12,.loc 0,.attr 36,.attr 23,.cmp .LtE,.chk,.ite [.loc 0,.attr 36,.attr 23] [.loc 0,.attr 4,.lit (.int (1)),.bin .Sub],.sto 1,.loc 1,.loc 0,.mth 27,.call 1,.bin .Sub,.lit (.int (1)),.cmp .Lt,.ret]
theorem in_1312 (a0 : V) (h : Run W d cd_1312 [] [some a0,none] H (behind R)) : CallW W (d + 1) (.ref 1312) [a0] H R := call_def (df_1312 _) (by kernel_rfl) (by rw [show codeAt 85 12 = cd_1312 by kernel_rfl,show ro0 85 12 (psOf (dg 85 12)) [a0] = [some a0,none] by kernel_rfl]; exact h)
def cd_1319 : List I := [.loc 2,.lit (.int (2)),.cmp .Eq,.chk,.ite [.loc 0,.mth 33,.call 1,.chk] [.lit (.bool false)],.ite [.lit (.none),.ret] [],.loc 0,.attr 35,.attr 13,.chk,.ite [.loc 0,.attr 31,.mth 16,.lit (.str (S "autowrap")),.call 2,.chk] [.lit (.bool false)],.ite [.loc 0,.mth 36,.call 1,.pop] [],.loc 0,.mth 26,.call 1,.sto 3,.loc 2,.lit (.int (2)),.cmp .Eq,.chk,.ite [.loc 0,.attr 35,.attr 12,.loc 3,.cmp .GtE,.chk] [.lit (.bool false)],.ite [.loc 3,.loc 0,.mth 27,.call 1,.bin .Sub,.lit (.int (1)),.cmp .Lt,.chk,.ite [.lit (.none),.ret] [],.loc 0,.attr 35,.attr 12,.sto 4,.loc 0,.attr 31,.mth 16,.lit (.str (S "autowrap")),.call 2,.chk,.ite [.loc 0,.mth 36,.call 1,.pop] [.loc 3,.lit (.int (1)),.bin .Sub,.loc 0,.attr 35,.sattr 12],.loc 0,.mth 26,.call 1,.sto 3,.loc 0,.attr 35,.attr 12,.loc 3,.cmp .GtE,.chk,.ite [.loc 0,.attr 31,.mth 16,.lit (.str (S "autowrap")),.call 2,.chk,.notb,.ite [.loc 4,.loc 0,.attr 35,.sattr 12] [],.lit (.none),.ret] []] [],.loc 0,.attr 35,.attr 12,.sto 4,.loc 0,.attr 31,.mth 16,.lit (.str (S "insert")),.call 2,.chk,.ite [.bad,.pop,.loc 3,.loc 0,.mth 25,.loc 0,.attr 35,.attr 11,.call 2,.lit (.int (1)),.bin .Sub,.cmp .Eq,.chk,.ite [.lit (.bool false),.loc 0,.mth 3,.call 1,.sattr 1] []] [],.loc 0,.mth 3,.call 1,.mth 1,.loc 4,.loc 1,.loc 2,.loc 0,.attr 35,.attr 25,.loc 0,.attr 35,.attr 27,.tup 4,.call 3,.pop,.loc 0,.mth 35,.loc 4,.loc 2,.call 3,.pop,.lit (.raw (.type "list")),.loc 1,.call 1,.loc 0,.sattr 40]
theorem in_1319 (a0 a1 a2 : V) (h : Run W d cd_1319 [] [some a0,some a1,some a2,none,none] H (behind R)) : CallW W (d + 1) (.ref 1319) [a0,a1,a2] H R := call_def (df_1319 _) (by kernel_rfl) (by rw [show codeAt 85 13 = cd_1319 by kernel_rfl,show ro0 85 13 (psOf (dg 85 13)) [a0,a1,a2] = [some a0,some a1,some a2,none,none] by kernel_rfl]; exact h)
def cd_1326 : List I := [.loc 0,.mth 26,.call 1,.sto 3,.loc 1,.loc 2,.bin .Add,.loc 3,.cmp .Gt,.chk,.ite [.loc 3,.loc 0,.attr 35,.sattr 12,.lit (.bool true),.loc 0,.attr 35,.sattr 13] [.loc 1,.loc 2,.bin .Add,.loc 0,.attr 35,.sattr 12,.lit (.bool false),.loc 0,.attr 35,.sattr 13]]
theorem in_1326 (a0 a1 a2 : V) (h : Run W d cd_1326 [] [some a0,some a1,some a2,none] H (behind R)) : CallW W (d + 1) (.ref 1326) [a0,a1,a2] H R := call_def (df_1326 _) (by kernel_rfl) (by rw [show codeAt 85 14 = cd_1326 by kernel_rfl,show ro0 85 14 (psOf (dg 85 14)) [a0,a1,a2] = [some a0,some a1,some a2,none] by kernel_rfl]; exact h)
def cd_1333 : List I := [.loc 0,.mth 3,.call 1,.sto 1,.loc 0,.attr 35,.attr 11,.sto 2,.loc 0,.mth 27,.call 1,.sto 3,.loc 0,.mth 37,.call 1,.pop,.loc 3,.loc 0,.attr 35,.sattr 12,.loc 0,.mth 38,.call 1,.pop,.loc 0,.attr 36,.attr 22,.lit (.int (0)),.cmp .Eq,.chk,.ite [.loc 0,.attr 36,.attr 23,.loc 0,.attr 4,.lit (.int (1)),.bin .Sub,.cmp .Eq,.chk] [.lit (.bool false)],.sto 4,.loc 4,.chk,.ite [.loc 0,.attr 35,.attr 11,.loc 2,.cmp .NotEq,.chk,.ite [.lit (.bool true)] [.loc 2,.loc 0,.attr 36,.attr 29,.cmp .Eq,.chk]] [.lit (.bool false)],.ite [.lit (.bool true),.loc 1,.sattr 1] []]
theorem in_1333 (a0 : V) (h : Run W d cd_1333 [] [some a0,none,none,none,none] H (behind R)) : CallW W (d + 1) (.ref 1333) [a0] H R := call_def (df_1333 _) (by kernel_rfl) (by rw [show codeAt 85 15 = cd_1333 by kernel_rfl,show ro0 85 15 (psOf (dg 85 15)) [a0] = [some a0,none,none,none,none] by kernel_rfl]; exact h)
def cd_1347 : List I := [.loc 0,.attr 34,.mth 7,.loc 0,.attr 36,.mth 21,.call 1,.loc 1,.loc 0,.attr 35,.attr 25,.call 4,.sto 2,.loc 0,.attr 33,.lit (.none),.cmp .IsNot,.chk,.ite [.loc 0,.mth 29,.call 1,.chk] [.lit (.bool false)],.ite [.loc 2,.fr .plain 1 [.sto 3] [.loc 0,.attr 33,.mth 8,.loc 3,.call 2,.pop]] []]
theorem in_1347 (a0 a1 : V) (h : Run W d cd_1347 [] [some a0,some a1,none,none] H (behind R)) : CallW W (d + 1) (.ref 1347) [a0,a1] H R := call_def (df_1347 _) (by kernel_rfl) (by rw [show codeAt 85 17 = cd_1347 by kernel_rfl,show ro0 85 17 (psOf (dg 85 17)) [a0,a1] = [some a0,some a1,none,none] by kernel_rfl]; exact h)
def cd_1361 : List I := [.lit (.bool false),.loc 0,.attr 35,.sattr 13,.loc 0,.attr 35,.attr 11,.loc 0,.attr 36,.attr 29,.cmp .Eq,.chk,.ite [.loc 0,.mth 28,.call 1,.chk,.ite [.loc 0,.mth 7,.lit (.int (1)),.call 2,.pop] []] [.loc 0,.attr 35,.attr 11,.loc 0,.attr 3,.lit (.int (1)),.bin .Sub,.cmp .Lt,.chk,.ite [.loc 0,.attr 35,.attr 11,.lit (.int (1)),.bin .Add,.loc 0,.attr 35,.sattr 11] []],.loc 0,.mth 38,.call 1,.pop]
theorem in_1361 (a0 : V) (h : Run W d cd_1361 [] [some a0] H (behind R)) : CallW W (d + 1) (.ref 1361) [a0] H R := call_def (df_1361 _) (by kernel_rfl) (by rw [show codeAt 85 19 = cd_1361 by kernel_rfl,show ro0 85 19 (psOf (dg 85 19)) [a0] = [some a0] by kernel_rfl]; exact h)
def cd_1375 : List I := [.lit (.raw (.builtin "min")),.loc 0,.attr 35,.attr 12,.lit (.raw (.builtin "max")),.lit (.int (0)),.loc 0,.mth 25,.loc 0,.attr 35,.attr 11,.call 2,.lit (.int (1)),.bin .Sub,.call 2,.call 2,.loc 0,.attr 35,.sattr 12]
theorem in_1375 (a0 : V) (h : Run W d cd_1375 [] [some a0] H (behind R)) : CallW W (d + 1) (.ref 1375) [a0] H R := call_def (df_1375 _) (by kernel_rfl) (by rw [show codeAt 85 21 = cd_1375 by kernel_rfl,show ro0 85 21 (psOf (dg 85 21)) [a0] = [some a0] by kernel_rfl]; exact h)
def cd_1382 : List I := [.loc 0,.attr 35,.attr 26,.chk,.ite [.loc 0,.attr 36,.attr 22] [.loc 0,.mth 27,.call 1],.loc 0,.attr 35,.sattr 12,.lit (.bool false),.loc 0,.attr 35,.sattr 13,.loc 0,.mth 38,.call 1,.pop]
theorem in_1382 (a0 : V) (h : Run W d cd_1382 [] [some a0] H (behind R)) : CallW W (d + 1) (.ref 1382) [a0] H R := call_def (df_1382 _) (by kernel_rfl) (by rw [show codeAt 85 22 = cd_1382 by kernel_rfl,show ro0 85 22 (psOf (dg 85 22)) [a0] = [some a0] by kernel_rfl]; exact h)
def cd_1389 : List I := [.loc 0,.mth 37,.call 1,.pop,.loc 0,.mth 39,.call 1,.pop]
theorem in_1389 (a0 : V) (h : Run W d cd_1389 [] [some a0] H (behind R)) : CallW W (d + 1) (.ref 1389) [a0] H R := call_def (df_1389 _) (by kernel_rfl) (by rw [show codeAt 85 23 = cd_1389 by kernel_rfl,show ro0 85 23 (psOf (dg 85 23)) [a0] = [some a0] by kernel_rfl]; exact h)
def cd_1496 : List I := [.loc 1,.loc 0,.sattr 3,.loc 2,.loc 0,.sattr 4,.loc 3,.loc 0,.sattr 34,.lit (.raw (.ref 1109)),.loc 1,.loc 2,.call 2,.loc 0,.sattr 36,.loc 0,.attr 37,.mth 24,.loc 2,.call 2,.pop,.loc 4,.unp 3,.sto 5,.sto 6,.sto 7,.loc 0,.mth 20,.loc 5,.loc 6,.call 3,.pop,.loc 7,.chk,.ite [.loc 0,.attr 35,.attr 12,.loc 6,.cmp .Eq,.chk,.ite [.loc 6,.loc 0,.mth 26,.call 1,.cmp .Eq,.chk] [.lit (.bool false)]] [.lit (.bool false)],.loc 0,.attr 35,.sattr 13]
theorem in_1496 (a0 a1 a2 a3 a4 : V) (h : Run W d cd_1496 [] [some a0,some a1,some a2,some a3,some a4,none,none,none] H (behind R)) : CallW W (d + 1) (.ref 1496) [a0,a1,a2,a3,a4] H R := call_def (df_1496 _) (by kernel_rfl) (by rw [show codeAt 87 1000 = cd_1496 by kernel_rfl,show ro0 87 1000 (psOf (dg 87 1000)) [a0,a1,a2,a3,a4] = [some a0,some a1,some a2,some a3,some a4,none,none,none] by kernel_rfl]; exact h)
def cd_1510 : List I := [.loc 0,.lit (.str (S "place")),.idx,.sto 2,.loc 2,.lit (.int (1)),.bin .Add,.loc 0,.lit (.str (S "place")),.sidx,.loc 2,.lit (.raw (.builtin "len")),.loc 0,.lit (.str (S "cells")),.idx,.call 1,.cmp .Lt,.chk,.ite [.loc 0,.lit (.str (S "cells")),.idx,.loc 2,.idx] [.loc 2,.lit (.int (5)),.bin .Mult,.loc 2,.lit (.int (3)),.bin .FloorDiv,.bin .Add],.loc 1,.bin .Mod,.ret]
theorem in_1510 (a0 a1 : V) (h : Run W d cd_1510 [] [some a0,some a1,none] H (behind R)) : CallW W (d + 1) (.ref 1510) [a0,a1] H R := call_def (df_1510 _) (by kernel_rfl) (by rw [show codeAt 91 1000 = cd_1510 by kernel_rfl,show ro0 91 1000 (psOf (dg 91 1000)) [a0,a1] = [some a0,some a1,none] by kernel_rfl]; exact h)
def cd_1517 : List I := [.lit (.raw (.ref 1485)),.loc 0,.loc 1,.lit (.raw (.ref 792)),.call 0,.lit (.raw (.ref 716)),.lit (.int (19968)),.lit (.int (20223)),.tup 2,.lst 1,.lit (.int (768)),.lit (.int (879)),.tup 2,.lst 1,.lst 0,.call 3,.lit (.raw (.ref 478)),.lit (.int (400)),.call 1,.call 5,.ret]
theorem in_1517 (a0 a1 : V) (h : Run W d cd_1517 [] [some a0,some a1] H (behind R)) : CallW W (d + 1) (.ref 1517) [a0,a1] H R := call_def (df_1517 _) (by kernel_rfl) (by rw [show codeAt 92 1000 = cd_1517 by kernel_rfl,show ro0 92 1000 (psOf (dg 92 1000)) [a0,a1] = [some a0,some a1] by kernel_rfl]; exact h)
def cd_1524 : List I := [.loc 2,.loc 0,.attr 35,.sattr 25,.loc 1,.lit (.int (0)),.cmp .Eq,.chk,.ite [.loc 0,.mth 40,.call 1,.pop] [.loc 0,.mth 30,.loc 1,.call 2,.pop]]
theorem in_1524 (a0 a1 a2 : V) (h : Run W d cd_1524 [] [some a0,some a1,some a2] H (behind R)) : CallW W (d + 1) (.ref 1524) [a0,a1,a2] H R := call_def (df_1524 _) (by kernel_rfl) (by rw [show codeAt 93 1000 = cd_1524 by kernel_rfl,show ro0 93 1000 (psOf (dg 93 1000)) [a0,a1,a2] = [some a0,some a1,some a2] by kernel_rfl]; exact h)
def cd_1531 : List I := [.lit (.int (1)),.lit (.raw (.ref 1510)),.loc 0,.lit (.int (7)),.call 2,.bin .Add,.fr .range 1 [.sto 3] [.lit (.raw (.ref 1510)),.loc 0,.lit (.int (24)),.call 2,.sto 4,.loc 4,.lit (.int (8)),.bin .Mod,.lit (.tup [.tup [.int (0),.int (-1),.int (-1),.int (-1),.int (0)],.tup [.int (1),.int (3),.int (-1),.int (-1),.int (0)],.tup [.int (4),.int (-1),.int (-1),.int (5),.int (0)]]),.loc 4,.lit (.int (8)),.bin .FloorDiv,.idx,.tup 2,.unp 2,.sto 5,.sto 6,.loc 5,.lit (.int (4)),.cmp .Lt,.chk,.ite [.lit (.int (97)),.lit (.raw (.builtin "len")),.loc 2,.call 1,.lit (.int (26)),.bin .Mod,.bin .Add,.sto 7] [.loc 5,.lit (.int (6)),.cmp .Lt,.chk,.ite [.lit (.int (19968)),.lit (.raw (.builtin "len")),.loc 2,.call 1,.lit (.int (26)),.bin .Mod,.bin .Add,.sto 7] [.loc 5,.lit (.int (6)),.cmp .Eq,.chk,.ite [.lit (.int (769))] [.lit (.int (0))],.sto 7]],.lit (.raw (.ref 1524)),.loc 1,.loc 7,.loc 6,.call 3,.pop,.loc 2,.mth 41,.loc 7,.loc 6,.tup 2,.call 2,.pop]]
theorem in_1531 (a0 a1 a2 : V) (h : Run W d cd_1531 [] [some a0,some a1,some a2,none,none,none,none,none] H (behind R)) : CallW W (d + 1) (.ref 1531) [a0,a1,a2] H R := call_def (df_1531 _) (by kernel_rfl) (by rw [show codeAt 94 1000 = cd_1531 by kernel_rfl,show ro0 94 1000 (psOf (dg 94 1000)) [a0,a1,a2] = [some a0,some a1,some a2,none,none,none,none,none] by kernel_rfl]; exact h)
def cd_1538 : List I := [.lst 0,.lst 1,.sto 1,.loc 0,.fr .plain 1 [.unp 2,.sto 2,.sto 3] [.loc 2,.lit (.int (0)),.cmp .Eq,.chk,.ite [.loc 1,.mth 41,.lst 0,.call 2,.pop] [.loc 2,.lit (.int (769)),.cmp .NotEq,.chk,.ite [.loc 1,.lit (.int (1)),.neg,.idx,.mth 41,.loc 2,.tup 1,.loc 2,.lit (.int (19968)),.cmp .GtE,.chk,.ite [.lit (.int (2))] [.lit (.int (1))],.loc 3,.tup 3,.call 2,.pop] [.loc 1,.lit (.int (1)),.neg,.idx,.lst 0,.cmp .NotEq,.chk,.ite [.loc 1,.lit (.int (1)),.neg,.idx,.mth 43,.call 1,.unp 3,.sto 4,.sto 5,.sto 6,.loc 1,.lit (.int (1)),.neg,.idx,.mth 41,.loc 4,.loc 2,.tup 1,.bin .Add,.loc 5,.loc 6,.tup 3,.call 2,.pop] []]]],.loc 1,.ret]
theorem in_1538 (a0 : V) (h : Run W d cd_1538 [] [some a0,none,none,none,none,none,none] H (behind R)) : CallW W (d + 1) (.ref 1538) [a0] H R := call_def (df_1538 _) (by kernel_rfl) (by rw [show codeAt 95 1000 = cd_1538 by kernel_rfl,show ro0 95 1000 (psOf (dg 95 1000)) [a0] = [some a0,none,none,none,none,none,none] by kernel_rfl]; exact h)
def cd_1545 : List I := [.lst 0,.sto 2,.loc 0,.fr .plain 1 [.sto 3] [.loc 2,.mth 41,.lst 0,.lit (.bool false),.lit (.str (S "single")),.lst 3,.call 2,.pop,.loc 3,.fr .plain 1 [.unp 3,.sto 4,.sto 5,.sto 6] [.lit (.raw (.builtin "len")),.loc 2,.lit (.int (1)),.neg,.idx,.lit (.int (0)),.idx,.call 1,.loc 5,.bin .Add,.loc 1,.cmp .Gt,.chk,.ite [.lit (.bool true),.loc 2,.lit (.int (1)),.neg,.idx,.lit (.int (1)),.sidx,.loc 2,.mth 41,.lst 0,.lit (.bool false),.lit (.str (S "single")),.lst 3,.call 2,.pop] [],.loc 2,.lit (.int (1)),.neg,.idx,.lit (.int (0)),.idx,.mth 42,.loc 4,.loc 5,.loc 6,.lit (.bool false),.tup 4,.tup 0,.lit (.int (0)),.loc 6,.lit (.bool false),.tup 4,.lst 2,.lit (.none),.loc 5,.slc,.call 2,.pop]],.lit (.raw (.builtin "len")),.loc 2,.lit (.int (1)),.neg,.idx,.lit (.int (0)),.idx,.call 1,.sto 7,.loc 2,.fr .plain 1 [.sto 8] [.loc 8,.lit (.int (0)),.idx,.mth 42,.lit (.tup [.tup [],.int (1),.tup [.int (0),.int (-1),.int (-1),.int (-1),.int (0)],.bool false]),.lst 1,.loc 1,.lit (.raw (.builtin "len")),.loc 8,.lit (.int (0)),.idx,.call 1,.bin .Sub,.bin .Mult,.call 2,.pop],.loc 2,.loc 7,.tup 2,.ret]
theorem in_1545 (a0 a1 : V) (h : Run W d cd_1545 [] [some a0,some a1,none,none,none,none,none,none,none] H (behind R)) : CallW W (d + 1) (.ref 1545) [a0,a1] H R := call_def (df_1545 _) (by kernel_rfl) (by rw [show codeAt 96 1000 = cd_1545 by kernel_rfl,show ro0 96 1000 (psOf (dg 96 1000)) [a0,a1] = [some a0,some a1,none,none,none,none,none,none,none] by kernel_rfl]; exact h)
def cd_1550 : List I := [.has [none],.loc 0,.lc .plain 1 [none] [.sto 0] [.lit (.raw (.type "list")),.loc 0,.attr 0,.call 1,.loc 0,.attr 1,.loc 0,.attr 2,.lst 3],.ret]
theorem in_1550 (a0 : V) (h : Run W d cd_1550 [] [some a0] H (behind R)) : CallW W (d + 1) (.ref 1550) [a0] H R := call_def (df_1550 _) (by kernel_rfl) (by rw [show codeAt 97 1000 = cd_1550 by kernel_rfl,show ro0 97 1000 (psOf (dg 97 1000)) [a0] = [some a0] by kernel_rfl]; exact h)
def cd_1555 : List I := [.lit (.raw (.ref 1545)),.lit (.raw (.ref 1538)),.loc 1,.call 1,.loc 3,.call 2,.unp 2,.sto 4,.sto 5,.lit (.raw (.builtin "max")),.lit (.int (0)),.lit (.raw (.builtin "len")),.loc 4,.call 1,.loc 2,.bin .Sub,.call 2,.sto 6,.loc 4,.loc 6,.lit (.none),.slc,.has [none,some 3],.loc 2,.lit (.raw (.builtin "len")),.loc 4,.call 1,.bin .Sub,.lc .range 1 [none,some 3] [.sto 0] [.lit (.tup [.tup [],.int (1),.tup [.int (0),.int (-1),.int (-1),.int (-1),.int (0)],.bool false]),.lst 1,.loc 1,.bin .Mult,.lit (.bool false),.lit (.str (S "single")),.lst 3],.bin .Add,.sto 7,.loc 0,.attr 3,.loc 0,.attr 4,.loc 0,.attr 34,.attr 3,.loc 0,.attr 34,.attr 4,.tup 4,.loc 2,.loc 3,.loc 2,.loc 3,.tup 4,.cmp .NotEq,.chk,.ite [.lit (.bool false),.ret] [],.lit (.raw (.ref 1550)),.loc 0,.attr 33,.attr 5,.call 1,.loc 4,.lit (.none),.loc 6,.slc,.cmp .NotEq,.chk,.ite [.lit (.bool true)] [.loc 0,.attr 33,.attr 7,.lit (.int (0)),.cmp .NotEq,.chk],.ite [.lit (.bool false),.ret] [],.lit (.raw (.ref 1550)),.loc 0,.attr 34,.attr 5,.call 1,.loc 7,.cmp .NotEq,.chk,.ite [.lit (.bool false),.ret] [],.loc 0,.attr 35,.sto 8,.loc 8,.attr 11,.loc 8,.attr 12,.loc 8,.attr 13,.tup 3,.sto 9,.loc 9,.lit (.raw (.builtin "len")),.loc 4,.call 1,.lit (.int (1)),.bin .Sub,.loc 6,.bin .Sub,.lit (.raw (.builtin "min")),.loc 5,.loc 3,.lit (.int (1)),.bin .Sub,.call 2,.loc 5,.loc 3,.cmp .Eq,.tup 3,.cmp .Eq,.ret]
theorem in_1555 (a0 a1 a2 a3 : V) (h : Run W d cd_1555 [] [some a0,some a1,some a2,some a3,none,none,none,none,none,none] H (behind R)) : CallW W (d + 1) (.ref 1555) [a0,a1,a2,a3] H R := call_defC (df_1555 _) rfl (by kernel_rfl) (by rw [show codeAt 98 1000 = cd_1555 by kernel_rfl,show ro0 98 1000 (psOf (dg 98 1000)) ([a0,a1,a2,a3] ++ []) = [some a0,some a1,some a2,some a3,none,none,none,none,none,none] by kernel_rfl]; exact h)
def cd_1560 : List I := [.lit (.str (S "cells")),.has [none],.loc 0,.lit (.none),.lit (.int (63)),.slc,.lc .plain 1 [none] [.sto 0] [.lit (.raw (.type "int")),.loc 0,.call 1,.lit (.int (1000000000)),.bin .Mod],.lit (.str (S "place")),.lit (.int (0)),.dct 4,.sto 1,.lit (.int (1)),.lit (.raw (.ref 1510)),.loc 1,.lit (.int (4)),.call 2,.bin .Add,.lit (.int (2)),.lit (.raw (.ref 1510)),.loc 1,.lit (.int (6)),.call 2,.bin .Add,.tup 2,.unp 2,.sto 2,.sto 3,.lit (.raw (.ref 1517)),.loc 2,.loc 3,.call 2,.lst 0,.tup 2,.unp 2,.sto 4,.sto 5,.lit (.int (1)),.lit (.raw (.ref 1510)),.loc 1,.lit (.int (3)),.call 2,.bin .Add,.fr .range 1 [.sto 6] [.lit (.raw (.ref 1531)),.loc 1,.loc 4,.loc 5,.call 3,.pop,.lit (.raw (.ref 1555)),.loc 4,.loc 5,.loc 2,.loc 3,.call 4,.chk,.notb,.ite [.lit (.bool false),.ret] [],.lit (.int (1)),.lit (.raw (.ref 1510)),.loc 1,.lit (.int (4)),.call 2,.bin .Add,.lit (.int (2)),.lit (.raw (.ref 1510)),.loc 1,.lit (.int (6)),.call 2,.bin .Add,.tup 2,.unp 2,.sto 2,.sto 3,.lit (.raw (.ref 662)),.loc 4,.loc 2,.loc 3,.call 3,.unp 3,.sto 7,.sto 8,.sto 9,.loc 8,.loc 4,.sattr 33,.lit (.raw (.ref 1496)),.loc 4,.loc 2,.loc 3,.loc 7,.loc 9,.call 5,.pop,.lit (.raw (.ref 1555)),.loc 4,.loc 5,.loc 2,.loc 3,.call 4,.chk,.notb,.ite [.lit (.bool false),.ret] []],.lit (.raw (.ref 1531)),.loc 1,.loc 4,.loc 5,.call 3,.pop,.lit (.raw (.ref 1517)),.loc 2,.loc 3,.call 2,.sto 10,.loc 5,.fr .plain 1 [.unp 2,.sto 11,.sto 12] [.lit (.raw (.ref 1524)),.loc 10,.loc 11,.loc 12,.call 3,.pop],.loc 4,.attr 34,.mth 2,.loc 10,.attr 34,.call 2,.chk,.notb,.ite [.lit (.bool true)] [.loc 4,.attr 33,.mth 2,.loc 10,.attr 33,.call 2,.chk,.notb],.ite [.lit (.bool false),.ret] [],.loc 4,.attr 35,.mth 2,.loc 10,.attr 35,.call 2,.chk,.ite [.lit (.raw (.ref 1555)),.loc 4,.loc 5,.loc 2,.loc 3,.call 4,.chk] [.lit (.bool false)],.ret]
theorem in_1560 (a0 : V) (h : Run W d cd_1560 [] [some a0,none,none,none,none,none,none,none,none,none,none,none,none] H (behind R)) : CallW W (d + 1) (.ref 1560) [a0] H R := call_def (df_1560 _) (by kernel_rfl) (by rw [show codeAt 99 1000 = cd_1560 by kernel_rfl,show ro0 99 1000 (psOf (dg 99 1000)) [a0] = [some a0,none,none,none,none,none,none,none,none,none,none,none,none] by kernel_rfl]; exact h)
end
def is (v : V) (H : Hp) : V → Hp → Prop := fun x H' => x = v ∧ H' = H
def Ext (H H' : Hp) : Prop := ∀ a m,H a = some m → H' a = some m
theorem Ext.rfl {H : Hp} : Ext H H := fun _ _ h => h
theorem Ext.trans {H H' H'' : Hp} (h : Ext H H') (h' : Ext H' H'') : Ext H H'' := fun a m x => h' a m (h a m x)
theorem Ext.new {H : Hp} {a : Addr} {m : MO} (h : H a = none) : Ext H (setF H a m) := fun b x e => by
 rw [setF_ne]; · exact e
 intro q; rw [q,h] at e; cases e
theorem Ext.upd {H H' : Hp} {a : Addr} {m : MO} (x : Ext H H') (h : H a = none) : Ext H (setF H' a m) := fun b y e => by
 rw [setF_ne]; · exact x _ _ e
 intro q; rw [q,h] at e; cases e
theorem ne_new {H : Hp} {a b : Addr} {m : MO} (h : H a = some m) (h' : H b = none) : a ≠ b := fun q => by rw [q,h'] at h; cases h
theorem ne_kind {H : Hp} {a b : Addr} {m m' : MO} (h : H a = some m) (h' : H b = some m') (q : m ≠ m') : a ≠ b := fun z => by rw [z,h'] at h; cases h; exact q rfl
def MO.kd : MO → Nat | .list _ => 0 | .dict _ => 1 | .dictB _ => 2 | .inst C _ => C + 3
theorem ne_kd {H : Hp} {a b : Addr} {m m' : MO} (h : H a = some m) (h' : H b = some m') (q : (m.kd == m'.kd) = false) : a ≠ b := ne_kind h h' fun z => by rw [z] at q; simp at q
theorem at_ne {H : Hp} {a b : Addr} {m m' : MO} (h : H a = some m) (q : a ≠ b) : setF H b m' a = some m := (setF_ne q).trans h
def mLk : List (Nat × Nat × Nat) → Nat → Nat → Option Nat
 | [],_,_ => none
 | (C',m',f) :: r,C,m => if (Nat.beq C' C && Nat.beq m' m) = true then some f else mLk r C m
def mLook (C m : Nat) : Option Nat := mLk mtab C m
theorem mLk_mem {C m f : Nat} : ∀ {l : List (Nat × Nat × Nat)},mLk l C m = some f → (C,m,f) ∈ l
 | [],h => by cases h
 | (C',m',f') :: r,h => by
  unfold mLk at h
  split at h
  ·rename_i q
   simp only [Bool.and_eq_true] at q
   cases h
   rw [Nat.eq_of_beq_eq_true q.1,Nat.eq_of_beq_eq_true q.2]; exact .head _
  ·exact .tail _ (mLk_mem h)
theorem mLook_mem {C m f : Nat} (h : mLook C m = some f) : (C,m,f) ∈ mtab := mLk_mem h
section
variable {W : Wx} {d : Nat} {H : Hp} {k : List I} {st : List V} {ρ : Ro} {Q : Out → Prop}
theorem r_attr {a C f : Nat} {fs : List (Nat × V)} {x : V} (e : H a = some (.inst C fs)) (hx : look f fs = some x) (hh : x.hand = true) (h : Run W d k (x :: st) ρ H Q) : Run W d (.attr f :: k) (.ref a :: st) ρ H Q :=
 Run.attr (op_attr e hx hh (R := is x H) ⟨rfl,rfl⟩) (by rintro _ _ ⟨rfl,rfl⟩; exact h)
theorem r_sattr {a C f : Nat} {fs : List (Nat × V)} {v : V} (e : H a = some (.inst C fs)) (hf : okF C f = true) (hl : Nat.ble fs.length 100 = true) (h : Run W d k st ρ (setF H a (.inst C (putF f v fs))) Q) : Run W d (.sattr f :: k) (.ref a :: v :: st) ρ H Q :=
 Run.sattr (ef_sattr e hf (Nat.le_of_ble_eq_true hl) (R := fun H' => H' = _) rfl) (by rintro _ rfl; exact h)
theorem r_mth {a C m f : Nat} {fs : List (Nat × V)} (e : H a = some (.inst C fs)) (hm : mLook C m = some f) (h : Run W d k (.ref a :: .raw (.ref f) :: st) ρ H Q) : Run W d (.mth m :: k) (.ref a :: st) ρ H Q :=
 Run.mth (mth_inst (mLook_mem hm) e) h
theorem r_mapp {a : Nat} {l : List V} (e : H a = some (.list l)) (h : Run W d k (.ref a :: .raw (.builtin "list.append") :: st) ρ H Q) : Run W d (.mth 41 :: k) (.ref a :: st) ρ H Q :=
 Run.mth (mth_list e PySem.F.slot_list_append PySem.F.type_list_append) h
theorem r_mext {a : Nat} {l : List V} (e : H a = some (.list l)) (h : Run W d k (.ref a :: .raw (.builtin "list.extend") :: st) ρ H Q) : Run W d (.mth 42 :: k) (.ref a :: st) ρ H Q :=
 Run.mth (mth_list e PySem.F.slot_list_extend PySem.F.type_list_extend) h
theorem r_mpop {a : Nat} {l : List V} (e : H a = some (.list l)) (h : Run W d k (.ref a :: .raw (.builtin "list.pop") :: st) ρ H Q) : Run W d (.mth 43 :: k) (.ref a :: st) ρ H Q :=
 Run.mth (mth_list e PySem.F.slot_list_pop PySem.F.type_list_pop) h
theorem r_mget {a : Nat} {l : List (Str × V)} (e : H a = some (.dict l)) (h : Run W d k (.ref a :: .raw (.builtin "dict.get") :: st) ρ H Q) : Run W d (.mth 44 :: k) (.ref a :: st) ρ H Q :=
 Run.mth (mth_dict e PySem.F.slot_dict_get PySem.F.type_dict_get) h
theorem r_call0 {f : Value} {R : V → Hp → Prop} (c : CallT W d f [] H R) (ok : calleeOk f = true) (h : ∀ x H',R x H' → Run W d k (x :: st) ρ H' Q) : Run W d (.call 0 :: k) (.raw f :: st) ρ H Q :=
 Run.call (l := []) rfl rfl ok c h
theorem r_call1 {f : Value} {a : V} {R : V → Hp → Prop} (c : CallT W d f [a] H R) (ok : calleeOk f = true) (h : ∀ x H',R x H' → Run W d k (x :: st) ρ H' Q) : Run W d (.call 1 :: k) (a :: .raw f :: st) ρ H Q :=
 Run.call (l := [a]) rfl rfl ok c h
theorem r_call2 {f : Value} {a b : V} {R : V → Hp → Prop} (c : CallT W d f [a,b] H R) (ok : calleeOk f = true) (h : ∀ x H',R x H' → Run W d k (x :: st) ρ H' Q) : Run W d (.call 2 :: k) (b :: a :: .raw f :: st) ρ H Q :=
 Run.call (l := [a,b]) rfl rfl ok c h
theorem r_call3 {f : Value} {a b c' : V} {R : V → Hp → Prop} (c : CallT W d f [a,b,c'] H R) (ok : calleeOk f = true) (h : ∀ x H',R x H' → Run W d k (x :: st) ρ H' Q) : Run W d (.call 3 :: k) (c' :: b :: a :: .raw f :: st) ρ H Q :=
 Run.call (l := [a,b,c']) rfl rfl ok c h
theorem r_call4 {f : Value} {a b c' e : V} {R : V → Hp → Prop} (c : CallT W d f [a,b,c',e] H R) (ok : calleeOk f = true) (h : ∀ x H',R x H' → Run W d k (x :: st) ρ H' Q) : Run W d (.call 4 :: k) (e :: c' :: b :: a :: .raw f :: st) ρ H Q :=
 Run.call (l := [a,b,c',e]) rfl rfl ok c h
theorem r_call5 {f : Value} {a b c' e g : V} {R : V → Hp → Prop} (c : CallT W d f [a,b,c',e,g] H R) (ok : calleeOk f = true) (h : ∀ x H',R x H' → Run W d k (x :: st) ρ H' Q) : Run W d (.call 5 :: k) (g :: e :: c' :: b :: a :: .raw f :: st) ρ H Q :=
 Run.call (l := [a,b,c',e,g]) rfl rfl ok c h
theorem CallW.tu {d' : Nat} {f : Value} {args : List V} {R : V → Hp → Prop} (h : CallW W d f args H R) (le : Nat.ble d d' = true) : CallT W d' f args H R := (h.up (Nat.le_of_ble_eq_true le)).t
theorem r_len {a : Addr} {l : List V} (e : H a = some (.list l)) (hl : l.length ≤ 1000000) (h : Run W d k (.int l.length :: st) ρ H Q) : Run W d (.call 1 :: k) (.ref a :: .raw (.builtin "len") :: st) ρ H Q :=
 r_call1 (ct_len e hl (R := is _ H) ⟨rfl,rfl⟩) rfl (by rintro _ _ ⟨rfl,rfl⟩; exact h)
theorem r_lenT {l : List V} (hl : l.length ≤ 1000000) (h : Run W d k (.int l.length :: st) ρ H Q) : Run W d (.call 1 :: k) (.tup l :: .raw (.builtin "len") :: st) ρ H Q :=
 r_call1 (ct_lenT hl (R := is _ H) ⟨rfl,rfl⟩) rfl (by rintro _ _ ⟨rfl,rfl⟩; exact h)
theorem r_max {a b : Int} (h : Run W d k (.int (max a b) :: st) ρ H Q) : Run W d (.call 2 :: k) (.int b :: .int a :: .raw (.builtin "max") :: st) ρ H Q :=
 r_call2 (ct_max (R := is _ H) ⟨rfl,rfl⟩) rfl (by rintro _ _ ⟨rfl,rfl⟩; exact h)
theorem r_min {a b : Int} (h : Run W d k (.int (min a b) :: st) ρ H Q) : Run W d (.call 2 :: k) (.int b :: .int a :: .raw (.builtin "min") :: st) ρ H Q :=
 r_call2 (ct_min (R := is _ H) ⟨rfl,rfl⟩) rfl (by rintro _ _ ⟨rfl,rfl⟩; exact h)
theorem r_append {a : Addr} {l : List V} {x : V} (e : H a = some (.list l)) (hl : l.length ≤ 1000000) (h : Run W d k (.none :: st) ρ (setF H a (.list (l ++ [x]))) Q) : Run W d (.call 2 :: k) (x :: .ref a :: .raw (.builtin "list.append") :: st) ρ H Q :=
 r_call2 (ct_append e hl (R := is _ _) ⟨rfl,rfl⟩) rfl (by rintro _ _ ⟨rfl,rfl⟩; exact h)
theorem r_extend {a b : Addr} {l l' : List V} (e : H a = some (.list l)) (e' : H b = some (.list l')) (hl : l.length + l'.length ≤ 1000000) (h : Run W d k (.none :: st) ρ (setF H a (.list (l ++ l'))) Q) : Run W d (.call 2 :: k) (.ref b :: .ref a :: .raw (.builtin "list.extend") :: st) ρ H Q :=
 r_call2 (ct_extend e e' hl (R := is _ _) ⟨rfl,rfl⟩) rfl (by rintro _ _ ⟨rfl,rfl⟩; exact h)
theorem r_pop {a : Addr} {l : List V} {x : V} (e : H a = some (.list (l ++ [x]))) (hl : l.length ≤ 1000000) (h : Run W d k (x :: st) ρ (setF H a (.list l)) Q) : Run W d (.call 1 :: k) (.ref a :: .raw (.builtin "list.pop") :: st) ρ H Q :=
 r_call1 (ct_pop e hl (R := is _ _) ⟨rfl,rfl⟩) rfl (by rintro _ _ ⟨rfl,rfl⟩; exact h)
theorem r_list {a : Addr} {l : List V} (e : H a = some (.list l)) (hl : l.length ≤ 1000000) (h : ∀ c,H c = none → Run W d k (.ref c :: st) ρ (setF H c (.list l)) Q) : Run W d (.call 1 :: k) (.ref a :: .raw (.type "list") :: st) ρ H Q :=
 r_call1 (ct_list e hl (R := fun x H' => ∃ c,H c = none ∧ x = .ref c ∧ H' = setF H c (.list l)) fun c hc => ⟨c,hc,rfl,rfl⟩) rfl (by rintro _ _ ⟨c,hc,rfl,rfl⟩; exact h c hc)
theorem r_listT {l : List V} (hl : l.length ≤ 1000000) (h : ∀ c,H c = none → Run W d k (.ref c :: st) ρ (setF H c (.list l)) Q) : Run W d (.call 1 :: k) (.tup l :: .raw (.type "list") :: st) ρ H Q :=
 r_call1 (ct_listT hl (R := fun x H' => ∃ c,H c = none ∧ x = .ref c ∧ H' = setF H c (.list l)) fun c hc => ⟨c,hc,rfl,rfl⟩) rfl (by rintro _ _ ⟨c,hc,rfl,rfl⟩; exact h c hc)
theorem r_int {i : Int} (h : Run W d k (.int i :: st) ρ H Q) : Run W d (.call 1 :: k) (.int i :: .raw (.type "int") :: st) ρ H Q :=
 r_call1 (ct_int (R := is _ _) ⟨rfl,rfl⟩) rfl (by rintro _ _ ⟨rfl,rfl⟩; exact h)
theorem r_all {a : Addr} {n : Nat} (e : H a = some (.list (List.replicate n (.bool true)))) (h : Run W d k (.bool true :: st) ρ H Q) : Run W d (.call 1 :: k) (.ref a :: .raw (.builtin "all") :: st) ρ H Q :=
 r_call1 (ct_all e (R := is _ _) ⟨rfl,rfl⟩) rfl (by rintro _ _ ⟨rfl,rfl⟩; exact h)
theorem r_sorted0 {a : Addr} (e : H a = some (.dict [])) (h : ∀ c,H c = none → Run W d k (.ref c :: st) ρ (setF H c (.list [])) Q) : Run W d (.call 1 :: k) (.ref a :: .raw (.builtin "sorted") :: st) ρ H Q :=
 r_call1 (ct_sorted0 e (R := fun x H' => ∃ c,H c = none ∧ x = .ref c ∧ H' = setF H c (.list [])) fun c hc => ⟨c,hc,rfl,rfl⟩) rfl (by rintro _ _ ⟨c,hc,rfl,rfl⟩; exact h c hc)
theorem r_dgets {a : Addr} {l : List (Str × V)} {s : Str} {y x : V} (e : H a = some (.dict l)) (q : (dAt s l).getD y = x) (h : Run W d k (x :: st) ρ H Q) : Run W d (.call 3 :: k) (y :: .str s :: .ref a :: .raw (.builtin "dict.get") :: st) ρ H Q :=
 r_call3 (ct_dget e (R := is x _) ⟨q,rfl⟩) rfl (by rintro _ _ ⟨rfl,rfl⟩; exact h)
theorem r_dget0 {a : Addr} {i : Int} {y : V} (e : H a = some (.dict [])) (h : Run W d k (y :: st) ρ H Q) : Run W d (.call 3 :: k) (y :: .int i :: .ref a :: .raw (.builtin "dict.get") :: st) ρ H Q :=
 r_call3 (ct_dget0 e (R := is y _) ⟨rfl,rfl⟩) rfl (by rintro _ _ ⟨rfl,rfl⟩; exact h)
theorem r_add {a b : Int} (h : Run W d k (.int (a + b) :: st) ρ H Q) : Run W d (.bin .Add :: k) (.int b :: .int a :: st) ρ H Q := Run.bin (op_add (R := is _ _) ⟨rfl,rfl⟩) (by rintro _ _ ⟨rfl,rfl⟩; exact h)
theorem r_sub {a b : Int} (h : Run W d k (.int (a - b) :: st) ρ H Q) : Run W d (.bin .Sub :: k) (.int b :: .int a :: st) ρ H Q := Run.bin (op_sub (R := is _ _) ⟨rfl,rfl⟩) (by rintro _ _ ⟨rfl,rfl⟩; exact h)
theorem r_mul {a b : Int} (hm : IntMulOk a b) (h : Run W d k (.int (a * b) :: st) ρ H Q) : Run W d (.bin .Mult :: k) (.int b :: .int a :: st) ρ H Q := Run.bin (op_mul hm (R := is _ _) ⟨rfl,rfl⟩) (by rintro _ _ ⟨rfl,rfl⟩; exact h)
theorem r_mod {a b : Int} (hb : b ≠ 0) (h : Run W d k (.int (a.fmod b) :: st) ρ H Q) : Run W d (.bin .Mod :: k) (.int b :: .int a :: st) ρ H Q := Run.bin (op_mod hb (R := is _ _) ⟨rfl,rfl⟩) (by rintro _ _ ⟨rfl,rfl⟩; exact h)
theorem r_fdiv {a b : Int} (hb : b ≠ 0) (hp : Builtin.divisionGoesByPylong a b = false) (h : Run W d k (.int (a.fdiv b) :: st) ρ H Q) : Run W d (.bin .FloorDiv :: k) (.int b :: .int a :: st) ρ H Q := Run.bin (op_fdiv hb hp (R := is _ _) ⟨rfl,rfl⟩) (by rintro _ _ ⟨rfl,rfl⟩; exact h)
theorem r_addL {a b : Addr} {l l' : List V} (e : H a = some (.list l)) (e' : H b = some (.list l')) (hl : l.length + l'.length ≤ 1000000) (h : ∀ c,H c = none → Run W d k (.ref c :: st) ρ (setF H c (.list (l ++ l'))) Q) : Run W d (.bin .Add :: k) (.ref b :: .ref a :: st) ρ H Q :=
 Run.bin (op_addL e e' hl (R := fun x H' => ∃ c,H c = none ∧ x = .ref c ∧ H' = setF H c (.list (l ++ l'))) fun c hc => ⟨c,hc,rfl,rfl⟩) (by rintro _ _ ⟨c,hc,rfl,rfl⟩; exact h c hc)
theorem r_mulL {a : Addr} {x : V} {i : Int} (e : H a = some (.list [x])) (hl : -1000 ≤ i ∧ i ≤ 1000) (h : ∀ c,H c = none → Run W d k (.ref c :: st) ρ (setF H c (.list (List.replicate i.toNat x))) Q) : Run W d (.bin .Mult :: k) (.int i :: .ref a :: st) ρ H Q :=
 Run.bin (op_mulL e hl (R := fun x' H' => ∃ c,H c = none ∧ x' = .ref c ∧ H' = setF H c (.list (List.replicate i.toNat x))) fun c hc => ⟨c,hc,rfl,rfl⟩) (by rintro _ _ ⟨c,hc,rfl,rfl⟩; exact h c hc)
theorem r_addT {l l' : List V} (hl : l.length + l'.length ≤ 1000) (h : Run W d k (.tup (l ++ l') :: st) ρ H Q) : Run W d (.bin .Add :: k) (.tup l' :: .tup l :: st) ρ H Q := Run.bin (op_addT hl (R := is _ _) ⟨rfl,rfl⟩) (by rintro _ _ ⟨rfl,rfl⟩; exact h)
theorem r_lt {a b : Int} (h : Run W d k (.bool (decide (a < b)) :: st) ρ H Q) : Run W d (.cmp .Lt :: k) (.int b :: .int a :: st) ρ H Q := Run.cmp (op_lt (R := is _ _) ⟨rfl,rfl⟩) (by rintro _ _ ⟨rfl,rfl⟩; exact h)
theorem r_le {a b : Int} (h : Run W d k (.bool (decide (a ≤ b)) :: st) ρ H Q) : Run W d (.cmp .LtE :: k) (.int b :: .int a :: st) ρ H Q := Run.cmp (op_le (R := is _ _) ⟨rfl,rfl⟩) (by rintro _ _ ⟨rfl,rfl⟩; exact h)
theorem r_gt {a b : Int} (h : Run W d k (.bool (decide (b < a)) :: st) ρ H Q) : Run W d (.cmp .Gt :: k) (.int b :: .int a :: st) ρ H Q := Run.cmp (op_gt (R := is _ _) ⟨rfl,rfl⟩) (by rintro _ _ ⟨rfl,rfl⟩; exact h)
theorem r_ge {a b : Int} (h : Run W d k (.bool (decide (b ≤ a)) :: st) ρ H Q) : Run W d (.cmp .GtE :: k) (.int b :: .int a :: st) ρ H Q := Run.cmp (op_ge (R := is _ _) ⟨rfl,rfl⟩) (by rintro _ _ ⟨rfl,rfl⟩; exact h)
theorem r_eq {a b : Int} (h : Run W d k (.bool (a == b) :: st) ρ H Q) : Run W d (.cmp .Eq :: k) (.int b :: .int a :: st) ρ H Q := Run.cmp (op_eq (R := is _ _) ⟨rfl,rfl⟩) (by rintro _ _ ⟨rfl,rfl⟩; exact h)
theorem r_ne {a b : Int} (h : Run W d k (.bool (a != b) :: st) ρ H Q) : Run W d (.cmp .NotEq :: k) (.int b :: .int a :: st) ρ H Q := Run.cmp (op_ne (R := is _ _) ⟨rfl,rfl⟩) (by rintro _ _ ⟨rfl,rfl⟩; exact h)
theorem r_eqs {a b : Str} (h : Run W d k (.bool (a == b) :: st) ρ H Q) : Run W d (.cmp .Eq :: k) (.str b :: .str a :: st) ρ H Q := Run.cmp (op_eqs (R := is _ _) ⟨rfl,rfl⟩) (by rintro _ _ ⟨rfl,rfl⟩; exact h)
theorem r_nes {a b : Str} (h : Run W d k (.bool (a != b) :: st) ρ H Q) : Run W d (.cmp .NotEq :: k) (.str b :: .str a :: st) ρ H Q := Run.cmp (op_nes (R := is _ _) ⟨rfl,rfl⟩) (by rintro _ _ ⟨rfl,rfl⟩; exact h)
theorem r_eqb {a b : Bool} (h : Run W d k (.bool (a == b) :: st) ρ H Q) : Run W d (.cmp .Eq :: k) (.bool b :: .bool a :: st) ρ H Q := Run.cmp (op_eqb (R := is _ _) ⟨rfl,rfl⟩) (by rintro _ _ ⟨rfl,rfl⟩; exact h)
theorem r_neb {a b : Bool} (h : Run W d k (.bool (a != b) :: st) ρ H Q) : Run W d (.cmp .NotEq :: k) (.bool b :: .bool a :: st) ρ H Q := Run.cmp (op_neb (R := is _ _) ⟨rfl,rfl⟩) (by rintro _ _ ⟨rfl,rfl⟩; exact h)
theorem r_is {x : V} (h : Run W d k (.bool x.isNone :: st) ρ H Q) : Run W d (.cmp .Is :: k) (.none :: x :: st) ρ H Q := Run.cmp (op_is (R := is _ _) ⟨rfl,rfl⟩) (by rintro _ _ ⟨rfl,rfl⟩; exact h)
theorem r_isnt {x : V} (h : Run W d k (.bool (!x.isNone) :: st) ρ H Q) : Run W d (.cmp .IsNot :: k) (.none :: x :: st) ρ H Q := Run.cmp (op_isnt (R := is _ _) ⟨rfl,rfl⟩) (by rintro _ _ ⟨rfl,rfl⟩; exact h)
theorem r_inS {x : Str} {l : List Str} {l' : List V} (e : l' = l.map .str) (h : Run W d k (.bool (l.any (· == x)) :: st) ρ H Q) : Run W d (.cmp .In :: k) (.tup l' :: .str x :: st) ρ H Q := by subst e; exact Run.cmp (op_inS (R := is _ _) ⟨rfl,rfl⟩) (by rintro _ _ ⟨rfl,rfl⟩; exact h)
theorem r_eqD {n m : Nat} {x y : V} {e f : PyData} {b : Bool} (hx : Dat H n x e) (hy : Dat H m y f) (hn : n ≤ 60) (hm : m ≤ 60) (hb : PyData.eqv e f = b) (h : Run W d k (.bool b :: st) ρ H Q) : Run W d (.cmp .Eq :: k) (y :: x :: st) ρ H Q :=
 Run.cmp (op_eqD hx hy hn hm (R := is (.bool b) _) ⟨by rw [hb],rfl⟩) (by rintro _ _ ⟨rfl,rfl⟩; exact h)
theorem r_neD {n m : Nat} {x y : V} {e f : PyData} {b : Bool} (hx : Dat H n x e) (hy : Dat H m y f) (hn : n ≤ 60) (hm : m ≤ 60) (hb : PyData.eqv e f = !b) (h : Run W d k (.bool b :: st) ρ H Q) : Run W d (.cmp .NotEq :: k) (y :: x :: st) ρ H Q :=
 Run.cmp (op_neD hx hy hn hm (R := is (.bool b) _) ⟨by rw [hb,Bool.not_not],rfl⟩) (by rintro _ _ ⟨rfl,rfl⟩; exact h)
theorem r_klt {a b : Int} (h : Run W d k (.bool (decide (a < b)) :: .int b :: st) ρ H Q) : Run W d (.cmpk .Lt :: k) (.int b :: .int a :: st) ρ H Q := Run.cmpk (op_lt ⟨rfl,rfl⟩) h
theorem r_kle {a b : Int} (h : Run W d k (.bool (decide (a ≤ b)) :: .int b :: st) ρ H Q) : Run W d (.cmpk .LtE :: k) (.int b :: .int a :: st) ρ H Q := Run.cmpk (op_le ⟨rfl,rfl⟩) h
theorem r_kge {a b : Int} (h : Run W d k (.bool (decide (b ≤ a)) :: .int b :: st) ρ H Q) : Run W d (.cmpk .GtE :: k) (.int b :: .int a :: st) ρ H Q := Run.cmpk (op_ge ⟨rfl,rfl⟩) h
theorem r_idx {a : Addr} {l : List V} {i : Int} {x : V} (e : H a = some (.list l)) (hi : -1000 ≤ i ∧ i ≤ 1000) (hx : at? l i = some x) (h : Run W d k (x :: st) ρ H Q) : Run W d (.idx :: k) (.int i :: .ref a :: st) ρ H Q :=
 Run.idx (op_item e hi hx (R := is x H) ⟨rfl,rfl⟩) ⟨_,e,fun _ _ q => nomatch q⟩ (by rintro _ _ ⟨rfl,rfl⟩; exact h)
theorem r_idxT {l : List V} {i : Int} {x : V} (hi : (decide (-1000 ≤ i) && decide (i ≤ 1000)) = true) (hx : at? l i = some x) (h : Run W d k (x :: st) ρ H Q) : Run W d (.idx :: k) (.int i :: .tup l :: st) ρ H Q :=
 Run.idx (op_itemT (by simpa using hi) hx (R := is x H) ⟨rfl,rfl⟩) trivial (by rintro _ _ ⟨rfl,rfl⟩; exact h)
theorem r_didx {a : Addr} {l : List (Str × V)} {s : Str} {x : V} (e : H a = some (.dict l)) (hx : dAt s l = some x) (h : Run W d k (x :: st) ρ H Q) : Run W d (.idx :: k) (.str s :: .ref a :: st) ρ H Q :=
 Run.idx (op_dget e hx (R := is x H) ⟨rfl,rfl⟩) ⟨_,e,fun _ _ q => nomatch q⟩ (by rintro _ _ ⟨rfl,rfl⟩; exact h)
theorem r_bidx {a : Addr} {l : List (List UInt8 × V)} {s : Array UInt8} {x : V} (e : H a = some (.dictB l)) (hx : dAt s.toList l = some x) (h : Run W d k (x :: st) ρ H Q) : Run W d (.idx :: k) (.bytes s :: .ref a :: st) ρ H Q :=
 Run.idx (op_dgetB e hx (R := is x H) ⟨rfl,rfl⟩) ⟨_,e,fun _ _ q => nomatch q⟩ (by rintro _ _ ⟨rfl,rfl⟩; exact h)
theorem r_sidx {a : Addr} {l : List V} {i : Int} {x : V} (e : H a = some (.list l)) (h0 : 0 ≤ i) (h1 : i < l.length) (hl : l.length ≤ 1000000) (h : Run W d k st ρ (setF H a (.list (l.set i.toNat x))) Q) : Run W d (.sidx :: k) (.int i :: .ref a :: x :: st) ρ H Q :=
 Run.sidx (ef_setitem e h0 h1 hl (R := fun H' => H' = _) rfl) (by rintro _ rfl; exact h)
theorem r_dset {a : Addr} {l : List (Str × V)} {s : Str} {x : V} (e : H a = some (.dict l)) (hl : l.length ≤ 1000) (h : Run W d k st ρ (setF H a (.dict (dPut s x l))) Q) : Run W d (.sidx :: k) (.str s :: .ref a :: x :: st) ρ H Q :=
 Run.sidx (ef_dset e hl (R := fun H' => H' = _) rfl) (by rintro _ rfl; exact h)
theorem r_bset0 {a : Addr} {s : Array UInt8} {x : V} (e : H a = some (.dict [])) (h : Run W d k st ρ (setF H a (.dictB [(s.toList,x)])) Q) : Run W d (.sidx :: k) (.bytes s :: .ref a :: x :: st) ρ H Q :=
 Run.sidx (ef_dsetB0 e (R := fun H' => H' = _) rfl) (by rintro _ rfl; exact h)
theorem r_notin0 {a : Addr} {s : Array UInt8} (e : H a = some (.dict [])) (h : Run W d k (.bool true :: st) ρ H Q) : Run W d (.cmp .NotIn :: k) (.ref a :: .bytes s :: st) ρ H Q := Run.cmp (op_notinB0 e (R := is _ _) ⟨rfl,rfl⟩) (by rintro _ _ ⟨rfl,rfl⟩; exact h)
theorem r_notinB {a : Addr} {l : List (List UInt8 × V)} {s : Array UInt8} {b : Bool} (e : H a = some (.dictB l)) (hb : (!(dAt s.toList l).isSome) = b) (h : Run W d k (.bool b :: st) ρ H Q) : Run W d (.cmp .NotIn :: k) (.ref a :: .bytes s :: st) ρ H Q :=
 Run.cmp (op_notinB e (R := is (.bool b) _) ⟨by rw [hb],rfl⟩) (by rintro _ _ ⟨rfl,rfl⟩; exact h)
theorem r_slc {a : Addr} {l : List V} {lo hi : Option Int} {u v : V} (hu : u = optV lo) (hv : v = optV hi) (e : H a = some (.list l)) (hl : l.length ≤ 1000000) (h : ∀ c,H c = none → Run W d k (.ref c :: st) ρ (setF H c (.list (pySlice l lo hi))) Q) : Run W d (.slc :: k) (v :: u :: .ref a :: st) ρ H Q := by
 subst hu hv
 exact Run.slc (slc_list e hl (R := fun x H' => ∃ c,H c = none ∧ x = .ref c ∧ H' = setF H c (.list (pySlice l lo hi))) fun c hc => ⟨c,hc,rfl,rfl⟩) ⟨_,e,fun _ _ q => nomatch q⟩ (by rintro _ _ ⟨c,hc,rfl,rfl⟩; exact h c hc)
theorem r_tup0 (h : Run W d k (.tup [] :: st) ρ H Q) : Run W d (.tup 0 :: k) st ρ H Q := Run.tup (l := []) rfl (by omega) rfl h
theorem r_tup1 {a : V} (h : Run W d k (.tup [a] :: st) ρ H Q) : Run W d (.tup 1 :: k) (a :: st) ρ H Q := Run.tup (l := [a]) rfl (by omega) rfl h
theorem r_tup2 {a b : V} (h : Run W d k (.tup [a,b] :: st) ρ H Q) : Run W d (.tup 2 :: k) (b :: a :: st) ρ H Q := Run.tup (l := [a,b]) rfl (by omega) rfl h
theorem r_tup3 {a b c : V} (h : Run W d k (.tup [a,b,c] :: st) ρ H Q) : Run W d (.tup 3 :: k) (c :: b :: a :: st) ρ H Q := Run.tup (l := [a,b,c]) rfl (by omega) rfl h
theorem r_tup4 {a b c e : V} (h : Run W d k (.tup [a,b,c,e] :: st) ρ H Q) : Run W d (.tup 4 :: k) (e :: c :: b :: a :: st) ρ H Q := Run.tup (l := [a,b,c,e]) rfl (by omega) rfl h
theorem r_tup5 {a b c e f : V} (h : Run W d k (.tup [a,b,c,e,f] :: st) ρ H Q) : Run W d (.tup 5 :: k) (f :: e :: c :: b :: a :: st) ρ H Q := Run.tup (l := [a,b,c,e,f]) rfl (by omega) rfl h
theorem r_lst0 (h : ∀ c,H c = none → Run W d k (.ref c :: st) ρ (setF H c (.list [])) Q) : Run W d (.lst 0 :: k) st ρ H Q := Run.lst (l := []) rfl (by omega) rfl h
theorem r_lst1 {a : V} (h : ∀ c,H c = none → Run W d k (.ref c :: st) ρ (setF H c (.list [a])) Q) : Run W d (.lst 1 :: k) (a :: st) ρ H Q := Run.lst (l := [a]) rfl (by omega) rfl h
theorem r_lst2 {a b : V} (h : ∀ c,H c = none → Run W d k (.ref c :: st) ρ (setF H c (.list [a,b])) Q) : Run W d (.lst 2 :: k) (b :: a :: st) ρ H Q := Run.lst (l := [a,b]) rfl (by omega) rfl h
theorem r_lst3 {a b e : V} (h : ∀ c,H c = none → Run W d k (.ref c :: st) ρ (setF H c (.list [a,b,e])) Q) : Run W d (.lst 3 :: k) (e :: b :: a :: st) ρ H Q := Run.lst (l := [a,b,e]) rfl (by omega) rfl h
theorem r_lst4 {a b e f : V} (h : ∀ c,H c = none → Run W d k (.ref c :: st) ρ (setF H c (.list [a,b,e,f])) Q) : Run W d (.lst 4 :: k) (f :: e :: b :: a :: st) ρ H Q := Run.lst (l := [a,b,e,f]) rfl (by omega) rfl h
theorem r_t {t e : List I} {b : Bool} (hb : b = true) (h : Run W d (t ++ k) st ρ H Q) : Run W d (.ite t e :: k) (.bool b :: st) ρ H Q := by subst hb; exact Run.ite h
theorem r_f {t e : List I} {b : Bool} (hb : b = false) (h : Run W d (e ++ k) st ρ H Q) : Run W d (.ite t e :: k) (.bool b :: st) ρ H Q := by subst hb; exact Run.ite h
theorem r_unp2 {a b : V} (h : Run W d k (a :: b :: st) ρ H Q) : Run W d (.unp 2 :: k) (.tup [a,b] :: st) ρ H Q := Run.unp (l := [a,b]) rfl h
theorem r_unp3 {a b c : V} (h : Run W d k (a :: b :: c :: st) ρ H Q) : Run W d (.unp 3 :: k) (.tup [a,b,c] :: st) ρ H Q := Run.unp (l := [a,b,c]) rfl h
theorem r_unp4 {a b c e : V} (h : Run W d k (a :: b :: c :: e :: st) ρ H Q) : Run W d (.unp 4 :: k) (.tup [a,b,c,e] :: st) ρ H Q := Run.unp (l := [a,b,c,e]) rfl h
theorem r_sto {i : Nat} {v : V} (hi : Nat.blt i ρ.length = true) (h : Run W d k st (ρ.set i (some v)) H Q) : Run W d (.sto i :: k) (v :: st) ρ H Q := Run.sto (Nat.le_of_ble_eq_true hi) h
end
local macro_rules | `(tactic| walk_at "ne") => `(tactic| first
 | assumption
 | (apply ne_new <;> assumption)
 | (apply Ne.symm; apply ne_new <;> assumption)
 | exact ne_kd (by assumption) (by assumption) rfl)
local macro_rules | `(tactic| walk_at "h") => `(tactic| first
 | assumption
 | exact setF_same
 | (apply at_ne; (walk_at "h"); (walk_at "ne")))
local macro_rules | `(tactic| walk_at "n") => `(tactic| first
 | omega
 | (simp only [List.length_map,List.length_append,List.length_cons,List.length_nil,List.length_replicate,List.length_set]; omega))
local macro_rules | `(tactic| walk_at "r1") => `(tactic| first
 | refine Run.loc rfl ?_
 | refine Run.lit ?_
 | (apply r_attr; (walk_at "h"); (rfl); (first | rfl | assumption))
 | refine Run.chk ?_
 | refine Run.notb ?_
 | refine Run.neg ?_
 | refine Run.pop ?_
 | (refine r_sto rfl ?_; try simp only [List.set_cons_succ,List.set_cons_zero])
 | refine r_add ?_
 | refine r_sub ?_
 | refine r_lt ?_
 | refine r_le ?_
 | refine r_gt ?_
 | refine r_ge ?_
 | refine r_eq ?_
 | refine r_ne ?_
 | refine r_eqs ?_
 | refine r_nes ?_
 | refine r_is ?_
 | refine r_isnt ?_
 | refine r_klt ?_
 | refine r_kle ?_
 | refine r_max ?_
 | refine r_min ?_
 | (refine r_idxT rfl rfl ?_)
 | refine r_tup0 ?_
 | refine r_tup1 ?_
 | refine r_tup2 ?_
 | refine r_tup3 ?_
 | refine r_tup4 ?_
 | refine r_tup5 ?_
 | refine r_unp2 ?_
 | refine r_unp3 ?_
 | refine r_unp4 ?_
 | (apply r_mth; (walk_at "h"); (rfl))
 | (apply r_len; (walk_at "h"); (walk_at "n"))
 | (apply r_lenT; (walk_at "n"))
 | (refine r_t rfl ?_; try simp only [List.cons_append,List.nil_append])
 | (refine r_f rfl ?_; try simp only [List.cons_append,List.nil_append]))
local macro_rules | `(tactic| walk_at "r") => `(tactic| repeat walk_at "r1")
local macro_rules | `(tactic| walk_at "c") => `(tactic| ((try simp only [List.cons_append,List.nil_append]); walk_at "r"))
def pn : Nat → V
 | 1 => .tup [.int 1,.int 3,.int (-1),.int (-1),.int 0]
 | 2 => .tup [.int 4,.int (-1),.int (-1),.int 5,.int 0]
 | _ => .tup [.int 0,.int (-1),.int (-1),.int (-1),.int 0]
def pd : Nat → PyData
 | 1 => .tuple [.int 1,.int 3,.int (-1),.int (-1),.int 0]
 | 2 => .tuple [.int 4,.int (-1),.int (-1),.int 5,.int 0]
 | _ => .tuple [.int 0,.int (-1),.int (-1),.int (-1),.int 0]
theorem pn_shape (k : Nat) : ∃ a b c,pn k = .tup [.int a,.int b,.int (-1),.int c,.int 0] := by
 unfold pn; split <;> exact ⟨_,_,_,rfl⟩
structure Cell where
 cs : List Nat
 w : Nat
 k : Nat
deriving DecidableEq
def isV (l : List Nat) : List V := l.map fun (n : Nat) => V.int (n : Int)
def isD (l : List Nat) : List PyData := l.map fun (n : Nat) => PyData.int (n : Int)
def Cell.v (c : Cell) : V := .tup [.tup (isV c.cs),.int (c.w : Int),pn c.k,.bool false]
def Cell.d (c : Cell) : PyData := .tuple [.tuple (isD c.cs),.int (c.w : Int),pd c.k,.bool false]
def blank : Cell := ⟨[],1,0⟩
def half (k : Nat) : Cell := ⟨[],0,k⟩
theorem dat_ints {H : Hp} {n : Nat} : ∀ l : List Nat,DatAll H n (isV l) (isD l)
 | [] => .nil
 | _ :: l => .cons .int (dat_ints l)
theorem dat_pen {H : Hp} {n : Nat} (k : Nat) : Dat H (n + 1) (pn k) (pd k) := by
 unfold pn pd; split <;> exact .tup (.cons .int (.cons .int (.cons .int (.cons .int (.cons .int .nil)))))
theorem dat_cell {H : Hp} {n : Nat} (c : Cell) : Dat H (n + 2) c.v c.d := .tup (.cons (.tup (dat_ints _)) (.cons .int (.cons (dat_pen _) (.cons .bool .nil))))
theorem dat_cells {H : Hp} {n : Nat} : ∀ l : List Cell,DatAll H (n + 2) (l.map Cell.v) (l.map Cell.d)
 | [] => .nil
 | c :: l => .cons (dat_cell c) (dat_cells l)
def Cell.isB (c : Cell) : Bool := c.cs.isEmpty && c.w == 1
def Cell.isP (c : Cell) : Bool := c.cs.isEmpty && (c.w == 1 && (c.k != 1 && c.k != 2))
theorem eqv_pen (k : Nat) : PyData.eqv (pd k) (pd 0) = (k != 1 && k != 2) := by
 unfold pd
 split <;> simp [PyData.eqv,PyData.eqvAll]
 rename_i h1 h2; exact ⟨h1,h2⟩
theorem eqv_empty (l : List Nat) : PyData.eqv (.tuple (isD l)) (.tuple []) = l.isEmpty := by
 cases l <;> simp [PyData.eqv,PyData.eqvAll,isD]
theorem ofInt_beq (a b : Nat) : ((a : Int) == (b : Int)) = (a == b) := by rw [Bool.eq_iff_iff]; simp; omega
theorem eqv_plain (c : Cell) : PyData.eqv c.d blank.d = c.isP := by
 unfold Cell.d Cell.isP blank
 simp only [PyData.eqv,PyData.eqvAll]
 have e1 := eqv_empty c.cs
 have e2 := eqv_pen c.k
 simp only [PyData.eqv] at e1
 rw [show isD [] = [] from rfl,e1,e2,show ((c.w : Int) == ((1 : Nat) : Int)) = (c.w == 1) from ofInt_beq _ _]
 simp
def newL (l : List V) (H : Hp) : V → Hp → Prop := fun x H' => ∃ c,x = .ref c ∧ H c = none ∧ H' c = some (.list l) ∧ Ext H H'
section
variable {W : Wx} {H : Hp}
theorem sp_clamp (v lo hi : Int) : CallW W 1 (.ref 62) [.int v,.int lo,.int hi] H (is (.int (max lo (min v hi))) H) := by
 refine in_62 _ _ _ ?_
 unfold cd_62
 walk_at "r"
 exact Run.ret ⟨rfl,rfl⟩
theorem sp_erased (k : Nat) : CallW W 1 (.ref 69) [pn k] H (is (pn 0) H) := by
 refine in_69 _ ?_
 unfold cd_69
 obtain ⟨a,b,c,e⟩ := pn_shape k
 rw [e]
 walk_at "r"
 exact Run.ret ⟨rfl,rfl⟩
theorem sp_blank (k : Nat) : CallW W 2 (.ref 76) [pn k] H (is blank.v H) := by
 refine in_76 _ ?_
 unfold cd_76
 walk_at "r"
 refine r_call1 ((sp_erased k).tu rfl) rfl ?_
 rintro _ _ ⟨rfl,rfl⟩
 walk_at "r"
 exact Run.ret ⟨rfl,rfl⟩
theorem sp_isblank (c : Cell) : CallW W 1 (.ref 83) [c.v] H (is (.bool c.isB) H) := by
 refine in_83 _ ?_
 unfold cd_83 Cell.v
 walk_at "r"
 refine r_eqD (n := 1) (m := 1) (.tup (dat_ints _)) (.tup .nil) (by omega) (by omega) (eqv_empty _) ?_
 walk_at "r"
 cases q : c.cs.isEmpty with
 | true =>
  refine r_t rfl ?_
  simp only [List.cons_append,List.nil_append]
  walk_at "r"
  refine Run.ret ⟨?_,rfl⟩
  unfold Cell.isB
  rw [q,show ((c.w : Int) == 1) = (c.w == 1) from ofInt_beq _ 1]; rfl
 | false =>
  refine r_f rfl ?_
  simp only [List.cons_append,List.nil_append]
  walk_at "r"
  refine Run.ret ⟨?_,rfl⟩
  unfold Cell.isB
  rw [q]; rfl
theorem sp_isplain (c : Cell) : CallW W 1 (.ref 90) [c.v] H (is (.bool c.isP) H) := by
 refine in_90 _ ?_
 unfold cd_90
 walk_at "r"
 refine r_eqD (n := 2) (m := 2) (dat_cell c) (dat_cell blank) (by omega) (by omega) (eqv_plain c) ?_
 exact Run.ret ⟨rfl,rfl⟩
theorem sp_half (c : Cell) : CallW W 1 (.ref 105) [c.v] H (is (half c.k).v H) := by
 refine in_105 _ ?_
 unfold cd_105 Cell.v
 walk_at "r"
 exact Run.ret ⟨rfl,rfl⟩
theorem sp_blanks (n : Int) (k : Nat) (hn : n ≤ 1000) : CallW W 3 (.ref 98) [.int n,pn k] H (newL (List.replicate n.toNat blank.v) H) := by
 refine in_98 _ _ ?_
 unfold cd_98
 walk_at "r"
 refine r_call1 ((sp_blank k).tu rfl) rfl ?_
 rintro _ _ ⟨rfl,rfl⟩
 refine r_lst1 fun c hc => ?_
 walk_at "r"
 refine r_mulL setF_same (by omega) fun c' hc' => ?_
 refine Run.ret ⟨c',rfl,?_,?_,?_⟩
 ·unfold setF at hc'; split at hc'; · cases hc'
  ·exact hc'
 ·rw [setF_same,show (max 0 n).toNat = n.toNat by omega]
 ·exact (Ext.new hc).trans (Ext.new hc')
theorem sp_linepart {a : Addr} {cs : List Cell} {i : Int} (e : H a = some (.list (cs.map Cell.v))) (hl : cs.length ≤ 1000) (hi : -1000 ≤ i ∧ i ≤ 1000) (hw : ∀ (j : Nat) c,i = j → cs[j]? = some c → c.w ≠ 0) :
  CallW W 1 (.ref 112) [.ref a,.int i] H (is .none H) := by
 refine in_112 _ _ ?_
 unfold cd_112
 walk_at "r"
 have fin : ∀ {k : List I},Run W 0 [] [] [some (.ref a),some (.int i)] H (behind (is .none H)) := Run.nil ⟨rfl,rfl⟩
 by_cases h0 : 0 < i
 ·refine r_t (decide_eq_true h0) ?_
  simp only [List.cons_append,List.nil_append]
  walk_at "r"
  by_cases h1 : i < cs.length
  ·refine r_t (decide_eq_true (by simpa using h1)) ?_
   simp only [List.cons_append,List.nil_append]
   obtain ⟨j,rfl⟩ := Int.eq_ofNat_of_zero_le (Int.le_of_lt h0)
   obtain ⟨c,hc⟩ : ∃ c,cs[j]? = some c := ⟨cs[j]'(by omega),List.getElem?_eq_getElem (by omega)⟩
   have hw' := hw j c rfl hc
   walk_at "r"
   refine r_idx e hi (x := c.v) (by unfold at?; rw [if_neg (by omega)]; simp [hc]) ?_
   unfold Cell.v
   walk_at "r"
   refine r_f (by simp; omega) ?_
   simp only [List.nil_append]
   exact Run.nil ⟨rfl,rfl⟩
  ·refine r_f (decide_eq_false (by simpa using h1)) ?_
   walk_at "c"
   exact Run.nil ⟨rfl,rfl⟩
 ·refine r_f (decide_eq_false h0) ?_
  walk_at "c"
  exact Run.nil ⟨rfl,rfl⟩
end
structure Ln where
 a : Nat
 c : Nat
 cells : List Cell
 wr : Bool
def lf (c : Nat) (wr : Bool) : List (Nat × V) := [(0,.ref c),(1,.bool wr),(2,.str (S "single"))]
structure LnAt (H : Hp) (l : Ln) : Prop where
 o : H l.a = some (.inst 251 (lf l.c l.wr))
 cs : H l.c = some (.list (l.cells.map Cell.v))
theorem LnAt.ext {H H' : Hp} {l : Ln} (h : LnAt H l) (e : Ext H H') : LnAt H' l := ⟨e _ _ h.o,e _ _ h.cs⟩
def newLn (n : Nat) (H : Hp) : V → Hp → Prop := fun x H' => ∃ l : Ln,x = .ref l.a ∧ H l.a = none ∧ H l.c = none ∧ LnAt H' l ∧ l.cells = List.replicate n blank ∧ l.wr = false ∧ Ext H H'
def putC (cs : List Cell) (j : Nat) (c : Cell) : List Cell := if c.w = 2 then (cs.set j c).set (j + 1) (half c.k) else cs.set j c
theorem map_set (cs : List Cell) (j : Nat) (c : Cell) : (cs.map Cell.v).set j c.v = (cs.set j c).map Cell.v := by rw [List.map_set]
section
variable {W : Wx} {H : Hp}
theorem sp_Line_init {a : Nat} (n : Nat) (k : Nat) (hn : n ≤ 1000) (e : H a = some (.inst 251 [])) :
  CallW W 4 (.ref 140) [.ref a,.int n,pn k] H fun x H' => x = .none ∧ ∃ c,H c = none ∧ H' a = some (.inst 251 (lf c false)) ∧ H' c = some (.list ((List.replicate n blank).map Cell.v)) ∧ ∀ b m,b ≠ a → H b = some m → H' b = some m := by
 refine in_140 _ _ _ ?_
 unfold cd_140
 walk_at "r"
 refine r_call2 ((sp_blanks n k (by omega)).tu rfl) rfl ?_
 rintro _ H1 ⟨c,rfl,hc,hc1,hE⟩
 have ca : c ≠ a := fun z => by rw [z,e] at hc; cases hc
 walk_at "r"
 refine r_sattr (hE _ _ e) rfl rfl ?_
 walk_at "r"
 refine r_sattr setF_same rfl rfl ?_
 walk_at "r"
 refine r_sattr setF_same rfl rfl ?_
 rw [setF_setF,setF_setF]
 refine Run.nil ⟨rfl,c,hc,setF_same,?_,fun b m hb hm => ?_⟩
 ·rw [setF_ne ca,hc1,List.map_replicate,Int.toNat_natCast]
 ·rw [setF_ne hb]; exact hE _ _ hm
theorem sp_newLine (n : Nat) (k : Nat) (hn : n ≤ 1000) : CallW W 5 (.ref 251) [.int n,pn k] H (newLn n H) := by
 refine call_cls (f := 140) (by decide) fun a ha => (sp_Line_init n k hn setF_same).mono ?_
 rintro _ H' ⟨rfl,c,hc,h1,h2,h3⟩
 have ca : c ≠ a := fun z => by rw [z,setF_same] at hc; cases hc
 refine ⟨rfl,⟨a,c,List.replicate n blank,false⟩,rfl,ha,?_,⟨h1,h2⟩,rfl,rfl,fun b m hm => h3 b m (ne_new hm ha) (Ext.new ha _ _ hm)⟩
 rw [setF_ne ca] at hc; exact hc
theorem sp_part {l : Ln} {i : Int} (h : LnAt H l) (hl : l.cells.length ≤ 1000) (hi : -1000 ≤ i ∧ i ≤ 1000) (hw : ∀ (j : Nat) c,i = j → l.cells[j]? = some c → c.w ≠ 0) :
  CallW W 2 (.ref 162) [.ref l.a,.int i] H (is .none H) := by
 refine in_162 _ _ ?_
 unfold cd_162
 obtain ⟨h1,h2⟩ := h
 unfold lf at h1
 walk_at "r"
 refine r_call2 ((sp_linepart h2 hl hi hw).tu rfl) rfl ?_
 rintro _ _ ⟨rfl,rfl⟩
 walk_at "r"
 exact Run.nil ⟨rfl,rfl⟩
theorem sp_put {l : Ln} {j : Nat} {c : Cell} (h : LnAt H l) (hl : l.cells.length ≤ 500) (hc : c.w = 1 ∨ c.w = 2) (hj : j + c.w ≤ l.cells.length) (h1 : ∀ c',l.cells[j]? = some c' → c'.w ≠ 0) (h2 : ∀ c',l.cells[j + c.w]? = some c' → c'.w ≠ 0) :
  CallW W 3 (.ref 169) [.ref l.a,.int j,c.v] H (is .none (setF H l.c (.list ((putC l.cells j c).map Cell.v)))) := by
 refine in_169 _ _ _ ?_
 unfold cd_169
 have ho := h.o
 have hcs := h.cs
 unfold lf at ho
 have hlen : (l.cells.map Cell.v).length = l.cells.length := List.length_map ..
 walk_at "r"
 refine r_f (by simp; omega) ?_
 walk_at "c"
 refine r_f (by simp; omega) ?_
 walk_at "c"
 have p1 : ∀ (j' : Nat) c',(j : Int) = j' → l.cells[j']? = some c' → c'.w ≠ 0 := by
  intro j' c' q hc'
  have : j' = j := by omega
  subst this; exact h1 c' hc'
 have p2 : ∀ (j' : Nat) c',(j : Int) + (c.w : Int) = j' → l.cells[j']? = some c' → c'.w ≠ 0 := by
  intro j' c' q hc'
  have : j' = j + c.w := by omega
  subst this; exact h2 c' hc'
 have put1 : ∀ {k : List I} {Q : Out → Prop},Run W 2 k [] [some (.ref l.a),some (.int j),some c.v] (setF H l.c (.list ((l.cells.set j c).map Cell.v))) Q →
   Run W 2 (.call 2 :: .pop :: .loc 0 :: .mth 0 :: .loc 1 :: .loc 2 :: .lit (.int 1) :: .idx :: .bin .Add :: .call 2 :: .pop :: .loc 2 :: .loc 0 :: .attr 0 :: .loc 1 :: .sidx :: k) [.int j,.ref l.a,.raw (.ref 162)] [some (.ref l.a),some (.int j),some c.v] H Q := fun {k Q} r => by
  refine r_call2 ((sp_part h (by omega) (by omega) p1).tu rfl) rfl ?_
  rintro _ _ ⟨rfl,rfl⟩
  walk_at "r"
  refine r_call2 ((sp_part h (i := (j : Int) + (c.w : Int)) (by omega) (by omega) p2).tu rfl) rfl ?_
  rintro _ _ ⟨rfl,rfl⟩
  walk_at "r"
  refine r_sidx hcs (by omega) (by omega) (by omega) ?_
  rw [← map_set] at r
  exact r
 rcases hc with hw | hw
 ·refine r_f (by simp [hw]) ?_
  walk_at "c"
  refine put1 ?_
  walk_at "r"
  refine r_f (by simp [hw]) ?_
  refine Run.nil ⟨rfl,?_⟩
  rw [show putC l.cells j c = l.cells.set j c by unfold putC; rw [if_neg (by omega)]]
 ·refine r_t (by simp [hw]) ?_
  walk_at "c"
  refine r_f (by simp; omega) ?_
  walk_at "c"
  refine put1 ?_
  have ac : l.a ≠ l.c := ne_kd ho hcs rfl
  walk_at "r"
  refine r_t (by simp [hw]) ?_
  walk_at "c"
  refine r_call1 ((sp_half c).tu rfl) rfl ?_
  rintro _ _ ⟨rfl,rfl⟩
  walk_at "r"
  refine r_sidx setF_same (by omega) (by simp; omega) (by simp; omega) ?_
  refine Run.nil ⟨rfl,?_⟩
  rw [setF_setF,show putC l.cells j c = (l.cells.set j c).set (j + 1) (half c.k) by unfold putC; rw [if_pos hw]]
  have e : ((j : Int) + 1).toNat = j + 1 := by omega
  rw [e]
  exact congrArg (fun x => setF H l.c (.list x)) (map_set _ _ _)
theorem strOk_single : PyData.strOk (S "single") = true := by decide +kernel
theorem dat_line {l : Ln} (h : LnAt H l) : Dat H 4 (.tup [.ref l.c,.bool l.wr,.str (S "single")]) (.tuple [.list (l.cells.map Cell.d),.bool l.wr,.str (S "single")]) :=
 .tup (.cons (.list h.cs (dat_cells _)) (.cons .bool (.cons (.str strOk_single) .nil)))
theorem sp_Line_equals {l m : Ln} (h : LnAt H l) (h' : LnAt H m) (e : l.cells = m.cells) (e' : l.wr = m.wr) : CallW W 1 (.ref 248) [.ref l.a,.ref m.a] H (is (.bool true) H) := by
 refine in_248 _ _ ?_
 unfold cd_248
 have ho := h.o
 have hm := h'.o
 unfold lf at ho hm
 walk_at "r"
 refine r_eqD (dat_line h) (dat_line h') (by omega) (by omega) (b := true) ?_ ?_
 ·rw [e,e']; exact (dat_line h').eqv_self
 ·exact Run.ret ⟨rfl,rfl⟩
end
structure Scr where
 sc : Nat
 gr : Nat
 gl : Nat
 hi : Nat
 hl : Nat
 cu : Nat
 ma : Nat
 ch : Nat
 md : Nat
 nm : Nat
 mo : Nat
 st : Nat
 kp : Nat
 wt : Nat
 wd : Nat
 mkr : Nat
 jn : Nat
 tb : Nat
 sp : Nat
 la : Nat
 rows : Nat
 cols : Nat
 hist : List Ln
 grid : List Ln
 row : Nat
 col : Nat
 wait : Bool
 pen : Nat
namespace Scr
def all (s : Scr) : List Ln := s.hist ++ s.grid
def scF (s : Scr) : List (Nat × V) := [(3,.int s.rows),(4,.int s.cols),(31,.ref s.mo),(32,.ref s.wt),(33,.ref s.hi),(34,.ref s.gr),(35,.ref s.cu),(36,.ref s.ma),(37,.ref s.tb),(38,.ref s.ch),(39,.none),(40,.ref s.la),(41,.bool false)]
def grF (s : Scr) : List (Nat × V) := [(3,.int s.rows),(4,.int s.cols),(5,.ref s.gl)]
def hiF (s : Scr) : List (Nat × V) := [(6,.int 400),(5,.ref s.hl),(7,.int 0)]
def cuF (s : Scr) : List (Nat × V) := [(11,.int s.row),(12,.int s.col),(13,.bool s.wait),(25,pn s.pen),(26,.bool false),(27,.bool false)]
def maF (s : Scr) : List (Nat × V) := [(3,.int s.rows),(4,.int s.cols),(28,.int 0),(29,.int ((s.rows : Int) - 1)),(22,.int 0),(23,.int ((s.cols : Int) - 1))]
def chF (s : Scr) : List (Nat × V) := [(20,.ref s.md),(21,.ref s.nm),(22,.int 0),(23,.int 2),(24,.none)]
def moF (s : Scr) : List (Nat × V) := [(18,.ref s.st),(19,.ref s.kp)]
def wtF (s : Scr) : List (Nat × V) := [(15,.ref s.wd),(16,.ref s.mkr),(17,.ref s.jn)]
def tbF (s : Scr) : List (Nat × V) := [(4,.int s.cols),(30,.ref s.sp)]
def foot (s : Scr) : List Nat := [s.sc,s.cu,s.md,s.gr,s.hl,s.tb] ++ (s.all.map (·.a) ++ s.all.map (·.c))
end Scr
def onL : List (Str × V) := [(S "send_receive",.bool true),(S "autowrap",.bool true),(S "autorepeat",.bool true),(S "show_cursor",.bool true),(S "num_lock",.bool true)]
def nmL : List V := [.bytes #[66],.bytes #[66],.bytes #[37,53],.bytes #[37,53]]
def refs (l : List Ln) : List V := l.map fun x => .ref x.a
structure Is (H : Hp) (s : Scr) : Prop where
 sc : H s.sc = some (.inst 1485 s.scF)
 gr : H s.gr = some (.inst 396 s.grF)
 gl : H s.gl = some (.list (refs s.grid))
 hi : H s.hi = some (.inst 478 s.hiF)
 hl : H s.hl = some (.list (refs s.hist))
 cu : H s.cu = some (.inst 976 s.cuF)
 ma : H s.ma = some (.inst 1109 s.maF)
 ch : H s.ch = some (.inst 920 s.chF)
 md : H s.md = some (.dict []) ∨ ∃ e,H s.md = some (.dictB [([66],.ref e)]) ∧ H e = some (.dict [])
 nm : H s.nm = some (.list nmL)
 mo : H s.mo = some (.inst 792 s.moF)
 st : H s.st = some (.dict onL)
 wt : H s.wt = some (.inst 716 s.wtF)
 wd : H s.wd = some (.list [.tup [.int 19968,.int 20223]])
 mkr : H s.mkr = some (.list [.tup [.int 768,.int 879]])
 tb : H s.tb = some (.inst 1208 s.tbF)
 sp : H s.sp = some (.dict [])
 ln : ∀ l ∈ s.all,LnAt H l
 sep : ∀ l ∈ s.all,l.c ∉ [s.gl,s.hl,s.nm,s.wd,s.mkr]
 hs : s.hl ∉ [s.gl,s.nm,s.wd,s.mkr]
 nda : (s.all.map (·.a)).Nodup
 ndc : (s.all.map (·.c)).Nodup
 ms : s.md ≠ s.st ∧ s.md ≠ s.sp
 wid : ∀ l ∈ s.all,l.cells.length = s.cols
 rwb : 1 ≤ s.rows ∧ s.rows ≤ 4
 cl : 2 ≤ s.cols ∧ s.cols ≤ 7
 gn : s.grid.length = s.rows
 hn : s.hist.length ≤ 300
 rb : s.row < s.rows
 cb : s.col < s.cols
structure Frm (s : Scr) (H : Hp) (s' : Scr) (H' : Hp) : Prop where
 keep : ∀ a m,H a = some m → a ∉ s.foot → H' a = some m
 new : ∀ a ∈ s'.foot,a ∈ s.foot ∨ H a = none
theorem Frm.refl {s : Scr} {H : Hp} : Frm s H s H := ⟨fun _ _ h _ => h,fun _ h => .inl h⟩
theorem Frm.trans {s s' s'' : Scr} {H H' H'' : Hp} (f : Frm s H s' H') (g : Frm s' H' s'' H'') : Frm s H s'' H'' := by
 have back : ∀ a,H' a = none → a ∈ s.foot ∨ H a = none := fun a e => by
  cases q : H a with
  | none => exact .inr rfl
  | some m => exact .inl (Classical.byContradiction fun z => by rw [f.keep a m q z] at e; cases e)
 refine ⟨fun a m h z => g.keep a m (f.keep a m h z) fun z' => ?_,fun a h => ?_⟩
 ·rcases f.new a z' with q | q
  ·exact z q
  ·rw [q] at h; cases h
 ·rcases g.new a h with q | q
  ·exact f.new a q
  ·exact back a q
theorem Frm.ext {s : Scr} {H H' : Hp} (e : Ext H H') : Frm s H s H' := ⟨fun a m h _ => e a m h,fun _ h => .inl h⟩
theorem Frm.set {s s' : Scr} {H : Hp} {a : Nat} {m : MO} (h : a ∈ s.foot) (e : s'.foot = s.foot) : Frm s H s' (setF H a m) :=
 ⟨fun b x hb z => at_ne hb fun q => z (q ▸ h),fun b hb => .inl (e ▸ hb)⟩
theorem setF_self {H : Hp} {a : Addr} {m : MO} (h : H a = some m) : setF H a m = H := by
 funext b; unfold setF; split
 ·rename_i q; subst q; exact h.symm
 ·rfl
namespace Is
variable {H : Hp} {s : Scr}
theorem ext {H' : Hp} (h : Is H s) (e : Ext H H') : Is H' s :=
 ⟨e _ _ h.sc,e _ _ h.gr,e _ _ h.gl,e _ _ h.hi,e _ _ h.hl,e _ _ h.cu,e _ _ h.ma,e _ _ h.ch,h.md.imp (e _ _) fun ⟨x,a,b⟩ => ⟨x,e _ _ a,e _ _ b⟩,e _ _ h.nm,e _ _ h.mo,e _ _ h.st,e _ _ h.wt,e _ _ h.wd,e _ _ h.mkr,e _ _ h.tb,e _ _ h.sp,
  fun l hl => (h.ln l hl).ext e,h.sep,h.hs,h.nda,h.ndc,h.ms,h.wid,h.rwb,h.cl,h.gn,h.hn,h.rb,h.cb⟩
theorem setCu (h : Is H s) (r c : Nat) (w : Bool) (p : Nat) (hr : r < s.rows) (hc : c < s.cols) : Is (setF H s.cu (.inst 976 { s with row := r,col := c,wait := w,pen := p }.cuF)) { s with row := r,col := c,wait := w,pen := p } := by
 have n : ∀ {a m},H a = some m → (m.kd == 979) = false → setF H s.cu (.inst 976 { s with row := r,col := c,wait := w,pen := p }.cuF) a = some m := fun x y => at_ne x (ne_kd x h.cu y)
 exact ⟨n h.sc rfl,n h.gr rfl,n h.gl rfl,n h.hi rfl,n h.hl rfl,setF_same,n h.ma rfl,n h.ch rfl,h.md.imp (fun x => n x rfl) fun ⟨x,a,b⟩ => ⟨x,n a rfl,n b rfl⟩,n h.nm rfl,n h.mo rfl,n h.st rfl,n h.wt rfl,n h.wd rfl,n h.mkr rfl,n h.tb rfl,n h.sp rfl,
  fun l hl => ⟨n (h.ln l hl).o rfl,n (h.ln l hl).cs rfl⟩,h.sep,h.hs,h.nda,h.ndc,h.ms,h.wid,h.rwb,h.cl,h.gn,h.hn,hr,hc⟩
theorem setLa (h : Is H s) (x : Nat) : Is (setF H s.sc (.inst 1485 { s with la := x }.scF)) { s with la := x } := by
 have n : ∀ {a m},H a = some m → (m.kd == 1488) = false → setF H s.sc (.inst 1485 { s with la := x }.scF) a = some m := fun x y => at_ne x (ne_kd x h.sc y)
 exact ⟨setF_same,n h.gr rfl,n h.gl rfl,n h.hi rfl,n h.hl rfl,n h.cu rfl,n h.ma rfl,n h.ch rfl,h.md.imp (fun x => n x rfl) fun ⟨x,a,b⟩ => ⟨x,n a rfl,n b rfl⟩,n h.nm rfl,n h.mo rfl,n h.st rfl,n h.wt rfl,n h.wd rfl,n h.mkr rfl,n h.tb rfl,n h.sp rfl,
  fun l hl => ⟨n (h.ln l hl).o rfl,n (h.ln l hl).cs rfl⟩,h.sep,h.hs,h.nda,h.ndc,h.ms,h.wid,h.rwb,h.cl,h.gn,h.hn,h.rb,h.cb⟩
theorem setMd (h : Is H s) {e : Nat} (h0 : H s.md = some (.dict [])) (he : H e = some (.dict [])) (hne : s.md ≠ e) : Is (setF H s.md (.dictB [([66],.ref e)])) s := by
 have n : ∀ {a m},H a = some m → (m.kd == 1) = false → setF H s.md (.dictB [([66],.ref e)]) a = some m := fun x y => at_ne x (ne_kd x h0 y)
 exact ⟨n h.sc rfl,n h.gr rfl,n h.gl rfl,n h.hi rfl,n h.hl rfl,n h.cu rfl,n h.ma rfl,n h.ch rfl,.inr ⟨e,setF_same,at_ne he hne.symm⟩,n h.nm rfl,n h.mo rfl,at_ne h.st h.ms.1.symm,n h.wt rfl,n h.wd rfl,n h.mkr rfl,n h.tb rfl,at_ne h.sp h.ms.2.symm,
  fun l hl => ⟨n (h.ln l hl).o rfl,n (h.ln l hl).cs rfl⟩,h.sep,h.hs,h.nda,h.ndc,h.ms,h.wid,h.rwb,h.cl,h.gn,h.hn,h.rb,h.cb⟩
end Is
theorem ndup_ne {α β : Type} {f : α → β} {l : List α} {i j : Nat} {x y : α} (h : (l.map f).Nodup) (hi : l[i]? = some x) (hj : l[j]? = some y) (ne : i ≠ j) : f x ≠ f y := fun q => by
 have a : (l.map f)[i]? = some (f x) := by simp [hi]
 have b : (l.map f)[j]? = some (f x) := by simp [hj,q]
 obtain ⟨li,ei⟩ := List.getElem?_eq_some_iff.mp a
 obtain ⟨lj,ej⟩ := List.getElem?_eq_some_iff.mp b
 exact ne ((List.getElem_inj h).mp (ei.trans ej.symm))
def Scr.setL (s : Scr) (i : Nat) (l : Ln) : Scr := { s with hist := s.hist.set i l,grid := if i < s.hist.length then s.grid else s.grid.set (i - s.hist.length) l }
theorem Scr.all_setL (s : Scr) (i : Nat) (l : Ln) : (s.setL i l).all = s.all.set i l := by
 unfold Scr.setL Scr.all
 simp only
 rw [List.set_append]
 by_cases h : i < s.hist.length
 ·rw [if_pos h,if_pos h]
 ·rw [if_neg h,if_neg h,List.set_eq_of_length_le (by omega)]
theorem map_set_same {α β : Type} {f : α → β} {l : List α} {i : Nat} {x y : α} (h : l[i]? = some x) (e : f y = f x) : (l.set i y).map f = l.map f := by
 rw [List.map_set,e]
 apply List.ext_getElem?
 intro j
 rw [List.getElem?_set]
 split
 ·rename_i q; subst q
  obtain ⟨lt,e⟩ := List.getElem?_eq_some_iff.mp h
  simp [lt,e]
 ·rfl
theorem mem_set {α : Type} {l : List α} {i : Nat} {y z : α} (h : z ∈ l.set i y) : z = y ∨ ∃ j,j ≠ i ∧ l[j]? = some z := by
 obtain ⟨j,hj⟩ := List.getElem?_of_mem h
 rw [List.getElem?_set] at hj
 split at hj
 ·split at hj
  ·cases hj; exact .inl rfl
  ·cases hj
 ·rename_i q; exact .inr ⟨j,fun z => q z.symm,hj⟩
namespace Is
variable {H : Hp} {s : Scr}
theorem refs_setL (h : Is H s) {i : Nat} {l : Ln} {cs : List Cell} {w : Bool} (hi : s.all[i]? = some l) :
  refs (s.setL i { l with cells := cs,wr := w }).hist = refs s.hist ∧ refs (s.setL i { l with cells := cs,wr := w }).grid = refs s.grid := by
 unfold Scr.setL Scr.all at *
 by_cases q : i < s.hist.length
 ·rw [List.getElem?_append_left q] at hi
  refine ⟨map_set_same hi rfl,?_⟩
  simp only [if_pos q]
 ·rw [List.getElem?_append_right (by omega)] at hi
  refine ⟨by simp only; rw [List.set_eq_of_length_le (by omega)],?_⟩
  simp only [if_neg q]
  exact map_set_same hi rfl
theorem put_fix (h : Is H s) {H' : Hp} {i : Nat} {l : Ln} {cs : List Cell} {w : Bool} (hi : s.all[i]? = some l) (hcs : cs.length = s.cols)
  (k : ∀ a m,H a = some m → m.kd ≠ 254 → a ≠ l.c → H' a = some m) (k2 : ∀ j y,j ≠ i → s.all[j]? = some y → H' y.a = H y.a) (hl : LnAt H' { l with cells := cs,wr := w }) : Is H' (s.setL i { l with cells := cs,wr := w }) := by
 have hm : l ∈ s.all := List.mem_of_getElem? hi
 have hc := (h.ln l hm).cs
 have nk : ∀ {a m},H a = some m → (m.kd == 0) = false → m.kd ≠ 254 → H' a = some m := fun x y z => k _ _ x z (ne_kd x hc y)
 have sep := h.sep l hm
 simp only [List.mem_cons,List.not_mem_nil,or_false,not_or] at sep
 obtain ⟨e1,e2,e3,e4,e5⟩ := sep
 obtain ⟨r1,r2⟩ := h.refs_setL hi (cs := cs) (w := w)
 have g : (s.setL i { l with cells := cs,wr := w }).grid.length = s.grid.length := by have := congrArg List.length r2; simpa [refs] using this
 have g' : (s.setL i { l with cells := cs,wr := w }).hist.length = s.hist.length := by have := congrArg List.length r1; simpa [refs] using this
 have ea : ((s.setL i { l with cells := cs,wr := w }).all.map (·.a)) = s.all.map (·.a) := by rw [Scr.all_setL]; exact map_set_same hi rfl
 have ec : ((s.setL i { l with cells := cs,wr := w }).all.map (·.c)) = s.all.map (·.c) := by rw [Scr.all_setL]; exact map_set_same hi rfl
 have mm : ∀ y ∈ (s.setL i { l with cells := cs,wr := w }).all,y = { l with cells := cs,wr := w } ∨ ∃ j,j ≠ i ∧ s.all[j]? = some y := fun y hy => by rw [Scr.all_setL] at hy; exact mem_set hy
 refine ⟨nk h.sc rfl (by simp [MO.kd]),nk h.gr rfl (by simp [MO.kd]),?_,nk h.hi rfl (by simp [MO.kd]),?_,nk h.cu rfl (by simp [MO.kd]),nk h.ma rfl (by simp [MO.kd]),nk h.ch rfl (by simp [MO.kd]),h.md.imp (fun x => nk x rfl (by simp [MO.kd])) fun ⟨x,a,b⟩ => ⟨x,nk a rfl (by simp [MO.kd]),nk b rfl (by simp [MO.kd])⟩,k _ _ h.nm (by simp [MO.kd]) (Ne.symm e3),nk h.mo rfl (by simp [MO.kd]),nk h.st rfl (by simp [MO.kd]),nk h.wt rfl (by simp [MO.kd]),k _ _ h.wd (by simp [MO.kd]) (Ne.symm e4),k _ _ h.mkr (by simp [MO.kd]) (Ne.symm e5),nk h.tb rfl (by simp [MO.kd]),nk h.sp rfl (by simp [MO.kd]),
  fun y hy => ?_,fun y hy => ?_,h.hs,by rw [ea]; exact h.nda,by rw [ec]; exact h.ndc,h.ms,fun y hy => ?_,h.rwb,h.cl,g.trans h.gn,by rw [g']; exact h.hn,h.rb,h.cb⟩
 ·rw [r2]; exact k _ _ h.gl (by simp [MO.kd]) (Ne.symm e1)
 ·rw [r1]; exact k _ _ h.hl (by simp [MO.kd]) (Ne.symm e2)
 ·rcases mm y hy with rfl | ⟨j,hj,hy⟩
  ·exact hl
  ·have hmy : y ∈ s.all := List.mem_of_getElem? hy
   exact ⟨(k2 j y hj hy).trans (h.ln y hmy).o,k _ _ (h.ln y hmy).cs (by simp [MO.kd]) (ndup_ne (f := fun x : Ln => x.c) h.ndc hy hi hj)⟩
 ·rcases mm y hy with rfl | ⟨j,hj,hy⟩
  ·exact h.sep l hm
  ·exact h.sep y (List.mem_of_getElem? hy)
 ·rcases mm y hy with rfl | ⟨j,hj,hy⟩
  ·exact hcs
  ·exact h.wid y (List.mem_of_getElem? hy)
theorem setCells (h : Is H s) {i : Nat} {l : Ln} (hi : s.all[i]? = some l) {cs : List Cell} (hcs : cs.length = s.cols) : Is (setF H l.c (.list (cs.map Cell.v))) (s.setL i { l with cells := cs }) := by
 have hl := h.ln l (List.mem_of_getElem? hi)
 exact h.put_fix (w := l.wr) hi hcs (fun a m x _ q => at_ne x q) (fun j y _ hy => setF_ne (ne_kd (h.ln y (List.mem_of_getElem? hy)).o hl.cs rfl)) ⟨at_ne hl.o (ne_kd hl.o hl.cs rfl),setF_same⟩
theorem setWr (h : Is H s) {i : Nat} {l : Ln} (hi : s.all[i]? = some l) (w : Bool) : Is (setF H l.a (.inst 251 (lf l.c w))) (s.setL i { l with wr := w }) := by
 have hl := h.ln l (List.mem_of_getElem? hi)
 refine h.put_fix (cs := l.cells) hi (h.wid l (List.mem_of_getElem? hi)) (fun a m x q _ => at_ne x fun z => ?_) (fun j y hj hy => setF_ne (ndup_ne (f := fun x : Ln => x.a) h.nda hy hi hj)) ⟨setF_same,at_ne hl.cs (ne_kd hl.cs hl.o rfl)⟩
 rw [z,hl.o] at x; cases x; exact q rfl
theorem foot_setL (h : Is H s) {i : Nat} {l : Ln} {cs : List Cell} {w : Bool} (hi : s.all[i]? = some l) : (s.setL i { l with cells := cs,wr := w }).foot = s.foot := by
 unfold Scr.foot
 rw [show (s.setL i { l with cells := cs,wr := w }).all.map (·.a) = s.all.map (·.a) by rw [Scr.all_setL]; exact map_set_same hi rfl,show (s.setL i { l with cells := cs,wr := w }).all.map (·.c) = s.all.map (·.c) by rw [Scr.all_setL]; exact map_set_same hi rfl]
 rfl
end Is
section
variable {W : Wx} {H : Hp} {s : Scr}
theorem r_eqBy {d : Nat} {k : List I} {st : List V} {ρ : Ro} {Q : Out → Prop} {a b : Array UInt8} (h : Run W d k (.bool (a.toList == b.toList) :: st) ρ H Q) : Run W d (.cmp .Eq :: k) (.bytes b :: .bytes a :: st) ρ H Q :=
 Run.cmp (R := is _ H) (OpW.two fun A s K X p q hA hS rx ry => by
  obtain ⟨t,rfl⟩ := Rep.bytes_iff.mp rx
  obtain ⟨u,rfl⟩ := Rep.bytes_iff.mp ry
  exact richCompare_gives (op := .Eq) (T := "bytes") rfl rfl FB.slot_bytes_eq FB.entry_bytes_eq (FB.args_bytes_eq_2 _ _) (gives_bytes_eq a b t u) (fun x => nomatch x) (post_same hS (Rep.bool_iff.mpr rfl) ⟨rfl,rfl⟩)) (by rintro _ _ ⟨rfl,rfl⟩; exact h)
theorem sp_in_ranges {a : Nat} {lo hi code : Int} (e : H a = some (.list [.tup [.int lo,.int hi]])) : CallW W 1 (.ref 678) [.ref a,.int code] H (is (.bool (decide (lo ≤ code) && decide (code ≤ hi))) H) := by
 refine in_678 _ _ ?_
 unfold cd_678
 walk_at "r"
 refine Run.whl (J := fun n ρ H' => H' = H ∧ ((n = 1 ∧ ρ = [some (.ref a),some (.int code),some (.int 0),some (.int 1),none]) ∨
   (n = 0 ∧ ((hi < code ∧ ρ = [some (.ref a),some (.int code),some (.int 1),some (.int 1),some (.int 0)]) ∨ (code ≤ hi ∧ ρ = [some (.ref a),some (.int code),some (.int 0),some (.int 0),some (.int 0)])))))
  (B := fun n ρ H' => H' = H ∧ n = 1 ∧ ρ = [some (.ref a),some (.int code),some (.int 0),some (.int 1),none])
  (N := fun ρ H' => H' = H ∧ ((hi < code ∧ ρ = [some (.ref a),some (.int code),some (.int 1),some (.int 1),some (.int 0)]) ∨ (code ≤ hi ∧ ρ = [some (.ref a),some (.int code),some (.int 0),some (.int 0),some (.int 0)])))
  (Z := fun _ _ => False) 1 ⟨rfl,.inl ⟨rfl,rfl⟩⟩ ?_ ?_ ?_ (fun _ _ z => z.elim)
 ·rintro n ρ _ ⟨rfl,⟨rfl,rfl⟩ | ⟨rfl,⟨h,rfl⟩ | ⟨h,rfl⟩⟩⟩
  ·walk_at "r"
   exact Run.nil ⟨rfl,rfl,rfl,rfl⟩
  ·walk_at "r"
   exact Run.nil ⟨rfl,rfl,.inl ⟨h,rfl⟩⟩
  ·walk_at "r"
   exact Run.nil ⟨rfl,rfl,.inr ⟨h,rfl⟩⟩
 ·rintro n ρ _ ⟨rfl,rfl,rfl⟩
  walk_at "r"
  refine r_fdiv (by decide) (by decide +kernel) ?_
  walk_at "r"
  refine r_idx e (by decide) (x := .tup [.int lo,.int hi]) rfl ?_
  walk_at "r"
  by_cases h : hi < code
  ·refine r_t (decide_eq_true h) ?_
   walk_at "c"
   exact Run.nil ⟨0,by omega,rfl,.inr ⟨rfl,.inl ⟨h,rfl⟩⟩⟩
  ·refine r_f (decide_eq_false h) ?_
   walk_at "c"
   exact Run.nil ⟨0,by omega,rfl,.inr ⟨rfl,.inr ⟨by omega,rfl⟩⟩⟩
 ·rintro ρ _ ⟨rfl,⟨h,rfl⟩ | ⟨h,rfl⟩⟩
  ·walk_at "r"
   refine Run.ret ⟨?_,rfl⟩
   rw [decide_eq_false (show ¬ code ≤ hi by omega),Bool.and_false]
  ·walk_at "r"
   refine r_idx e (by decide) (x := .tup [.int lo,.int hi]) rfl ?_
   walk_at "r"
   refine Run.ret ⟨?_,rfl⟩
   rw [decide_eq_true h,Bool.and_true]
def wOf (c : Int) : Int := if 768 ≤ c ∧ c ≤ 879 then 0 else if 19968 ≤ c ∧ c ≤ 20223 then 2 else 1
theorem sp_width_of (h : Is H s) (c : Int) : CallW W 2 (.ref 706) [.ref s.wt,.int c] H (is (.int (wOf c)) H) := by
 refine in_706 _ _ ?_
 unfold cd_706
 have h1 := h.wt
 unfold Scr.wtF at h1
 walk_at "r"
 refine r_call2 ((sp_in_ranges h.mkr).tu rfl) rfl ?_
 rintro _ _ ⟨rfl,rfl⟩
 walk_at "r"
 by_cases h2 : 768 ≤ c ∧ c ≤ 879
 ·refine r_t (by simp [h2]) ?_
  walk_at "c"
  exact Run.ret ⟨by unfold wOf; rw [if_pos h2],rfl⟩
 ·refine r_f (by simp; omega) ?_
  walk_at "c"
  refine r_call2 ((sp_in_ranges h.wd).tu rfl) rfl ?_
  rintro _ _ ⟨rfl,rfl⟩
  walk_at "r"
  by_cases h3 : 19968 ≤ c ∧ c ≤ 20223
  ·refine r_t (by simp [h3]) ?_
   walk_at "c"
   exact Run.ret ⟨by unfold wOf; rw [if_neg h2,if_pos h3],rfl⟩
  ·refine r_f (by simp; omega) ?_
   walk_at "c"
   exact Run.ret ⟨by unfold wOf; rw [if_neg h2,if_neg h3],rfl⟩
theorem sp_is_on (h : Is H s) (x : Str) : CallW W 1 (.ref 782) [.ref s.mo,.str x] H (is ((dAt x onL).getD (.bool false)) H) := by
 refine in_782 _ _ ?_
 unfold cd_782
 have h1 := h.mo
 unfold Scr.moF at h1
 walk_at "r"
 refine r_mget h.st ?_
 walk_at "r"
 refine r_dgets h.st rfl ?_
 exact Run.ret ⟨rfl,rfl⟩
theorem sp_ctable : CallW W 1 (.ref 831) [.bytes #[66]] H fun x H' => ∃ c,x = .ref c ∧ H c = none ∧ H' = setF H c (.dict []) := by
 refine in_831 _ ?_
 unfold cd_831
 walk_at "r"
 refine r_eqBy ?_
 walk_at "r"
 refine Run.dct0 fun c hc => ?_
 exact Run.ret ⟨c,rfl,hc,rfl⟩
theorem sp_table (h : Is H s) : CallW W 2 (.ref 853) [.ref s.ch,.bytes #[66]] H fun x H' => ∃ c,x = .ref c ∧ H' c = some (.dict []) ∧ Is H' s ∧ Frm s H s H' := by
 refine in_853 _ _ ?_
 unfold cd_853
 have h1 := h.ch
 unfold Scr.chF at h1
 walk_at "r"
 rcases h.md with m | ⟨e,m,m'⟩
 ·refine r_notin0 m ?_
  walk_at "r"
  refine r_call1 (sp_ctable.tu rfl) rfl ?_
  rintro _ _ ⟨c,rfl,hc,rfl⟩
  have hE : Ext H (setF H c (.dict [])) := Ext.new hc
  have h1' := hE _ _ h1
  have m' := hE _ _ m
  walk_at "r"
  refine r_bset0 m' ?_
  have mc : s.md ≠ c := ne_new m hc
  have hI := (h.ext hE).setMd m' setF_same mc
  have h2 := hI.ch
  unfold Scr.chF at h2
  simp only [List.cons_append,List.nil_append]
  walk_at "r"
  refine r_bidx (setF_same (f := setF H c (.dict []))) (x := .ref c) (by simp [dAt]) ?_
  refine Run.ret ⟨c,rfl,?_,hI,(Frm.ext hE).trans (Frm.set ?_ rfl)⟩
  ·exact at_ne setF_same mc.symm
  ·unfold Scr.foot; simp
 ·refine r_notinB m (b := false) (by simp [dAt]) ?_
  walk_at "r"
  refine r_bidx m (x := .ref e) (by simp [dAt]) ?_
  exact Run.ret ⟨e,rfl,m',h,.refl⟩
theorem sp_mapped (h : Is H s) (c : Int) : CallW W 3 (.ref 910) [.ref s.ch,.int c,.bool false] H fun x H' => x = .int c ∧ Is H' s ∧ Frm s H s H' := by
 refine in_910 _ _ _ ?_
 unfold cd_910
 have h1 := h.ch
 unfold Scr.chF at h1
 walk_at "r"
 refine r_sattr h1 rfl rfl ?_
 rw [setF_self (show H s.ch = some (.inst 920 (putF 24 .none [(20,.ref s.md),(21,.ref s.nm),(22,.int 0),(23,.int 2),(24,.none)])) from h1)]
 walk_at "r"
 by_cases h0 : 32 ≤ c
 ·refine r_t (decide_eq_true h0) ?_
  walk_at "c"
  by_cases h2 : c ≤ 127
  ·refine r_t (decide_eq_true h2) ?_
   walk_at "c"
   refine r_idx h.nm (by decide) (x := .bytes #[66]) rfl ?_
   refine r_call2 ((sp_table h).tu rfl) rfl ?_
   rintro _ H1 ⟨e,rfl,he,hI,hF⟩
   refine r_mget he ?_
   walk_at "r"
   refine r_dget0 he ?_
   exact Run.ret ⟨rfl,hI,hF⟩
  ·refine r_f (decide_eq_false h2) ?_
   walk_at "c"
   exact Run.ret ⟨rfl,h,.refl⟩
 ·refine r_f (decide_eq_false h0) ?_
  walk_at "c"
  exact Run.ret ⟨rfl,h,.refl⟩
end
theorem at_nat {l : List V} {i : Nat} {x : V} (h : l[i]? = some x) : at? l (i : Int) = some x := by unfold at?; rw [if_neg (by omega)]; simpa using h
theorem at_refs {ls : List Ln} {i : Nat} {l : Ln} (h : ls[i]? = some l) : at? (refs ls) (i : Int) = some (.ref l.a) := at_nat (by simp [refs,h])
def to (s : Scr) (H : Hp) (v : V) (P : Scr → Prop) : V → Hp → Prop := fun x H' => x = v ∧ ∃ s',Is H' s' ∧ Frm s H s' H' ∧ P s'
section
variable {W : Wx} {H : Hp} {s : Scr}
theorem Is.gridAt (h : Is H s) {i : Nat} (hi : i < s.rows) : ∃ l,s.grid[i]? = some l ∧ l ∈ s.all := by
 have := h.gn
 refine ⟨s.grid[i]'(by omega),List.getElem?_eq_getElem (by omega),?_⟩
 unfold Scr.all
 exact List.mem_append_right _ (List.getElem_mem _)
theorem sp_Gline (h : Is H s) {i : Nat} {l : Ln} (hl : s.grid[i]? = some l) : CallW W 1 (.ref 274) [.ref s.gr,.int i] H (is (.ref l.a) H) := by
 refine in_274 _ _ ?_
 unfold cd_274
 have h1 := h.gr
 unfold Scr.grF at h1
 have hi : i < s.rows := by have := (List.getElem?_eq_some_iff.mp hl).1; have := h.gn; omega
 walk_at "r"
 refine r_idx h.gl (by have := h.rwb; omega) (at_refs hl) ?_
 exact Run.ret ⟨rfl,rfl⟩
theorem sp_line (h : Is H s) {l : Ln} (hl : s.grid[s.row]? = some l) : CallW W 2 (.ref 1235) [.ref s.sc] H (is (.ref l.a) H) := by
 refine in_1235 _ ?_
 unfold cd_1235
 have h1 := h.sc
 have h2 := h.gr
 have h3 := h.cu
 unfold Scr.scF at h1
 unfold Scr.cuF at h3
 walk_at "r"
 refine r_call2 ((sp_Gline h hl).tu rfl) rfl ?_
 rintro _ _ ⟨rfl,rfl⟩
 exact Run.ret ⟨rfl,rfl⟩
theorem single_any : ([S "wide",S "top",S "bottom"] : List Str).any (· == S "single") = false := by decide +kernel
theorem sp_wol (h : Is H s) {i : Nat} (hi : i < s.rows) : CallW W 2 (.ref 1242) [.ref s.sc,.int i] H (is (.int s.cols) H) := by
 refine in_1242 _ _ ?_
 unfold cd_1242
 have h1 := h.sc
 have h2 := h.gr
 unfold Scr.scF at h1
 obtain ⟨l,hl,hm⟩ := h.gridAt hi
 have h3 := (h.ln l hm).o
 unfold lf at h3
 walk_at "r"
 refine r_call2 ((sp_Gline h hl).tu rfl) rfl ?_
 rintro _ _ ⟨rfl,rfl⟩
 walk_at "r"
 refine r_inS (l := [S "wide",S "top",S "bottom"]) rfl ?_
 walk_at "r"
 exact Run.ret ⟨rfl,rfl⟩
theorem sp_rb (h : Is H s) : CallW W 3 (.ref 1249) [.ref s.sc] H (is (.int ((s.cols : Int) - 1)) H) := by
 refine in_1249 _ ?_
 unfold cd_1249
 have h1 := h.sc
 have h2 := h.cu
 have h3 := h.ma
 unfold Scr.scF at h1
 unfold Scr.cuF at h2
 unfold Scr.maF at h3
 have hc := h.cb
 have hc2 := h.cl
 walk_at "r"
 refine r_call2 ((sp_wol h h.rb).tu rfl) rfl ?_
 rintro _ _ ⟨rfl,rfl⟩
 walk_at "r"
 refine r_t (decide_eq_true (by omega)) ?_
 walk_at "c"
 refine Run.ret ⟨?_,rfl⟩
 congr 1; omega
theorem sp_lb (h : Is H s) : CallW W 1 (.ref 1256) [.ref s.sc] H (is (.int 0) H) := by
 refine in_1256 _ ?_
 unfold cd_1256
 have h1 := h.sc
 have h2 := h.cu
 have h3 := h.ma
 unfold Scr.scF at h1
 unfold Scr.cuF at h2
 unfold Scr.maF at h3
 walk_at "r"
 exact Run.ret ⟨rfl,rfl⟩
theorem sp_between (h : Is H s) : CallW W 1 (.ref 1263) [.ref s.sc] H (is (.bool true) H) := by
 refine in_1263 _ ?_
 unfold cd_1263
 have h1 := h.sc
 have h2 := h.cu
 have h3 := h.ma
 unfold Scr.scF at h1
 unfold Scr.cuF at h2
 unfold Scr.maF at h3
 have hc := h.cb
 walk_at "r"
 refine Run.ret ⟨?_,rfl⟩
 congr 1; exact decide_eq_true (by omega)
theorem sp_area (h : Is H s) : CallW W 1 (.ref 1036) [.ref s.ma] H (is (.tup [.int 0,.int 0,.int ((s.rows : Int) - 1),.int ((s.cols : Int) - 1)]) H) := by
 refine in_1036 _ ?_
 unfold cd_1036
 have h3 := h.ma
 unfold Scr.maF at h3
 walk_at "r"
 exact Run.ret ⟨rfl,rfl⟩
theorem dat4 {H : Hp} {n : Nat} {a b c d : Int} : Dat H (n + 1) (.tup [.int a,.int b,.int c,.int d]) (.tuple [.int a,.int b,.int c,.int d]) := .tup (.cons .int (.cons .int (.cons .int (.cons .int .nil))))
theorem sp_whole (h : Is H s) : CallW W 2 (.ref 1270) [.ref s.sc] H (is (.bool true) H) := by
 refine in_1270 _ ?_
 unfold cd_1270
 have h1 := h.sc
 have h3 := h.ma
 unfold Scr.scF at h1
 unfold Scr.maF at h3
 walk_at "r"
 refine r_call1 ((sp_area h).tu rfl) rfl ?_
 rintro _ _ ⟨rfl,rfl⟩
 walk_at "r"
 refine r_eqD (n := 1) (m := 1) dat4 dat4 (by omega) (by omega) (Dat.eqv_self (H := fun _ => none) (n := 1) dat4) ?_
 exact Run.ret ⟨rfl,rfl⟩
theorem sp_keep (h : Is H s) : CallW W 3 (.ref 1375) [.ref s.sc] H (is .none H) := by
 refine in_1375 _ ?_
 unfold cd_1375
 have h1 := h.sc
 have h2 := h.cu
 unfold Scr.scF at h1
 unfold Scr.cuF at h2
 walk_at "r"
 refine r_call2 ((sp_wol h h.rb).tu rfl) rfl ?_
 rintro _ _ ⟨rfl,rfl⟩
 walk_at "r"
 have e : min (s.col : Int) (max 0 ((s.cols : Int) - 1)) = s.col := by have := h.cb; omega
 rw [e]
 refine r_sattr h2 rfl rfl ?_
 exact Run.nil ⟨rfl,setF_self (a := s.cu) h2⟩
theorem sp_narrow (h : Is H s) : CallW W 2 (.ref 1312) [.ref s.sc] H (is (.bool false) H) := by
 refine in_1312 _ ?_
 unfold cd_1312
 have h1 := h.sc
 have h2 := h.cu
 have h3 := h.ma
 unfold Scr.scF at h1
 unfold Scr.cuF at h2
 unfold Scr.maF at h3
 have hc := h.cb
 have hc2 := h.cl
 walk_at "r"
 refine r_t (decide_eq_true (by omega)) ?_
 walk_at "c"
 refine r_call1 ((sp_lb h).tu rfl) rfl ?_
 rintro _ _ ⟨rfl,rfl⟩
 walk_at "r"
 refine Run.ret ⟨?_,rfl⟩
 congr 1; exact decide_eq_false (by omega)
theorem foot_cu (s : Scr) : s.cu ∈ s.foot := by unfold Scr.foot; simp
theorem foot_sc (s : Scr) : s.sc ∈ s.foot := by unfold Scr.foot; simp
theorem foot_gr (s : Scr) : s.gr ∈ s.foot := by unfold Scr.foot; simp
theorem foot_hl (s : Scr) : s.hl ∈ s.foot := by unfold Scr.foot; simp
theorem foot_a {s : Scr} {l : Ln} (h : l ∈ s.all) : l.a ∈ s.foot := by unfold Scr.foot; exact List.mem_append_right _ (List.mem_append_left _ (List.mem_map_of_mem h))
theorem foot_c {s : Scr} {l : Ln} (h : l ∈ s.all) : l.c ∈ s.foot := by unfold Scr.foot; exact List.mem_append_right _ (List.mem_append_right _ (List.mem_map_of_mem h))
def Scr.adv (s : Scr) (c w : Nat) : Scr := if s.cols ≤ c + w then { s with col := s.cols - 1,wait := true } else { s with col := c + w,wait := false }
theorem sp_advance (h : Is H s) (c w : Nat) : CallW W 4 (.ref 1326) [.ref s.sc,.int c,.int w] H fun x H' => x = .none ∧ Is H' (s.adv c w) ∧ Frm s H (s.adv c w) H' := by
 refine in_1326 _ _ _ ?_
 unfold cd_1326
 have h1 := h.sc
 have h2 := h.cu
 unfold Scr.scF at h1
 unfold Scr.cuF at h2
 have hc2 := h.cl
 walk_at "r"
 refine r_call1 ((sp_rb h).tu rfl) rfl ?_
 rintro _ _ ⟨rfl,rfl⟩
 walk_at "r"
 unfold Scr.adv
 by_cases q : s.cols ≤ c + w
 ·rw [if_pos q]
  refine r_t (decide_eq_true (by omega)) ?_
  walk_at "c"
  have e : ((s.cols : Int) - 1) = ((s.cols - 1 : Nat) : Int) := by omega
  rw [e]
  refine r_sattr h2 rfl rfl ?_
  have h1' := at_ne h1 (ne_kd h1 h2 rfl) (m' := .inst 976 (putF 12 (.int ((s.cols - 1 : Nat) : Int)) [(11,.int s.row),(12,.int s.col),(13,.bool s.wait),(25,pn s.pen),(26,.bool false),(27,.bool false)]))
  walk_at "r"
  refine r_sattr setF_same rfl rfl ?_
  rw [setF_setF]
  exact Run.nil ⟨rfl,h.setCu s.row (s.cols - 1) true s.pen h.rb (by omega),Frm.set (foot_cu s) rfl⟩
 ·rw [if_neg q]
  refine r_f (decide_eq_false (by omega)) ?_
  walk_at "c"
  have e : ((c : Int) + (w : Int)) = ((c + w : Nat) : Int) := by omega
  rw [e]
  refine r_sattr h2 rfl rfl ?_
  have h1' := at_ne h1 (ne_kd h1 h2 rfl) (m' := .inst 976 (putF 12 (.int ((c + w : Nat) : Int)) [(11,.int s.row),(12,.int s.col),(13,.bool s.wait),(25,pn s.pen),(26,.bool false),(27,.bool false)]))
  walk_at "r"
  refine r_sattr setF_same rfl rfl ?_
  rw [setF_setF]
  exact Run.nil ⟨rfl,h.setCu s.row (c + w) false s.pen h.rb (by omega),Frm.set (foot_cu s) rfl⟩
theorem sp_cret (h : Is H s) : CallW W 4 (.ref 1382) [.ref s.sc] H fun x H' => x = .none ∧ Is H' { s with col := 0,wait := false } ∧ Frm s H { s with col := 0,wait := false } H' := by
 refine in_1382 _ ?_
 unfold cd_1382
 have h1 := h.sc
 have h2 := h.cu
 unfold Scr.scF at h1
 unfold Scr.cuF at h2
 have hc2 := h.cl
 walk_at "r"
 refine r_call1 ((sp_lb h).tu rfl) rfl ?_
 rintro _ _ ⟨rfl,rfl⟩
 walk_at "r"
 refine r_sattr h2 rfl rfl ?_
 have h1' := at_ne h1 (ne_kd h1 h2 rfl) (m' := .inst 976 (putF 12 (.int 0) [(11,.int s.row),(12,.int s.col),(13,.bool s.wait),(25,pn s.pen),(26,.bool false),(27,.bool false)]))
 walk_at "r"
 refine r_sattr setF_same rfl rfl ?_
 rw [setF_setF]
 have hI := h.setCu s.row 0 false s.pen h.rb (by omega)
 have h3 := hI.sc
 unfold Scr.scF at h3
 walk_at "r"
 refine r_call1 ((sp_keep hI).tu rfl) rfl ?_
 rintro _ _ ⟨rfl,rfl⟩
 walk_at "r"
 exact Run.nil ⟨rfl,hI,Frm.set (foot_cu s) rfl⟩
end
structure NewLns (n cols : Nat) (H : Hp) (ls : List Ln) (H' : Hp) : Prop where
 len : ls.length = n
 at_ : ∀ l ∈ ls,LnAt H' l
 fr : ∀ l ∈ ls,H l.a = none ∧ H l.c = none
 cs : ∀ l ∈ ls,l.cells = List.replicate cols blank ∧ l.wr = false
 nda : (ls.map (·.a)).Nodup
 ndc : (ls.map (·.c)).Nodup
 ext : Ext H H'
theorem NewLns.nil {cols : Nat} {H : Hp} : NewLns 0 cols H [] H := ⟨rfl,by simp,by simp,by simp,by simp,by simp,.rfl⟩
theorem NewLns.snoc {n cols : Nat} {H H1 H2 : Hp} {ls : List Ln} {l : Ln} (h : NewLns n cols H ls H1) (a : H1 l.a = none) (c : H1 l.c = none) (hl : LnAt H2 l) (cs : l.cells = List.replicate cols blank) (w : l.wr = false) (e : Ext H1 H2) : NewLns (n + 1) cols H (ls ++ [l]) H2 := by
 have back : ∀ b,H1 b = none → H b = none := fun b q => by
  cases z : H b with
  | none => rfl
  | some m => rw [h.ext _ _ z] at q; cases q
 refine ⟨by simp [h.len],fun y hy => ?_,fun y hy => ?_,fun y hy => ?_,?_,?_,h.ext.trans e⟩
 ·rcases List.mem_append.mp hy with hy | hy
  ·exact (h.at_ y hy).ext e
  ·rw [List.mem_singleton.mp hy]; exact hl
 ·rcases List.mem_append.mp hy with hy | hy
  ·exact h.fr y hy
  ·rw [List.mem_singleton.mp hy]; exact ⟨back _ a,back _ c⟩
 ·rcases List.mem_append.mp hy with hy | hy
  ·exact h.cs y hy
  ·rw [List.mem_singleton.mp hy]; exact ⟨cs,w⟩
 ·rw [List.map_append,List.nodup_append]
  refine ⟨h.nda,by simp,fun x hx y hy => ?_⟩
  obtain ⟨z,hz,rfl⟩ := List.mem_map.mp hx
  simp only [List.map_cons,List.map_nil,List.mem_singleton] at hy
  subst hy
  exact ne_new (h.at_ z hz).o a
 ·rw [List.map_append,List.nodup_append]
  refine ⟨h.ndc,by simp,fun x hx y hy => ?_⟩
  obtain ⟨z,hz,rfl⟩ := List.mem_map.mp hx
  simp only [List.map_cons,List.map_nil,List.mem_singleton] at hy
  subst hy
  exact ne_new (h.at_ z hz).cs c
theorem NewLns.ext' {n cols : Nat} {H H1 H2 : Hp} {ls : List Ln} (h : NewLns n cols H ls H1) (e : Ext H1 H2) : NewLns n cols H ls H2 := ⟨h.len,fun l hl => (h.at_ l hl).ext e,h.fr,h.cs,h.nda,h.ndc,h.ext.trans e⟩
def Scr.rolled (s : Scr) (gl' : Nat) (last nl : Ln) : Scr :=
 { s with gl := gl',hist := (s.all.set (s.all.length - 1) { last with wr := false } ++ [nl]).take (s.hist.length + 1),grid := (s.all.set (s.all.length - 1) { last with wr := false } ++ [nl]).drop (s.hist.length + 1) }
theorem Scr.all_rolled {s : Scr} {gl' : Nat} {last nl : Ln} : (s.rolled gl' last nl).all = s.all.set (s.all.length - 1) { last with wr := false } ++ [nl] := by
 unfold Scr.rolled Scr.all
 exact List.take_append_drop _ _
theorem refs_take (l : List Ln) (n : Nat) : refs (l.take n) = (refs l).take n := by unfold refs; rw [List.map_take]
theorem refs_drop (l : List Ln) (n : Nat) : refs (l.drop n) = (refs l).drop n := by unfold refs; rw [List.map_drop]
theorem refs_app (l m : List Ln) : refs (l ++ m) = refs l ++ refs m := by unfold refs; rw [List.map_append]
theorem Is.rolled {H H' : Hp} {s : Scr} (h : Is H s) {gl' : Nat} {last nl : Ln} (hl : s.all[s.all.length - 1]? = some last)
  (k : ∀ a m,H a = some m → a ≠ s.gr → a ≠ s.hl → a ≠ last.a → H' a = some m) (hgr : H' s.gr = some (.inst 396 (s.rolled gl' last nl).grF)) (hgl : H' gl' = some (.list ((refs s.all ++ [V.ref nl.a]).drop (s.hist.length + 1))))
  (hhl : H' s.hl = some (.list ((refs s.all ++ [V.ref nl.a]).take (s.hist.length + 1)))) (hla : H' last.a = some (.inst 251 (lf last.c false))) (hnl : LnAt H' nl) (f1 : H gl' = none) (f2 : H nl.a = none) (f3 : H nl.c = none) (f4 : gl' ≠ nl.c)
  (hcs : nl.cells = List.replicate s.cols blank) (hn : s.hist.length + 1 ≤ 300) : Is H' (s.rolled gl' last nl) := by
 have hm : last ∈ s.all := List.mem_of_getElem? hl
 have lo := (h.ln last hm).o
 have n : ∀ {a m},H a = some m → (m.kd == 399) = false → (m.kd == 254) = false → a ≠ s.hl → H' a = some m := fun x y z q => k _ _ x (ne_kd x h.gr y) q (ne_kd x lo z)
 have n' : ∀ {a m},H a = some m → (m.kd == 399) = false → (m.kd == 254) = false → (m.kd == 0) = false → H' a = some m := fun x y z q => n x y z (ne_kd x h.hl q)
 have hs := h.hs
 simp only [List.mem_cons,List.not_mem_nil,or_false,not_or] at hs
 have er : refs (s.rolled gl' last nl).all = refs s.all ++ [V.ref nl.a] := by
  rw [Scr.all_rolled,refs_app]
  exact congrArg (· ++ _) (map_set_same hl rfl)
 have len : s.all.length = s.hist.length + s.rows := by unfold Scr.all; rw [List.length_append,h.gn]
 have eg : refs (s.rolled gl' last nl).grid = (refs s.all ++ [V.ref nl.a]).drop (s.hist.length + 1) := by
  rw [← er,Scr.all_rolled]; exact refs_drop _ _
 have eh : refs (s.rolled gl' last nl).hist = (refs s.all ++ [V.ref nl.a]).take (s.hist.length + 1) := by
  rw [← er,Scr.all_rolled]; exact refs_take _ _
 have ea : ((s.rolled gl' last nl).all.map (·.a)) = s.all.map (·.a) ++ [nl.a] := by
  rw [Scr.all_rolled,List.map_append]; exact congrArg (· ++ _) (map_set_same hl rfl)
 have ec : ((s.rolled gl' last nl).all.map (·.c)) = s.all.map (·.c) ++ [nl.c] := by
  rw [Scr.all_rolled,List.map_append]; exact congrArg (· ++ _) (map_set_same hl rfl)
 have mm : ∀ y ∈ (s.rolled gl' last nl).all,y = nl ∨ y = { last with wr := false } ∨ ∃ j,j ≠ s.all.length - 1 ∧ s.all[j]? = some y := fun y hy => by
  rw [Scr.all_rolled] at hy
  rcases List.mem_append.mp hy with hy | hy
  ·exact .inr (mem_set hy)
  ·exact .inl (List.mem_singleton.mp hy)
 have ln' : ∀ y ∈ s.all,H' y.c = some (.list (y.cells.map Cell.v)) := fun y hy => by
  have := h.sep y hy
  simp only [List.mem_cons,List.not_mem_nil,or_false,not_or] at this
  exact n (h.ln y hy).cs rfl rfl this.2.1
 refine ⟨n' h.sc rfl rfl rfl,hgr,by rw [eg]; exact hgl,n' h.hi rfl rfl rfl,by rw [eh]; exact hhl,n' h.cu rfl rfl rfl,n' h.ma rfl rfl rfl,n' h.ch rfl rfl rfl,h.md.imp (fun x => n' x rfl rfl rfl) fun ⟨x,a,b⟩ => ⟨x,n' a rfl rfl rfl,n' b rfl rfl rfl⟩,
  n h.nm rfl rfl (Ne.symm hs.2.1),n' h.mo rfl rfl rfl,n' h.st rfl rfl rfl,n' h.wt rfl rfl rfl,n h.wd rfl rfl (Ne.symm hs.2.2.1),n h.mkr rfl rfl (Ne.symm hs.2.2.2),n' h.tb rfl rfl rfl,n' h.sp rfl rfl rfl,
  fun y hy => ?_,fun y hy => ?_,?_,?_,?_,h.ms,fun y hy => ?_,h.rwb,h.cl,?_,?_,h.rb,h.cb⟩
 ·rcases mm y hy with rfl | rfl | ⟨j,hj,hy⟩
  ·exact hnl
  ·exact ⟨hla,ln' last hm⟩
  ·have hmy : y ∈ s.all := List.mem_of_getElem? hy
   exact ⟨k _ _ (h.ln y hmy).o (ne_kd (h.ln y hmy).o h.gr rfl) (ne_kd (h.ln y hmy).o h.hl rfl) (ndup_ne (f := fun x : Ln => x.a) h.nda hy hl hj),ln' y hmy⟩
 ·show y.c ∉ [gl',s.hl,s.nm,s.wd,s.mkr]
  have old : ∀ y ∈ s.all,y.c ∉ [gl',s.hl,s.nm,s.wd,s.mkr] := fun y hy => by
   have := h.sep y hy
   simp only [List.mem_cons,List.not_mem_nil,or_false,not_or] at this ⊢
   exact ⟨ne_new (h.ln y hy).cs f1,this.2⟩
  rcases mm y hy with rfl | rfl | ⟨j,hj,hy⟩
  ·simp only [List.mem_cons,List.not_mem_nil,or_false,not_or]
   exact ⟨f4.symm,(ne_new h.hl f3).symm,(ne_new h.nm f3).symm,(ne_new h.wd f3).symm,(ne_new h.mkr f3).symm⟩
  ·exact old last hm
  ·exact old y (List.mem_of_getElem? hy)
 ·show s.hl ∉ [gl',s.nm,s.wd,s.mkr]
  simp only [List.mem_cons,List.not_mem_nil,or_false,not_or]
  exact ⟨ne_new h.hl f1,hs.2⟩
 ·rw [ea,List.nodup_append]
  refine ⟨h.nda,by simp,fun x hx y hy => ?_⟩
  obtain ⟨z,hz,rfl⟩ := List.mem_map.mp hx
  rw [List.mem_singleton.mp hy]
  exact ne_new (h.ln z hz).o f2
 ·rw [ec,List.nodup_append]
  refine ⟨h.ndc,by simp,fun x hx y hy => ?_⟩
  obtain ⟨z,hz,rfl⟩ := List.mem_map.mp hx
  rw [List.mem_singleton.mp hy]
  exact ne_new (h.ln z hz).cs f3
 ·rcases mm y hy with rfl | rfl | ⟨j,hj,hy⟩
  ·rw [hcs]; simp [Scr.rolled]
  ·exact h.wid last hm
  ·exact h.wid y (List.mem_of_getElem? hy)
 ·show ((s.all.set (s.all.length - 1) { last with wr := false } ++ [nl]).drop (s.hist.length + 1)).length = s.rows
  simp only [List.length_drop,List.length_append,List.length_set,List.length_singleton]; omega
 ·show ((s.all.set (s.all.length - 1) { last with wr := false } ++ [nl]).take (s.hist.length + 1)).length ≤ 300
  simp only [List.length_take]; omega
theorem Is.foot_rolled {H : Hp} {s : Scr} {gl' : Nat} {last nl : Ln} (hl : s.all[s.all.length - 1]? = some last) (f2 : H nl.a = none) (f3 : H nl.c = none) : ∀ a ∈ (s.rolled gl' last nl).foot,a ∈ s.foot ∨ H a = none := by
 have ea : ((s.rolled gl' last nl).all.map (·.a)) = s.all.map (·.a) ++ [nl.a] := by
  rw [Scr.all_rolled,List.map_append]; exact congrArg (· ++ _) (map_set_same hl rfl)
 have ec : ((s.rolled gl' last nl).all.map (·.c)) = s.all.map (·.c) ++ [nl.c] := by
  rw [Scr.all_rolled,List.map_append]; exact congrArg (· ++ _) (map_set_same hl rfl)
 intro a ha
 unfold Scr.foot at ha ⊢
 rw [ea,ec] at ha
 simp only [List.mem_append,List.mem_singleton] at ha ⊢
 rcases ha with ha | (ha | ha) | (ha | ha)
 ·exact .inl (.inl ha)
 ·exact .inl (.inr (.inl ha))
 ·rw [ha]; exact .inr f2
 ·exact .inl (.inr (.inr ha))
 ·rw [ha]; exact .inr f3
section
variable {W : Wx} {H : Hp} {s : Scr}
theorem r_eqLen {d : Nat} {k : List I} {st : List V} {ρ : Ro} {Q : Out → Prop} {a b : Addr} {l l' : List V} (e : H a = some (.list l)) (e' : H b = some (.list l')) (ne : l.length ≠ l'.length) (h : Run W d k (.bool false :: st) ρ H Q) : Run W d (.cmp .Eq :: k) (.ref b :: .ref a :: st) ρ H Q :=
 Run.cmp (R := is (.bool false) H) (OpW.two fun A s K X p q hA hS rx ry => by
  obtain rfl := Rep.ref_iff.mp rx
  obtain rfl := Rep.ref_iff.mp ry
  obtain ⟨vs,n,e1,r⟩ := hS.list e
  obtain ⟨vs',n',e1',r'⟩ := hS.list e'
  have hs := reps_size r
  have hs' := reps_size r'
  exact SeqAt.eq_list_lengthsAt (isList_of e1) (isList_of e1') (by simp [hs,hs',ne]) (by have := hA.units; unfold cLine; omega) (post_same hS (Rep.bool_iff.mpr rfl) ⟨rfl,rfl⟩)) (by rintro _ _ ⟨rfl,rfl⟩; exact h)
theorem sp_push (h : Is H s) {a : Nat} (hn : s.hist.length ≤ 300) : True := trivial
theorem sp_hpush {hi hl a : Nat} {l : List V} (e : H hi = some (.inst 478 [(6,.int 400),(5,.ref hl),(7,.int 0)])) (e2 : H hl = some (.list l)) (hn : l.length + 1 ≤ 400) : CallW W 1 (.ref 442) [.ref hi,.ref a] H (is .none (setF H hl (.list (l ++ [.ref a])))) := by
 refine in_442 _ _ ?_
 unfold cd_442
 walk_at "r"
 refine r_mapp e2 ?_
 walk_at "r"
 refine r_append e2 (by omega) ?_
 have e' := at_ne e (ne_kd e e2 rfl) (m' := .list (l ++ [.ref a]))
 have e2' : setF H hl (.list (l ++ [.ref a])) hl = some (.list (l ++ [.ref a])) := setF_same
 walk_at "r"
 refine r_t (decide_eq_true (by simp; omega)) ?_
 walk_at "c"
 exact Run.ret ⟨rfl,rfl⟩
theorem sp_fresh {g gl : Nat} {rows cols k : Nat} (e : H g = some (.inst 396 [(3,.int rows),(4,.int cols),(5,.ref gl)])) (hc : cols ≤ 7) : CallW W 6 (.ref 293) [.ref g,.int 1,pn k] H fun x H' => ∃ c l,x = .ref c ∧ H c = none ∧ H' c = some (.list [.ref l.a]) ∧ NewLns 1 cols H [l] H' := by
 refine in_293 _ _ _ ?_
 unfold cd_293
 refine Run.has (by intro j hj; simp at hj; rcases hj with rfl | rfl <;> exact ⟨_,rfl⟩) ?_
 walk_at "r"
 refine Run.lc (l := [.int 0]) (J := fun i acc H' => ∃ ls,acc = refs ls ∧ NewLns i cols H ls H') (args := [.int 1]) rfl rfl ⟨[],rfl,.nil⟩ (fun i acc H' _ _ => ⟨by omega,by omega,rfl⟩) (by simp) (fun i x acc H' hx hac hj => ?_) (fun acc H' hac hj a ha => ?_)
 ·obtain ⟨ls,rfl,hN⟩ := hj
  have e' := hN.ext _ _ e
  have : x = .int 0 := by cases i with | zero => simpa using hx.symm | succ i => simp at hx
  subst this
  show Run W 5 _ [.int 0] [none,some (pn k),some (.ref g)] H' _
  walk_at "c"
  refine r_call2 ((sp_newLine cols k (by omega)).tu rfl) rfl ?_
  rintro _ H2 ⟨l,rfl,f1,f2,hl,hcs,hw,hE⟩
  refine Run.nil ⟨ls ++ [l],by rw [refs_app]; rfl,hN.snoc f1 f2 hl hcs hw hE⟩
 ·obtain ⟨ls,rfl,hN⟩ := hj
  obtain ⟨l,rfl⟩ : ∃ l,ls = [l] := by
   have := hN.len
   match ls,this with
   | [l],_ => exact ⟨l,rfl⟩
  have ha' : H a = none := by
   cases z : H a with
   | none => rfl
   | some m => rw [hN.ext _ _ z] at ha; cases ha
  exact Run.ret ⟨a,l,rfl,ha',setF_same,hN.ext' (Ext.new ha)⟩
end
theorem is_elim {v : V} {H : Hp} {P : V → Hp → Prop} (h : P v H) : ∀ x H',is v H x H' → P x H' := by rintro _ _ ⟨rfl,rfl⟩; exact h
section
variable {W : Wx} {d : Nat} {H : Hp} {k : List I} {st : List V} {ρ : Ro} {Q : Out → Prop}
abbrev NewK (W : Wx) (d : Nat) (k : List I) (st : List V) (ρ : Ro) (Q : Out → Prop) (l : List V) (H : Hp) : Prop := ∀ c H',H c = none → H' c = some (.list l) → Ext H H' → Run W d k (.ref c :: st) ρ H' Q
theorem r_slcE {a : Addr} {l : List V} {u v : V} (lo hi : Option Int) (hu : u = optV lo) (hv : v = optV hi) (e : H a = some (.list l)) (hl : l.length ≤ 1000000) {l' : List V} (q : pySlice l lo hi = l') (h : NewK W d k st ρ Q l' H) : Run W d (.slc :: k) (v :: u :: .ref a :: st) ρ H Q :=
 r_slc hu hv e hl fun c hc => by rw [q]; exact h c _ hc setF_same (Ext.new hc)
theorem r_addLE {a b : Addr} {l l' : List V} (e : H a = some (.list l)) (e' : H b = some (.list l')) (hl : l.length + l'.length ≤ 1000000) (h : NewK W d k st ρ Q (l ++ l') H) : Run W d (.bin .Add :: k) (.ref b :: .ref a :: st) ρ H Q :=
 r_addL e e' hl fun c hc => h c _ hc setF_same (Ext.new hc)
theorem r_mulLE {a : Addr} {x : V} {i : Int} (e : H a = some (.list [x])) (hl : -1000 ≤ i ∧ i ≤ 1000) (h : NewK W d k st ρ Q (List.replicate i.toNat x) H) : Run W d (.bin .Mult :: k) (.int i :: .ref a :: st) ρ H Q :=
 r_mulL e hl fun c hc => h c _ hc setF_same (Ext.new hc)
theorem r_listE {a : Addr} {l : List V} (e : H a = some (.list l)) (hl : l.length ≤ 1000000) (h : NewK W d k st ρ Q l H) : Run W d (.call 1 :: k) (.ref a :: .raw (.type "list") :: st) ρ H Q :=
 r_list e hl fun c hc => h c _ hc setF_same (Ext.new hc)
theorem r_listTE {l : List V} (hl : l.length ≤ 1000000) (h : NewK W d k st ρ Q l H) : Run W d (.call 1 :: k) (.tup l :: .raw (.type "list") :: st) ρ H Q :=
 r_listT hl fun c hc => h c _ hc setF_same (Ext.new hc)
theorem r_lst0E (h : NewK W d k st ρ Q [] H) : Run W d (.lst 0 :: k) st ρ H Q := r_lst0 fun c hc => h c _ hc setF_same (Ext.new hc)
theorem r_lst1E {a : V} (h : NewK W d k st ρ Q [a] H) : Run W d (.lst 1 :: k) (a :: st) ρ H Q := r_lst1 fun c hc => h c _ hc setF_same (Ext.new hc)
theorem r_lst2E {a b : V} (h : NewK W d k st ρ Q [a,b] H) : Run W d (.lst 2 :: k) (b :: a :: st) ρ H Q := r_lst2 fun c hc => h c _ hc setF_same (Ext.new hc)
theorem r_lst3E {a b e : V} (h : NewK W d k st ρ Q [a,b,e] H) : Run W d (.lst 3 :: k) (e :: b :: a :: st) ρ H Q := r_lst3 fun c hc => h c _ hc setF_same (Ext.new hc)
theorem r_sorted0E {a : Addr} (e : H a = some (.dict [])) (h : NewK W d k st ρ Q [] H) : Run W d (.call 1 :: k) (.ref a :: .raw (.builtin "sorted") :: st) ρ H Q := r_sorted0 e fun c hc => h c _ hc setF_same (Ext.new hc)
end
theorem ps_take (l : List V) (b : Nat) : pySlice l none (some (b : Int)) = l.take b := by
 unfold pySlice
 simp only [Option.elim,clipAt_nat,List.drop_zero,Nat.sub_zero]
 by_cases h : b ≤ l.length
 ·rw [Nat.min_eq_left h]
 ·rw [Nat.min_eq_right (by omega),List.take_of_length_le (Nat.le_refl _),List.take_of_length_le (by omega)]
theorem ps_drop (l : List V) (a : Nat) : pySlice l (some (a : Int)) none = l.drop a := by
 unfold pySlice
 simp only [Option.elim,clipAt_nat]
 by_cases h : a ≤ l.length
 ·rw [Nat.min_eq_left h,List.take_of_length_le (by simp)]
 ·rw [Nat.min_eq_right (by omega),List.drop_of_length_le (Nat.le_refl _),List.drop_of_length_le (by omega)]; simp
theorem ps_mid (l : List V) (a b : Nat) : pySlice l (some (a : Int)) (some (b : Int)) = (l.drop a).take (b - a) := by
 unfold pySlice
 simp only [Option.elim,clipAt_nat]
 by_cases h : a ≤ l.length
 ·rw [Nat.min_eq_left h]
  by_cases h2 : b ≤ l.length
  ·rw [Nat.min_eq_left h2]
  ·rw [Nat.min_eq_right (by omega),List.take_of_length_le (by simp),List.take_of_length_le (by simp; omega)]
 ·rw [Nat.min_eq_right (a := a) (by omega),List.drop_of_length_le (Nat.le_refl _),List.drop_of_length_le (i := a) (by omega)]; simp
theorem ps_init (l : List V) : pySlice l none (some (-1)) = l.take (l.length - 1) := by
 unfold pySlice
 simp only [Option.elim,List.drop_zero,Nat.sub_zero]
 congr 1
 unfold clipAt
 simp only [show ((-1 : Int) < 0) = True by simp,if_true]
 omega
section
variable {W : Wx} {H : Hp} {s : Scr}
theorem sp_above0 {g : Nat} : CallW W 1 (.ref 300) [.ref g,.int 0] H (is .none H) := by
 refine in_300 _ _ ?_
 unfold cd_300
 walk_at "r"
 exact Run.nil ⟨rfl,rfl⟩
theorem sp_above {g gl c : Nat} {w : Bool} {i a : Nat} {fs : List V} {rows cols : Int} (e : H g = some (.inst 396 [(3,.int rows),(4,.int cols),(5,.ref gl)])) (e2 : H gl = some (.list fs)) (hi : fs[i]? = some (.ref a)) (hb : i ≤ 900) (e3 : H a = some (.inst 251 (lf c w))) :
  CallW W 1 (.ref 300) [.ref g,.int ((i : Int) + 1)] H (is .none (setF H a (.inst 251 (lf c false)))) := by
 refine in_300 _ _ ?_
 unfold cd_300
 unfold lf at e3
 walk_at "r"
 refine r_t (decide_eq_true (by omega)) ?_
 walk_at "c"
 rw [show (i : Int) + 1 - 1 = (i : Int) by omega]
 refine r_idx e2 (by omega) (at_nat hi) ?_
 refine r_sattr e3 rfl rfl ?_
 exact Run.nil ⟨rfl,rfl⟩
theorem sp_iswide {g gl : Nat} {rows cols : Int} (e : H g = some (.inst 396 [(3,.int rows),(4,.int cols),(5,.ref gl)])) {b : Int} : CallW W 1 (.ref 288) [.ref g,.tup [.int 0,.int 0,.int b,.int (cols - 1)]] H (is (.bool true) H) := by
 refine in_288 _ _ ?_
 unfold cd_288
 walk_at "r"
 refine Run.ret ⟨?_,rfl⟩
 simp
structure Rolled (s : Scr) (last : Ln) (c gl' : Nat) (nl : Ln) (H H' : Hp) : Prop where
 gone : H' c = some (.list ((refs s.grid).take 1))
 keep : ∀ a m,H a = some m → a ≠ s.gr → a ≠ last.a → H' a = some m
 gr : H' s.gr = some (.inst 396 [(3,.int s.rows),(4,.int s.cols),(5,.ref gl')])
 gl : H' gl' = some (.list ((refs s.grid).drop 1 ++ [.ref nl.a]))
 la : H' last.a = some (.inst 251 (lf last.c false))
 nln : LnAt H' nl
 f1 : H gl' = none
 f2 : H nl.a = none
 f3 : H nl.c = none
 f4 : gl' ≠ nl.c
 cs : nl.cells = List.replicate s.cols blank
 wr : nl.wr = false
 f0 : H c = none
theorem back {H H' : Hp} (e : Ext H H') {a : Addr} (h : H' a = none) : H a = none := by
 cases z : H a with
 | none => rfl
 | some m => rw [e _ _ z] at h; cases h
theorem sp_gscroll (h : Is H s) {last : Ln} (hl : s.grid[s.rows - 1]? = some last) (k : Nat) : CallW W 7 (.ref 307) [.ref s.gr,.tup [.int 0,.int 0,.int ((s.rows : Int) - 1),.int ((s.cols : Int) - 1)],.int 1,pn k] H fun x H' => ∃ c gl' nl,x = .ref c ∧ Rolled s last c gl' nl H H' := by
 refine in_307 _ _ _ _ ?_
 unfold cd_307
 have hr := h.rwb
 have hcl := h.cl
 have hgn := h.gn
 have h1 := h.gr
 unfold Scr.grF at h1
 have hm : last ∈ s.all := by unfold Scr.all; exact List.mem_append_right _ (List.mem_of_getElem? hl)
 have lo := (h.ln last hm).o
 have hlen : (refs s.grid).length = s.rows := by simp [refs,hgn]
 walk_at "r"
 refine r_call3 ((sp_clamp _ _ _).tu rfl) rfl ?_
 refine is_elim ?_
 rw [show max (0 : Int) (min 1 ((s.rows : Int) - 1 - 0 + 1)) = 1 by omega]
 walk_at "r"
 refine r_call2 ((sp_iswide h1).tu rfl) rfl ?_
 refine is_elim ?_
 walk_at "r"
 refine r_slcE (some 0) (some (0 + 1)) rfl rfl h.gl (by omega) (ps_mid _ 0 1) fun c1 H1 f1 g1 E1 => ?_
 have a1 := E1 _ _ h1
 walk_at "r"
 refine r_slcE (some (0 + 1)) (some ((s.rows : Int) - 1 + 1)) rfl rfl (E1 _ _ h.gl) (by omega) (l' := (refs s.grid).drop 1) (by
  rw [show (s.rows : Int) - 1 + 1 = ((s.rows : Nat) : Int) by omega]
  refine (ps_mid _ 1 _).trans ?_
  rw [List.take_of_length_le (by simp; omega)]) fun c2 H2 f2 g2 E2 => ?_
 walk_at "r"
 refine r_lst0E fun c3 H3 f3 g3 E3 => ?_
 have E13 := E2.trans E3
 have rest : ∀ {H4 : Hp} {e : Bool} {st' : List V} (_ : H4 c1 = some (.list ((refs s.grid).take 1))) (_ : H4 c2 = some (.list ((refs s.grid).drop 1))) (_ : ∀ a m,H a = some m → a ≠ last.a → H4 a = some m) (_ : ∃ w,H4 last.a = some (.inst 251 (lf last.c w)) ∧ (s.rows = 1 → w = false)) (_ : ∀ a,H4 a = none → H a = none),
   Run W 6 [I.loc 0,.attr 5,.lit .none,.loc 4,.slc,.loc 10,.bin .Add,.loc 0,.mth 5,.loc 2,.loc 3,.call 3,.bin .Add,.loc 0,.attr 5,.loc 6,.lit (.int 1),.bin .Add,.lit .none,.slc,.bin .Add,.loc 0,.sattr 5,.loc 0,.mth 6,.loc 4,.call 2,.pop,.loc 0,.mth 6,.loc 6,.lit (.int 1),.bin .Add,.loc 2,.bin .Sub,.call 2,.pop,.loc 9,.ret] []
    [some (.ref s.gr),some (.tup [.int 0,.int 0,.int ((s.rows : Int) - 1),.int ((s.cols : Int) - 1)]),some (.int 1),some (pn k),some (.int 0),some (.int 0),some (.int ((s.rows : Int) - 1)),some (.int ((s.cols : Int) - 1)),none,some (.ref c1),some (.ref c2)] H4
    (behind fun x H' => ∃ c gl' nl,x = .ref c ∧ Rolled s last c gl' nl H H') := by
  intro H4 e st' q1 q2 q3 q4 q5
  obtain ⟨w,q4,q6⟩ := q4
  have ag := q3 _ _ h1 (ne_kd h1 lo rfl)
  have al := q3 _ _ h.gl (ne_kd h.gl lo rfl)
  walk_at "r"
  refine r_slcE none (some 0) rfl rfl al (by omega) (ps_take _ 0) fun c5 H5 f5 g5 E5 => ?_
  rw [List.take_zero] at g5
  have q2' := E5 _ _ q2
  walk_at "r"
  refine r_addLE g5 q2' (by simp; omega) fun c6 H6 f6 g6 E6 => ?_
  rw [List.nil_append] at g6
  have E46 := E5.trans E6
  have ag' := E46 _ _ ag
  walk_at "r"
  refine r_call3 ((sp_fresh ag' hcl.2).tu rfl) rfl ?_
  rintro _ H7 ⟨c7,nl,rfl,f7,g7,N7⟩
  have g6' := N7.ext _ _ g6
  refine r_addLE g6' g7 (by simp; omega) fun c8 H8 f8 g8 E8 => ?_
  have E48 := (E46.trans N7.ext).trans E8
  have ag8 := E48 _ _ ag
  have al8 := E48 _ _ al
  walk_at "r"
  refine r_slcE (some ((s.rows : Int) - 1 + 1)) none rfl rfl al8 (by omega) (l' := []) (by
   rw [show (s.rows : Int) - 1 + 1 = ((s.rows : Nat) : Int) by omega]
   refine (ps_drop _ _).trans ?_
   rw [List.drop_of_length_le (by omega)]) fun c9 H9 f9 g9 E9 => ?_
  refine r_addLE (E9 _ _ g8) g9 (by simp; omega) fun gl' HA fA gA EA => ?_
  rw [List.append_nil] at gA
  have E4A := (E48.trans E9).trans EA
  have agA := E4A _ _ ag
  walk_at "r"
  refine r_sattr agA rfl rfl ?_
  have nl7 := N7.at_ nl (by simp)
  have nlA := (nl7.ext (E8.trans E9)).ext EA
  have cN := N7.fr nl (by simp)
  have fgl : H gl' = none := q5 _ (back (E48.trans E9) fA)
  have fa : H nl.a = none := q5 _ (back E46 cN.1)
  have fc : H nl.c = none := q5 _ (back E46 cN.2)
  have f4 : gl' ≠ nl.c := (ne_new ((nl7.ext (E8.trans E9)).cs) fA).symm
  have hgr0 : s.gr ≠ last.a := ne_kd h1 lo rfl
  have laA := E4A _ _ q4
  have la' := at_ne laA hgr0.symm (m' := .inst 396 (putF 5 (.ref gl') [(3,.int s.rows),(4,.int s.cols),(5,.ref s.gl)]))
  have gr' : setF HA s.gr (.inst 396 (putF 5 (.ref gl') [(3,.int s.rows),(4,.int s.cols),(5,.ref s.gl)])) s.gr = some (.inst 396 [(3,.int s.rows),(4,.int s.cols),(5,.ref gl')]) := setF_same
  have gl2 := at_ne gA (ne_kd gA agA rfl) (m' := .inst 396 (putF 5 (.ref gl') [(3,.int s.rows),(4,.int s.cols),(5,.ref s.gl)]))
  have go2 := at_ne (E4A _ _ q1) (ne_kd (E4A _ _ q1) agA rfl) (m' := .inst 396 (putF 5 (.ref gl') [(3,.int s.rows),(4,.int s.cols),(5,.ref s.gl)]))
  have nl2 : LnAt (setF HA s.gr (.inst 396 (putF 5 (.ref gl') [(3,.int s.rows),(4,.int s.cols),(5,.ref s.gl)]))) nl := ⟨at_ne nlA.o (ne_kd nlA.o agA rfl),at_ne nlA.cs (ne_kd nlA.cs agA rfl)⟩
  have kp : ∀ a m,H a = some m → a ≠ s.gr → a ≠ last.a → setF HA s.gr (.inst 396 (putF 5 (.ref gl') [(3,.int s.rows),(4,.int s.cols),(5,.ref s.gl)])) a = some m := fun a m z z1 z2 => at_ne (E4A _ _ (q3 a m z z2)) z1
  generalize setF HA s.gr (.inst 396 (putF 5 (.ref gl') [(3,.int s.rows),(4,.int s.cols),(5,.ref s.gl)])) = HB at *
  walk_at "r"
  refine r_call2 (sp_above0.tu rfl) rfl ?_
  refine is_elim ?_
  walk_at "r"
  by_cases one : s.rows = 1
  ·rw [show (s.rows : Int) - 1 + 1 - 1 = 0 by omega]
   refine r_call2 (sp_above0.tu rfl) rfl ?_
   refine is_elim ?_
   walk_at "r"
   rw [q6 one] at la'
   exact Run.ret ⟨c1,gl',nl,rfl,go2,kp,gr',gl2,la',nl2,fgl,fa,fc,f4,(N7.cs nl (by simp)).1,(N7.cs nl (by simp)).2,f1⟩
  ·have hi : ((refs s.grid).drop 1 ++ [V.ref nl.a])[s.rows - 2]? = some (V.ref last.a) := by
    rw [List.getElem?_append_left (by simp; omega),List.getElem?_drop,show 1 + (s.rows - 2) = s.rows - 1 by omega]
    simp [refs,hl]
   rw [show (s.rows : Int) - 1 + 1 - 1 = ((s.rows - 2 : Nat) : Int) + 1 by omega]
   refine r_call2 ((sp_above gr' gl2 hi (by omega) la').tu rfl) rfl ?_
   refine is_elim ?_
   walk_at "r"
   have na : ∀ {a m},HB a = some m → (m.kd == 254) = false → setF HB last.a (.inst 251 (lf last.c false)) a = some m := fun x y => at_ne x (ne_kd x la' y)
   have nne : nl.a ≠ last.a := (ne_new lo fa).symm
   exact Run.ret ⟨c1,gl',nl,rfl,na go2 rfl,fun a m z z1 z2 => at_ne (kp a m z z1 z2) z2,na gr' rfl,na gl2 rfl,setF_same,⟨at_ne nl2.o nne,na nl2.cs rfl⟩,fgl,fa,fc,f4,(N7.cs nl (by simp)).1,(N7.cs nl (by simp)).2,f1⟩
 have EH3 := E1.trans E13
 have b3 : ∀ a,H3 a = none → H a = none := fun a q => back EH3 q
 by_cases one : s.rows = 1
 ·have hd : (refs s.grid).drop 1 = [] := List.drop_of_length_le (by omega)
  have g2' : H3 c2 = some (.list []) := by rw [← hd]; exact E3 _ _ g2
  refine r_eqD (n := 2) (m := 2) (.list g2' .nil) (.list g3 .nil) (by omega) (by omega) (b := true) (by decide +kernel) ?_
  walk_at "r"
  have hi : (refs s.grid).take 1 = [V.ref last.a] := by
   have : s.grid[0]? = some last := by rw [← hl,one]
   rw [show refs s.grid = s.grid.map fun x => V.ref x.a from rfl]
   match hg : s.grid,this with
   | l :: _,e => simp at e; subst e; simp
  have g1' := E13 _ _ g1
  refine r_idx g1' (by decide) (x := .ref last.a) (by show at? ((refs s.grid).take 1) _ = _; rw [hi]; rfl) ?_
  have lo3 := EH3 _ _ lo
  refine r_sattr lo3 rfl rfl ?_
  have n3 : ∀ {a m},H3 a = some m → (m.kd == 254) = false → setF H3 last.a (.inst 251 (lf last.c false)) a = some m := fun x y => at_ne x (ne_kd x lo3 y)
  refine rest (e := true) (st' := []) (n3 g1' rfl) (n3 (E3 _ _ g2) rfl) (fun a m z q => at_ne (EH3 _ _ z) q) ⟨false,setF_same,fun _ => rfl⟩ fun a q => b3 a ?_
  unfold setF at q; split at q; · cases q
  ·exact q
 ·refine r_eqLen (E3 _ _ g2) g3 (by simp; omega) ?_
  refine Run.chk (r_f rfl ?_)
  rw [List.nil_append]
  exact rest (e := true) (st' := []) (E13 _ _ g1) (E3 _ _ g2) (fun a m z _ => EH3 _ _ z) ⟨_,EH3 _ _ lo,fun q => absurd q one⟩ b3
end
def Scr.lv (s : Scr) : List (List Cell × Bool) := s.all.map fun l => (l.cells,l.wr)
structure Same (s s' : Scr) : Prop where
 sc : s'.sc = s.sc
 rows : s'.rows = s.rows
 cols : s'.cols = s.cols
 pen : s'.pen = s.pen
theorem pn_hand (k : Nat) : (pn k).hand = true := by unfold pn; split <;> rfl
theorem Same.refl {s : Scr} : Same s s := ⟨rfl,rfl,rfl,rfl⟩
theorem Same.trans {s s' s'' : Scr} (h : Same s s') (h' : Same s' s'') : Same s s'' := ⟨h'.sc.trans h.sc,h'.rows.trans h.rows,h'.cols.trans h.cols,h'.pen.trans h.pen⟩
structure NextL (w : Option Bool) (s s' : Scr) : Prop where
 same : Same s s'
 wait : s'.wait = false
 a : s.row + 1 < s.rows → s'.hist.length = s.hist.length ∧ s'.row = s.row + 1 ∧ s'.lv = match w with | none => s.lv | some b => s.lv.modify (s.hist.length + s.row) fun p => (p.1,b)
 b : s.row + 1 = s.rows → s'.hist.length = s.hist.length + 1 ∧ s'.row = s.row ∧ s'.lv = (s.lv.modify (s.hist.length + s.row) fun p => (p.1,w.getD false)) ++ [(List.replicate s.cols blank,false)]
section
variable {W : Wx} {H : Hp} {s : Scr}
theorem Is.len (h : Is H s) : s.all.length = s.hist.length + s.rows := by unfold Scr.all; rw [List.length_append,h.gn]
theorem Is.rowAt (h : Is H s) : ∃ l,s.grid[s.row]? = some l ∧ s.all[s.hist.length + s.row]? = some l := by
 obtain ⟨l,hl,_⟩ := h.gridAt h.rb
 refine ⟨l,hl,?_⟩
 unfold Scr.all
 rw [List.getElem?_append_right (by omega),Nat.add_sub_cancel_left]; exact hl
theorem sp_area' (h3 : H s.ma = some (.inst 1109 s.maF)) : CallW W 1 (.ref 1036) [.ref s.ma] H (is (.tup [.int 0,.int 0,.int ((s.rows : Int) - 1),.int ((s.cols : Int) - 1)]) H) := by
 refine in_1036 _ ?_
 unfold cd_1036
 unfold Scr.maF at h3
 walk_at "r"
 exact Run.ret ⟨rfl,rfl⟩
theorem sp_whole' (h1 : H s.sc = some (.inst 1485 s.scF)) (h3 : H s.ma = some (.inst 1109 s.maF)) : CallW W 2 (.ref 1270) [.ref s.sc] H (is (.bool true) H) := by
 refine in_1270 _ ?_
 unfold cd_1270
 have h4 := h3
 unfold Scr.scF at h1
 unfold Scr.maF at h4
 walk_at "r"
 refine r_call1 ((sp_area' h3).tu rfl) rfl ?_
 refine is_elim ?_
 walk_at "r"
 refine r_eqD (n := 1) (m := 1) dat4 dat4 (by omega) (by omega) (Dat.eqv_self (H := fun _ => none) (n := 1) dat4) ?_
 exact Run.ret ⟨rfl,rfl⟩
theorem sp_sscroll (h : Is H s) {last : Ln} (hl : s.grid[s.rows - 1]? = some last) (hn : s.hist.length + 1 ≤ 300) : CallW W 8 (.ref 1347) [.ref s.sc,.int 1] H fun x H' => x = .none ∧ ∃ gl' nl,Is H' (s.rolled gl' last nl) ∧ Frm s H (s.rolled gl' last nl) H' ∧ nl.cells = List.replicate s.cols blank ∧ nl.wr = false := by
 refine in_1347 _ _ ?_
 unfold cd_1347
 have h1 := h.sc
 have h2 := h.cu
 have h4 := h.gr
 have h5 := h.ma
 have hp := pn_hand s.pen
 unfold Scr.scF at h1
 unfold Scr.cuF at h2
 have hr := h.rwb
 have hgn := h.gn
 walk_at "r"
 refine r_call1 ((sp_area h).tu rfl) rfl ?_
 refine is_elim ?_
 walk_at "r"
 refine r_call4 ((sp_gscroll h hl s.pen).tu rfl) rfl ?_
 rintro _ H1 ⟨c,gl',nl,rfl,R⟩
 have hm : last ∈ s.all := by unfold Scr.all; exact List.mem_append_right _ (List.mem_of_getElem? hl)
 have lo := (h.ln last hm).o
 have n : ∀ {a m},H a = some m → (m.kd == 399) = false → (m.kd == 254) = false → H1 a = some m := fun x y z => R.keep _ _ x (ne_kd x h.gr y) (ne_kd x lo z)
 have i1 := n h1 rfl rfl
 have i2 := n h.ma rfl rfl
 have i3 := n h.hi rfl rfl
 have i4 := n h.hl rfl rfl
 have cne : c ≠ s.hl := (ne_new h.hl R.f0).symm
 unfold Scr.hiF at i3
 walk_at "r"
 refine r_call1 ((sp_whole' (n h.sc rfl rfl) i2).tu rfl) rfl ?_
 refine is_elim ?_
 walk_at "r"
 obtain ⟨g0,hg0⟩ : ∃ g0,s.grid[0]? = some g0 := ⟨_,List.getElem?_eq_getElem (show 0 < s.grid.length by omega)⟩
 have t1 : (refs s.grid).take 1 = [V.ref g0.a] := by
  rw [show refs s.grid = s.grid.map fun x => V.ref x.a from rfl]
  match hg : s.grid,hg0 with
  | l :: _,e => simp at e; subst e; simp
 have go := R.gone
 rw [t1] at go
 have len := h.len
 have hla : s.all[s.all.length - 1]? = some last := by
  rw [len]; unfold Scr.all
  rw [List.getElem?_append_right (by omega),show s.hist.length + s.rows - 1 - s.hist.length = s.rows - 1 by omega]; exact hl
 have ra : refs s.all = refs s.hist ++ refs s.grid := refs_app _ _
 have rl : (refs s.hist).length = s.hist.length := by simp [refs]
 have rg : (refs s.grid).length = s.rows := by simp [refs,hgn]
 refine Run.fr (l := [.ref g0.a]) (args := [.ref c]) (J := fun i ρ H' => ρ[0]? = some (some (.ref s.sc)) ∧ ρ.length = 4 ∧ ((i = 0 ∧ H' = H1) ∨ (i = 1 ∧ H' = setF H1 s.hl (.list (refs s.hist ++ [.ref g0.a]))))) (Z := fun _ _ => False) rfl rfl ⟨rfl,rfl,.inl ⟨rfl,rfl⟩⟩ ?_ ?_ ?_ (fun _ _ z => z.elim)
 ·rintro i ρ H' _ ⟨_,_,⟨rfl,rfl⟩ | ⟨rfl,rfl⟩⟩
  ·exact go
  ·exact at_ne go cne
 ·rintro i x ρ H' hx ⟨h0,h3,⟨rfl,rfl⟩ | ⟨rfl,rfl⟩⟩
  ·have : x = .ref g0.a := by simpa using hx.symm
   subst this
   obtain ⟨p0,p1,p2,p3,rfl⟩ : ∃ p0 p1 p2 p3,ρ = [p0,p1,p2,p3] := by
    match ρ,h3 with
    | [p0,p1,p2,p3],_ => exact ⟨_,_,_,_,rfl⟩
   simp at h0; subst h0
   walk_at "c"
   refine r_call2 ((sp_hpush i3 i4 (by rw [rl]; omega)).tu rfl) rfl ?_
   refine is_elim ?_
   walk_at "r"
   exact Run.nil ⟨rfl,rfl,.inr ⟨by simp,rfl⟩⟩
  ·simp at hx
 ·rintro ρ H' ⟨h0,h3,⟨hh,rfl⟩ | ⟨_,rfl⟩⟩
  ·simp at hh
  ·have hs := h.hs
   simp only [List.mem_cons,List.not_mem_nil,or_false,not_or] at hs
   have nh : ∀ {a m},H1 a = some m → a ≠ s.hl → setF H1 s.hl (.list (refs s.hist ++ [.ref g0.a])) a = some m := fun x y => at_ne x y
   have nlh : nl.c ≠ s.hl := (ne_new h.hl R.f3).symm
   have hI : Is (setF H1 s.hl (.list (refs s.hist ++ [.ref g0.a]))) (s.rolled gl' last nl) := by
    refine h.rolled hla (fun a m x y z q => nh (R.keep a m x y q) z) (nh R.gr (ne_kd R.gr i4 rfl)) ?_ ?_ (nh R.la (ne_kd R.la i4 rfl)) ⟨nh R.nln.o (ne_kd R.nln.o i4 rfl),nh R.nln.cs nlh⟩ R.f1 R.f2 R.f3 R.f4 R.cs hn
    ·rw [ra,List.append_assoc,List.drop_append,rl,List.drop_of_length_le (by omega),List.nil_append,show s.hist.length + 1 - s.hist.length = 1 by omega,List.drop_append,rg,show 1 - s.rows = 0 by omega,List.drop_zero]
     exact nh R.gl (ne_new h.hl R.f1).symm
    ·rw [ra,List.append_assoc,List.take_append,rl,List.take_of_length_le (by omega),show s.hist.length + 1 - s.hist.length = 1 by omega,List.take_append,rg,show 1 - s.rows = 0 by omega,List.take_zero,List.append_nil,t1]
     exact setF_same
   refine Run.nil ⟨rfl,gl',nl,hI,⟨fun a m x z => nh (R.keep a m x (fun q => z (q ▸ foot_gr s)) (fun q => z (q ▸ foot_a hm))) (fun q => z (q ▸ foot_hl s)),Is.foot_rolled hla R.f2 R.f3⟩,R.cs,R.wr⟩
end
theorem lv_setL {s : Scr} {i : Nat} {l : Ln} {cs : List Cell} {w : Bool} (_ : s.all[i]? = some l) : (s.setL i { l with cells := cs,wr := w }).lv = s.lv.set i (cs,w) := by
 unfold Scr.lv; rw [Scr.all_setL,List.map_set]
theorem modify_ext {α : Type} {l : List α} {i : Nat} {x : α} (f : α → α) (h : l[i]? = some x) : l.modify i f = l.set i (f x) := by
 apply List.ext_getElem?
 intro j
 have lt := (List.getElem?_eq_some_iff.mp h).1
 rw [List.getElem?_modify,List.getElem?_set]
 by_cases q : i = j
 ·subst q; rw [h]; simp [lt]
 ·cases l[j]? <;> simp [q]
theorem modify_app {α : Type} {l m : List α} {i : Nat} (f : α → α) (h : i < l.length) : (l ++ m).modify i f = l.modify i f ++ m := by
 apply List.ext_getElem?
 intro j
 rw [List.getElem?_modify]
 by_cases q : j < l.length
 ·rw [List.getElem?_append_left q,List.getElem?_append_left (by simpa using q),List.getElem?_modify]
 ·rw [List.getElem?_append_right (by omega),List.getElem?_append_right (by simpa using q)]
  simp [show i ≠ j by omega]
theorem modify_mod {α : Type} {l : List α} {i : Nat} (f g : α → α) : (l.modify i f).modify i g = l.modify i (g ∘ f) := by
 apply List.ext_getElem?
 intro j
 rw [List.getElem?_modify,List.getElem?_modify,List.getElem?_modify]
 by_cases q : i = j
 ·cases l[j]? <;> simp [q]
 ·cases l[j]? <;> simp [q]
theorem lv_rolled {s : Scr} {gl' : Nat} {last nl : Ln} (hl : s.all[s.all.length - 1]? = some last) : (s.rolled gl' last nl).lv = s.lv.modify (s.all.length - 1) (fun p => (p.1,false)) ++ [(nl.cells,nl.wr)] := by
 unfold Scr.lv
 rw [Scr.all_rolled,List.map_append,List.map_set,modify_ext _ (x := (last.cells,last.wr)) (by simp [hl])]
 rfl
def Scr.cuTo (s : Scr) (r c : Nat) (w : Bool) (p : Nat) : Scr := { s with row := r,col := c,wait := w,pen := p }
section
variable {W : Wx} {H : Hp} {s : Scr}
theorem sp_index (h : Is H s) (hn : s.hist.length + 1 ≤ 300) : CallW W 9 (.ref 1361) [.ref s.sc] H fun x H' => x = .none ∧ ∃ s',Is H' s' ∧ Frm s H s' H' ∧ s'.col = s.col ∧ NextL none s s' ∧
  ∃ l l',s.all[s.hist.length + s.row]? = some l ∧ s'.all[s.hist.length + s.row]? = some l' ∧ l'.a = l.a := by
 refine in_1361 _ ?_
 unfold cd_1361
 have h1 := h.sc
 have h2 := h.cu
 have h5 := h.ma
 unfold Scr.scF at h1
 unfold Scr.cuF at h2
 unfold Scr.maF at h5
 have hr := h.rwb
 have hb := h.rb
 walk_at "r"
 refine r_sattr h2 rfl rfl ?_
 obtain ⟨l,hl,hla⟩ := h.rowAt
 have len := h.len
 obtain ⟨s0,hs0⟩ : ∃ s0,s0 = s.cuTo s.row s.col false s.pen := ⟨_,rfl⟩
 have I1 : Is (setF H s.cu (.inst 976 s0.cuF)) s0 := by rw [hs0]; exact h.setCu s.row s.col false s.pen h.rb h.cb
 have F1 : Frm s H s0 (setF H s.cu (.inst 976 s0.cuF)) := by rw [hs0]; exact Frm.set (foot_cu s) rfl
 rw [show putF 13 (V.bool false) [(11,V.int s.row),(12,.int s.col),(13,.bool s.wait),(25,pn s.pen),(26,.bool false),(27,.bool false)] = s0.cuF by rw [hs0]; rfl]
 generalize setF H s.cu (.inst 976 s0.cuF) = H1 at *
 have e1 : s0.sc = s.sc := by rw [hs0]; rfl
 have e2 : s0.row = s.row := by rw [hs0]; rfl
 have e3 : s0.rows = s.rows := by rw [hs0]; rfl
 have e4 : s0.hist = s.hist := by rw [hs0]; rfl
 have e5 : s0.all = s.all := by rw [hs0]; rfl
 have e6 : s0.wait = false := by rw [hs0]; rfl
 have e7 : s0.col = s.col := by rw [hs0]; rfl
 have e8 : s0.cols = s.cols := by rw [hs0]; rfl
 have e9 : s0.pen = s.pen := by rw [hs0]; rfl
 have e10 : s0.grid = s.grid := by rw [hs0]; rfl
 have e11 : s0.lv = s.lv := by rw [hs0]; rfl
 have hb0 := I1.rb
 have hc0 := I1.cb
 clear hs0
 have j1 := I1.sc
 have j2 := I1.cu
 have j5 := I1.ma
 unfold Scr.scF at j1
 unfold Scr.cuF at j2
 unfold Scr.maF at j5
 rw [e1] at j1
 walk_at "r"
 by_cases q : s.row + 1 = s.rows
 ·refine r_t (by simp; omega) ?_
  walk_at "c"
  refine r_call1 ((show CallW W 1 (.ref 1263) [.ref s.sc] H1 (is (.bool true) H1) by rw [← e1]; exact sp_between I1).tu rfl) rfl ?_
  refine is_elim ?_
  walk_at "r"
  have e : s.hist.length + s.row = s.all.length - 1 := by omega
  have hl' : s0.grid[s0.rows - 1]? = some l := by rw [e10,e3,show s.rows - 1 = s.row by omega]; exact hl
  refine r_call2 ((show CallW W 8 (.ref 1347) [.ref s.sc,.int 1] H1 (fun x H' => x = .none ∧ ∃ gl' nl,Is H' (s0.rolled gl' l nl) ∧ Frm s0 H1 (s0.rolled gl' l nl) H' ∧ nl.cells = List.replicate s0.cols blank ∧ nl.wr = false) by rw [← e1]; exact sp_sscroll I1 hl' (by rw [e4]; exact hn)).tu rfl) rfl ?_
  rintro _ H2 ⟨rfl,gl',nl,I2,F2,hcs,hw⟩
  have k1 := I2.sc
  unfold Scr.scF at k1
  rw [show (s0.rolled gl' l nl).sc = s.sc from e1] at k1
  walk_at "r"
  refine r_call1 ((show CallW W 3 (.ref 1375) [.ref s.sc] H2 (is .none H2) by have z := sp_keep (W := W) I2; rw [show (s0.rolled gl' l nl).sc = s.sc from e1] at z; exact z).tu rfl) rfl ?_
  refine is_elim ?_
  walk_at "r"
  have hla' : s0.all[s0.all.length - 1]? = some l := by rw [e5,← e]; exact hla
  refine Run.nil ⟨rfl,_,I2,F1.trans F2,e7,⟨⟨e1,e3,e8,e9⟩,e6,fun z => by omega,fun _ => ⟨?_,e2,?_⟩⟩,l,{ l with wr := false },hla,?_,rfl⟩
  ·have := I2.len
   have g : (s0.rolled gl' l nl).all.length = s.all.length + 1 := by rw [Scr.all_rolled,e5]; simp
   have r : (s0.rolled gl' l nl).rows = s.rows := e3
   omega
  ·rw [lv_rolled hla',hcs,hw,e,e11,e5,e8]; rfl
  ·rw [Scr.all_rolled,e5,List.getElem?_append_left (by simp; omega),List.getElem?_set,if_pos e.symm,if_pos (by omega)]
 ·refine r_f (by simp; omega) ?_
  walk_at "c"
  refine r_t (decide_eq_true (by omega)) ?_
  walk_at "c"
  rw [show (s0.row : Int) + 1 = ((s0.row + 1 : Nat) : Int) by omega]
  refine r_sattr j2 rfl rfl ?_
  have I2 := I1.setCu (s0.row + 1) s0.col s0.wait s0.pen (by omega) hc0
  have F2 : Frm s0 H1 (s0.cuTo (s0.row + 1) s0.col s0.wait s0.pen) (setF H1 s0.cu (.inst 976 (s0.cuTo (s0.row + 1) s0.col s0.wait s0.pen).cuF)) := Frm.set (foot_cu s0) rfl
  have k1 := I2.sc
  unfold Scr.scF at k1
  rw [show ({ s0 with row := s0.row + 1,col := s0.col,wait := s0.wait,pen := s0.pen } : Scr).sc = s.sc from e1] at k1
  walk_at "r"
  refine r_call1 ((show CallW W 3 (.ref 1375) [.ref s.sc] _ (is .none _) by have z := sp_keep (W := W) I2; rw [show ({ s0 with row := s0.row + 1,col := s0.col,wait := s0.wait,pen := s0.pen } : Scr).sc = s.sc from e1] at z; exact z).tu rfl) rfl ?_
  refine is_elim ?_
  walk_at "r"
  exact Run.nil ⟨rfl,_,I2,F1.trans F2,e7,⟨⟨e1,e3,e8,e9⟩,e6,fun _ => ⟨by show s0.hist.length = _; rw [e4],by show s0.row + 1 = _; rw [e2],e11⟩,fun z => absurd z q⟩,l,l,hla,by show s0.all[_]? = _; rw [e5]; exact hla,rfl⟩
theorem sp_wrap (h : Is H s) (hn : s.hist.length + 1 ≤ 300) : CallW W 10 (.ref 1333) [.ref s.sc] H fun x H' => x = .none ∧ ∃ s',Is H' s' ∧ Frm s H s' H' ∧ s'.col = 0 ∧ NextL (some true) s s' := by
 refine in_1333 _ ?_
 unfold cd_1333
 have h1 := h.sc
 have h2 := h.cu
 unfold Scr.scF at h1
 unfold Scr.cuF at h2
 obtain ⟨l,hl,hla⟩ := h.rowAt
 have hcl := h.cl
 have hrw := h.rwb
 have hrb := h.rb
 walk_at "r"
 refine r_call1 ((sp_line h hl).tu rfl) rfl ?_
 refine is_elim ?_
 walk_at "r"
 refine r_call1 ((sp_lb h).tu rfl) rfl ?_
 refine is_elim ?_
 walk_at "r"
 refine r_call1 ((sp_index h hn).tu rfl) rfl ?_
 rintro _ H1 ⟨rfl,s1,I1,F1,hc1,N1,l0,l1,e0,el,ea⟩
 rw [hla] at e0; cases e0
 have j1 := I1.sc
 have j2 := I1.cu
 unfold Scr.scF at j1
 unfold Scr.cuF at j2
 rw [N1.same.sc] at j1
 walk_at "r"
 refine r_sattr j2 rfl rfl ?_
 obtain ⟨s2,hs2⟩ : ∃ s2,s2 = s1.cuTo s1.row 0 s1.wait s1.pen := ⟨_,rfl⟩
 have I2 : Is (setF H1 s1.cu (.inst 976 s2.cuF)) s2 := by rw [hs2]; exact I1.setCu s1.row 0 s1.wait s1.pen I1.rb (by have := I1.cl; omega)
 have F2 : Frm s1 H1 s2 (setF H1 s1.cu (.inst 976 s2.cuF)) := by rw [hs2]; exact Frm.set (foot_cu s1) rfl
 rw [show putF 12 (V.int 0) [(11,V.int s1.row),(12,.int s1.col),(13,.bool s1.wait),(25,pn s1.pen),(26,.bool false),(27,.bool false)] = s2.cuF by rw [hs2]; rfl]
 generalize setF H1 s1.cu (.inst 976 s2.cuF) = H2 at *
 have e1 : s2.sc = s.sc := by rw [hs2]; exact N1.same.sc
 have e2 : s2.row = s1.row := by rw [hs2]; rfl
 have e3 : s2.rows = s.rows := by rw [hs2]; exact N1.same.rows
 have e4 : s2.hist = s1.hist := by rw [hs2]; rfl
 have e5 : s2.all = s1.all := by rw [hs2]; rfl
 have e6 : s2.wait = s1.wait := by rw [hs2]; rfl
 have e7 : s2.col = 0 := by rw [hs2]; rfl
 have e8 : s2.cols = s.cols := by rw [hs2]; exact N1.same.cols
 have e9 : s2.pen = s.pen := by rw [hs2]; exact N1.same.pen
 have e11 : s2.lv = s1.lv := by rw [hs2]; rfl
 clear hs2
 have k1 := I2.sc
 have k2 := I2.cu
 have k5 := I2.ma
 unfold Scr.scF at k1
 unfold Scr.cuF at k2
 unfold Scr.maF at k5
 rw [e1] at k1
 walk_at "r"
 refine r_call1 ((show CallW W 3 (.ref 1375) [.ref s.sc] H2 (is .none H2) by rw [← e1]; exact sp_keep I2).tu rfl) rfl ?_
 refine is_elim ?_
 walk_at "r"
 refine r_t (by simp) ?_
 walk_at "c"
 have el2 : s2.all[s.hist.length + s.row]? = some l1 := by rw [e5]; exact el
 have l1m : l1 ∈ s2.all := List.mem_of_getElem? el2
 have lo := (I2.ln l1 l1m).o
 have I3 := I2.setWr el2 true
 have F3 : Frm s2 H2 (s2.setL (s.hist.length + s.row) { l1 with wr := true }) (setF H2 l1.a (.inst 251 (lf l1.c true))) := Frm.set (foot_a l1m) (I2.foot_setL (cs := l1.cells) el2)
 have at1 : s1.lv[s.hist.length + s.row]? = some (l1.cells,l1.wr) := by unfold Scr.lv; rw [List.getElem?_map]; exact congrArg (Option.map _) el
 have lv3 : (s2.setL (s.hist.length + s.row) { l1 with wr := true }).lv = s1.lv.modify (s.hist.length + s.row) (fun p => (p.1,true)) := by
  rw [lv_setL (cs := l1.cells) el2,e11]; exact (modify_ext (fun p => (p.1,true)) at1).symm
 rw [ea] at lo I3 F3 lv3
 unfold lf at lo
 have lt : s.hist.length + s.row < s.lv.length := by unfold Scr.lv; rw [List.length_map]; exact (List.getElem?_eq_some_iff.mp hla).1
 have nn : s1.row ≠ s.row ∨ s.row + 1 = s.rows := by
  by_cases q : s.row + 1 = s.rows
  ·exact .inr q
  ·have := (N1.a (by omega)).2.1; exact .inl (by omega)
 have fin : ∀ {ρ : Ro},Run W 9 [] [] ρ (setF H2 l.a (.inst 251 (lf l1.c true))) (behind fun x H' => x = .none ∧ ∃ s',Is H' s' ∧ Frm s H s' H' ∧ s'.col = 0 ∧ NextL (some true) s s') := fun {ρ} => by
  refine Run.nil ⟨rfl,_,I3,(F1.trans F2).trans F3,e7,⟨⟨e1,e3,e8,e9⟩,e6.trans N1.wait,fun q => ?_,fun q => ?_⟩⟩
  ·obtain ⟨a1,a2,a3⟩ := N1.a q
   refine ⟨by simpa [Scr.setL,e4] using a1,e2.trans a2,?_⟩
   rw [lv3,a3]
  ·obtain ⟨a1,a2,a3⟩ := N1.b q
   refine ⟨by simpa [Scr.setL,e4] using a1,e2.trans a2,?_⟩
   rw [lv3,a3,modify_app _ (by simpa using lt),modify_mod]
   rfl
 rcases nn with nn | nn
 ·refine r_t (by simp; omega) ?_
  walk_at "c"
  refine r_sattr lo rfl rfl ?_
  exact fin
 ·by_cases q : s1.row = s.row
  ·refine r_f (by simp; omega) ?_
   walk_at "c"
   refine r_t (by simp; omega) ?_
   walk_at "c"
   refine r_sattr lo rfl rfl ?_
   exact fin
  ·refine r_t (by simp; omega) ?_
   walk_at "c"
   refine r_sattr lo rfl rfl ?_
   exact fin
theorem sp_next (h : Is H s) (hn : s.hist.length + 1 ≤ 300) : CallW W 10 (.ref 1389) [.ref s.sc] H fun x H' => x = .none ∧ ∃ s',Is H' s' ∧ Frm s H s' H' ∧ s'.col = 0 ∧ NextL none s s' := by
 refine in_1389 _ ?_
 unfold cd_1389
 have h1 := h.sc
 unfold Scr.scF at h1
 walk_at "r"
 refine r_call1 ((sp_index h hn).tu rfl) rfl ?_
 rintro _ H1 ⟨rfl,s1,I1,F1,hc1,N1,_⟩
 have j1 := I1.sc
 unfold Scr.scF at j1
 rw [N1.same.sc] at j1
 walk_at "r"
 refine r_call1 (((N1.same.sc ▸ sp_cret I1 : CallW W 4 (.ref 1382) [.ref s.sc] H1 (fun x H' => x = .none ∧ Is H' { s1 with col := 0,wait := false } ∧ Frm s1 H1 { s1 with col := 0,wait := false } H'))).tu rfl) rfl ?_
 rintro _ H2 ⟨rfl,I2,F2⟩
 walk_at "r"
 exact Run.nil ⟨rfl,_,I2,F1.trans F2,rfl,⟨⟨N1.same.sc,N1.same.rows,N1.same.cols,N1.same.pen⟩,rfl,N1.a,N1.b⟩⟩
end
abbrev LS := List (List Cell × Bool) × List Cell
def sgc (c : Cell) : List Cell := if c.w = 2 then [c,half c.k] else [c]
def Sg (c : Cell) : Prop := (c.w = 1 ∨ c.w = 2) ∧ c.cs ≠ []
def putS (cols : Nat) (st : LS) (c : Cell) : LS := if st.2.length + c.w ≤ cols then (st.1,st.2 ++ sgc c) else (st.1 ++ [(st.2,true)],sgc c)
def newT (st : LS) : LS := (st.1 ++ [(st.2,false)],[])
def padP (cols : Nat) (q : List Cell × Bool) : List Cell × Bool := (q.1 ++ List.replicate (cols - q.1.length) blank,q.2)
def fullL (cols : Nat) (st : LS) : List (List Cell × Bool) := (st.1 ++ [(st.2,false)]).map (padP cols)
theorem sgc_len {c : Cell} (h : Sg c) : (sgc c).length = c.w := by
 unfold sgc; rcases h.1 with h | h <;> simp [h]
structure Good (s : Scr) (st : LS) : Prop where
 lv : s.lv = fullL s.cols st ++ List.replicate (s.rows - (st.1.length + 1)) (List.replicate s.cols blank,false)
 first : s.hist.length = st.1.length + 1 - s.rows
 row : s.hist.length + s.row = st.1.length
 col : s.col = min st.2.length (s.cols - 1)
 wait : s.wait = (st.2.length == s.cols)
 plen : st.2.length ≤ s.cols
 wf : ∃ t : List Cell,st.2 = t.flatMap sgc ∧ ∀ c ∈ t,Sg c
theorem Good.next {H H' : Hp} {s s' : Scr} {A : List (List Cell × Bool)} {p : List Cell} {w : Option Bool} (h : Is H s) (h' : Is H' s') (g : Good s (A,p)) (n : NextL w s s') (hc : s'.col = 0) : Good s' (A ++ [(p,w.getD false)],[]) := by
 obtain ⟨lv,first,row,col,wait,plen,wf⟩ := g
 dsimp only at lv first row col wait plen
 have hb := h.rb
 have hr := h.rwb
 have hcl := h.cl
 have e1 : s'.rows = s.rows := n.same.rows
 have e2 : s'.cols = s.cols := n.same.cols
 have md : ∀ (T : List (List Cell × Bool)) (b : Bool),(fullL s.cols (A,p) ++ T).modify A.length (fun q => (q.1,b)) = (A ++ [(p,b)]).map (padP s.cols) ++ T := fun T b => by
  unfold fullL
  rw [List.map_append,List.map_append,List.append_assoc,List.append_assoc]
  have : ∀ (B : List (List Cell × Bool)) (x : List Cell × Bool),(B ++ ([x] ++ T)).modify B.length (fun q => (q.1,b)) = B ++ ([(x.1,b)] ++ T) := by
   intro B x
   induction B with
   | nil => simp
   | cons y B ih => simpa using ih
  have := this (A.map (padP s.cols)) (padP s.cols (p,false))
  rw [List.length_map] at this
  exact this
 have e0 : padP s.cols ([],false) = (List.replicate s.cols blank,false) := by simp [padP]
 have goal1 : s'.lv = fullL s.cols (A ++ [(p,w.getD false)],[]) ++ List.replicate (s.rows - (A.length + 2)) (List.replicate s.cols blank,false) ∧ s'.hist.length = A.length + 2 - s.rows ∧ s'.hist.length + s'.row = A.length + 1 := by
  by_cases q : s.row + 1 < s.rows
  ·obtain ⟨a1,a2,a3⟩ := n.a q
   refine ⟨?_,by omega,by omega⟩
   have er : List.replicate (s.rows - (A.length + 1)) (List.replicate s.cols blank,false) = (List.replicate s.cols blank,false) :: List.replicate (s.rows - (A.length + 2)) (List.replicate s.cols blank,false) := by
    rw [show s.rows - (A.length + 1) = (s.rows - (A.length + 2)) + 1 by omega,List.replicate_succ]
   have e3 : s'.lv = (A ++ [(p,w.getD false)]).map (padP s.cols) ++ List.replicate (s.rows - (A.length + 1)) (List.replicate s.cols blank,false) := by
    rw [a3]
    cases w with
    | none => exact lv
    | some b => rw [row,lv]; exact md _ b
   rw [e3,er]
   unfold fullL
   simp [e0]
  ·obtain ⟨a1,a2,a3⟩ := n.b (by omega)
   refine ⟨?_,by omega,by omega⟩
   rw [a3,row,lv,show s.rows - (A.length + 1) = 0 by omega,show s.rows - (A.length + 2) = 0 by omega,md]
   unfold fullL
   simp [e0]
 obtain ⟨g1,g2,g3⟩ := goal1
 refine ⟨?_,?_,?_,?_,?_,Nat.zero_le _,[],rfl,by simp⟩
 ·rw [e1,e2]; simpa using g1
 ·rw [e1]; simpa using g2
 ·simpa using g3
 ·rw [hc]; simp
 ·rw [n.wait,e2]
  show false = ((0 : Nat) == s.cols)
  have : (0 == s.cols) = false := by simp; omega
  exact this.symm
theorem fullL_at {cols : Nat} {A : List (List Cell × Bool)} {p : List Cell} (T : List (List Cell × Bool)) : (fullL cols (A,p) ++ T)[A.length]? = some (padP cols (p,false)) := by
 unfold fullL
 rw [List.map_append,List.append_assoc,List.getElem?_append_right (by simp)]
 simp
theorem fullL_set {cols : Nat} {A : List (List Cell × Bool)} {p p' : List Cell} (T : List (List Cell × Bool)) : (fullL cols (A,p) ++ T).set A.length (padP cols (p',false)) = fullL cols (A,p') ++ T := by
 unfold fullL
 rw [List.map_append,List.map_append,List.append_assoc,List.append_assoc]
 have : ∀ (B : List (List Cell × Bool)) (x y : List Cell × Bool),(B ++ ([x] ++ T)).set B.length y = B ++ ([y] ++ T) := by
  intro B x y
  induction B with
  | nil => simp
  | cons z B ih => simpa using ih
 have := this (A.map (padP cols)) (padP cols (p,false)) (padP cols (p',false))
 rw [List.length_map] at this
 exact this
theorem put_pad {cols : Nat} {p : List Cell} {c : Cell} (hc : Sg c) (h : p.length + c.w ≤ cols) : putC (padP cols (p,false)).1 p.length c = (padP cols (p ++ sgc c,false)).1 := by
 unfold putC padP sgc
 dsimp only
 have two : ∀ (q : List Cell) (k : Nat) (x y : Cell),(q ++ List.replicate (k + 2) blank).set q.length x = q ++ x :: List.replicate (k + 1) blank := by
  intro q k x y; rw [List.set_append]; simp [List.replicate_succ]
 rcases hc.1 with hw | hw
 ·rw [if_neg (by omega),if_neg (by omega)]
  obtain ⟨k,hk⟩ : ∃ k,cols - p.length = k + 1 := ⟨cols - p.length - 1,by omega⟩
  rw [hk,List.set_append,if_neg (by omega)]
  simp [List.replicate_succ]
  omega
 ·rw [if_pos hw,if_pos hw]
  obtain ⟨k,hk⟩ : ∃ k,cols - p.length = k + 2 := ⟨cols - p.length - 2,by omega⟩
  rw [hk,List.set_append,if_neg (by omega),Nat.sub_self,List.set_append,if_neg (by omega),show p.length + 1 - p.length = 1 by omega]
  simp [List.replicate_succ]
  omega
theorem Good.lineAt {H : Hp} {s : Scr} {A : List (List Cell × Bool)} {p : List Cell} (h : Is H s) (g : Good s (A,p)) : ∃ l,s.grid[s.row]? = some l ∧ s.all[s.hist.length + s.row]? = some l ∧ l.cells = (padP s.cols (p,false)).1 ∧ l.wr = false := by
 obtain ⟨l,h1,h2⟩ := h.rowAt
 refine ⟨l,h1,h2,?_⟩
 have : s.lv[s.hist.length + s.row]? = some (l.cells,l.wr) := by unfold Scr.lv; rw [List.getElem?_map,h2]; rfl
 rw [g.lv,g.row] at this
 dsimp only at this
 rw [fullL_at] at this
 have := Option.some.inj this
 exact ⟨congrArg Prod.fst this.symm,congrArg Prod.snd this.symm⟩
def cellsOf (t : List Cell) : List Cell := t.flatMap sgc
theorem cellsOf_app (t u : List Cell) : cellsOf (t ++ u) = cellsOf t ++ cellsOf u := by simp [cellsOf]
theorem cellsOf_one (c : Cell) : cellsOf [c] = sgc c := by simp [cellsOf]
def Scr.laTo (s : Scr) (x : Nat) : Scr := { s with la := x }
def mkC (c : Cell) : Cell := { c with cs := c.cs ++ [769] }
abbrev TS := List (List Cell × Bool) × List Cell
def TS.ls (st : TS) : LS := (st.1.map (fun q => (cellsOf q.1,q.2)),cellsOf st.2)
def putT (cols : Nat) (st : TS) (c : Cell) : TS := if (cellsOf st.2).length + c.w ≤ cols then (st.1,st.2 ++ [c]) else (st.1 ++ [(st.2,true)],[c])
def nlT (st : TS) : TS := (st.1 ++ [(st.2,false)],[])
def mkT (st : TS) : TS := match st.2.reverse with | [] => st | c :: r => (st.1,r.reverse ++ [mkC c])
def stepT (cols : Nat) (st : TS) (x : Nat × Nat) : TS := if x.1 = 0 then nlT st else if x.1 = 769 then mkT st else putT cols st ⟨[x.1],if 19968 ≤ x.1 then 2 else 1,x.2⟩
structure GoodT (s : Scr) (st : TS) : Prop where
 g : Good s st.ls
 sg : ∀ c ∈ st.2,Sg c ∧ c.cs.length ≤ 500
theorem sgc_shape {c : Cell} (hc : Sg c) (p : List Cell) (k : Nat) : ∀ c',(p ++ sgc c ++ List.replicate k blank)[p.length]? = some c' → c' = c := by
 intro c' h
 rw [List.append_assoc,List.getElem?_append_right (by omega),Nat.sub_self] at h
 unfold sgc at h
 split at h <;> simpa using h.symm
section
variable {W : Wx} {H : Hp} {s : Scr}
theorem get_blank {p : List Cell} {k i : Nat} (hi : p.length ≤ i) {c : Cell} (h : (p ++ List.replicate k blank)[i]? = some c) : c = blank := by
 rw [List.getElem?_append_right hi,List.getElem?_replicate] at h
 split at h
 ·exact (Option.some.inj h).symm
 ·cases h
theorem sp_putAt {st : TS} (h : Is H s) (g : GoodT s st) {c : Cell} (hc : Sg c) (fits : (cellsOf st.2).length + c.w ≤ s.cols) {l : Ln} (hl : s.all[s.hist.length + s.row]? = some l) (hcs : l.cells = (padP s.cols (cellsOf st.2,false)).1) (hw : l.wr = false) (hb : c.cs.length ≤ 500) :
  let s1 := s.setL (s.hist.length + s.row) { l with cells := (padP s.cols (cellsOf st.2 ++ sgc c,false)).1 }
  CallW W 3 (.ref 169) [.ref l.a,.int (s.col : Nat),c.v] H (fun x H' => x = .none ∧ Is H' s1 ∧ Frm s H s1 H') ∧ (∀ x,GoodT ((s1.adv s.col c.w).laTo x) (st.1,st.2 ++ [c])) := by
 intro s1
 obtain ⟨⟨lv,first,row,col,wait,plen,wf⟩,sg⟩ := g
 unfold TS.ls at lv first row col wait plen
 dsimp only at lv first row col wait plen
 have lm : l ∈ s.all := List.mem_of_getElem? hl
 have hcl := h.cl
 have hwid := h.wid l lm
 have cw : 1 ≤ c.w ∧ c.w ≤ 2 := by rcases hc.1 with q | q <;> omega
 have col' : s.col = (cellsOf st.2).length := by omega
 have s1c : s1.cols = s.cols := rfl
 have sl := sgc_len hc
 constructor
 ·have := sp_put (W := W) (j := s.col) (c := c) (h.ln l lm) (by omega) hc.1 (by omega) (fun c' q => ?_) (fun c' q => ?_)
  ·refine this.mono ?_
   rintro x H' ⟨rfl,rfl⟩
   rw [hcs,col',put_pad hc fits]
   exact ⟨rfl,h.setCells hl (by unfold padP; simp [sl]; omega),Frm.set (foot_c lm) (h.foot_setL (w := l.wr) hl)⟩
  ·rw [hcs] at q
   rw [get_blank (p := cellsOf st.2) (by omega) q]; decide
  ·rw [hcs] at q
   rw [get_blank (p := cellsOf st.2) (by omega) q]; decide
 ·intro x
  have e : cellsOf (st.2 ++ [c]) = cellsOf st.2 ++ sgc c := by rw [cellsOf_app,cellsOf_one]
  have key : ∀ (s2 : Scr),s2.lv = s1.lv → s2.rows = s.rows → s2.cols = s.cols → s2.hist.length = s.hist.length → s2.row = s.row → s2.col = min ((cellsOf st.2).length + c.w) (s.cols - 1) → s2.wait = ((cellsOf st.2).length + c.w == s.cols) → GoodT s2 (st.1,st.2 ++ [c]) := by
   intro s2 q1 q2 q3 q4 q5 q6 q7
   refine ⟨⟨?_,?_,?_,?_,?_,?_,?_⟩,?_⟩
   ·unfold TS.ls
    dsimp only
    rw [q1,q2,q3,e,lv_setL (cs := (padP s.cols (cellsOf st.2 ++ sgc c,false)).1) (w := l.wr) hl,row,lv,hw]
    exact fullL_set (p' := cellsOf st.2 ++ sgc c) _
   ·unfold TS.ls; dsimp only; rw [q4,q2]; simpa using first
   ·unfold TS.ls; dsimp only; rw [q4,q5]; simpa using row
   ·unfold TS.ls; dsimp only; rw [q6,q3,e,List.length_append,sl]
   ·unfold TS.ls; dsimp only; rw [q7,q3,e,List.length_append,sl]
   ·unfold TS.ls; dsimp only; rw [q3,e,List.length_append,sl]; exact fits
   ·exact ⟨st.2 ++ [c],rfl,fun y hy => by
     rcases List.mem_append.mp hy with hy | hy
     ·exact (sg y hy).1
     ·rw [List.mem_singleton.mp hy]; exact hc⟩
   ·intro y hy
    rcases List.mem_append.mp hy with hy | hy
    ·exact sg y hy
    ·rw [List.mem_singleton.mp hy]; exact ⟨hc,hb⟩
  have hh : s1.hist.length = s.hist.length := by simp [s1,Scr.setL]
  by_cases q : s1.cols ≤ s.col + c.w
  ·unfold Scr.adv
   rw [if_pos q]
   rw [s1c,col'] at q
   refine key _ rfl rfl rfl hh rfl ?_ ?_
   ·show s.cols - 1 = _; omega
   ·show true = _; rw [eq_comm,beq_iff_eq]; omega
  ·unfold Scr.adv
   rw [if_neg q]
   rw [s1c,col'] at q
   refine key _ rfl rfl rfl hh rfl ?_ ?_
   ·show s.col + c.w = _; omega
   ·show false = _; rw [eq_comm,beq_eq_false_iff_ne]; omega
theorem sp_is_on_off (h : Is H s) {x : Str} (hx : (dAt x onL).isNone = true) : CallW W 1 (.ref 782) [.ref s.mo,.str x] H (is (.bool false) H) := by
 have := sp_is_on (W := W) h x
 rw [Option.isNone_iff_eq_none.mp hx] at this
 exact this
theorem sp_is_on_wrap (h : Is H s) : CallW W 1 (.ref 782) [.ref s.mo,.str (S "autowrap")] H (is (.bool true) H) := sp_is_on (W := W) h (S "autowrap")
theorem sp_put_sign {st : TS} (h : Is H s) (g : GoodT s st) {c : Cell} (hc : Sg c) (hk : c.k = s.pen) (hb : c.cs.length ≤ 500) (hn : s.hist.length + 1 ≤ 300) :
  CallW W 11 (.ref 1319) [.ref s.sc,.tup (isV c.cs),.int c.w] H fun x H' => x = .none ∧ ∃ s',Is H' s' ∧ Frm s H s' H' ∧ Same s s' ∧ GoodT s' (putT s.cols st c) := by
 refine in_1319 _ _ _ ?_
 unfold cd_1319
 have hcl := h.cl
 have hlen : (isV c.cs).length = c.cs.length := by simp [isV]
 have tail : ∀ {H1 : Hp} {s1 : Scr} {st1 : TS} {x3 x4 : Option V},Is H1 s1 → GoodT s1 st1 → Same s s1 → Frm s H s1 H1 → (cellsOf st1.2).length + c.w ≤ s.cols → (st1.1,st1.2 ++ [c]) = putT s.cols st c →
   Run W 10 [I.loc 0,.attr 35,.attr 12,.sto 4,.loc 0,.attr 31,.mth 16,.lit (.str (S "insert")),.call 2,.chk,.ite [.bad,.pop,.loc 3,.loc 0,.mth 25,.loc 0,.attr 35,.attr 11,.call 2,.lit (.int (1)),.bin .Sub,.cmp .Eq,.chk,.ite [.lit (.bool false),.loc 0,.mth 3,.call 1,.sattr 1] []] [],.loc 0,.mth 3,.call 1,.mth 1,.loc 4,.loc 1,.loc 2,.loc 0,.attr 35,.attr 25,.loc 0,.attr 35,.attr 27,.tup 4,.call 3,.pop,.loc 0,.mth 35,.loc 4,.loc 2,.call 3,.pop,.lit (.raw (.type "list")),.loc 1,.call 1,.loc 0,.sattr 40] []
    [some (.ref s.sc),some (.tup (isV c.cs)),some (.int c.w),x3,x4] H1 (behind fun x H' => x = .none ∧ ∃ s',Is H' s' ∧ Frm s H s' H' ∧ Same s s' ∧ GoodT s' (putT s.cols st c)) := by
  intro H1 s1 st1 x3 x4 I1 g1 sm F1 fits ef
  have j1 := I1.sc
  have j2 := I1.cu
  have j3 := I1.mo
  have hp := pn_hand s1.pen
  unfold Scr.scF at j1
  unfold Scr.cuF at j2
  rw [sm.sc] at j1
  walk_at "r"
  refine r_call2 ((sp_is_on_off I1 (x := S "insert") (by decide +kernel)).tu rfl) rfl ?_
  refine is_elim ?_
  walk_at "r"
  obtain ⟨l,hl1,hl2,hl3,hl4⟩ := g1.g.lineAt I1
  refine r_call1 ((show CallW W 2 (.ref 1235) [.ref s.sc] H1 (is (.ref l.a) H1) by rw [← sm.sc]; exact sp_line I1 hl1).tu rfl) rfl ?_
  refine is_elim ?_
  have lo := (I1.ln l (List.mem_of_getElem? hl2)).o
  walk_at "r"
  obtain ⟨P1,P2⟩ := sp_putAt (W := W) I1 g1 hc (by rw [sm.cols]; exact fits) hl2 hl3 hl4 hb
  rw [show V.tup [V.tup (isV c.cs),.int c.w,pn s1.pen,.bool false] = c.v by unfold Cell.v; rw [hk,sm.pen]]
  refine r_call3 (P1.tu rfl) rfl ?_
  rintro _ H2 ⟨rfl,I2,F2⟩
  generalize hs2 : s1.setL (s1.hist.length + s1.row) { l with cells := (padP s1.cols (cellsOf st1.2 ++ sgc c,false)).1 } = s2 at *
  have e2 : s2.sc = s.sc := by rw [← hs2]; exact sm.sc
  have k1 := I2.sc
  unfold Scr.scF at k1
  rw [e2] at k1
  walk_at "r"
  refine r_call3 ((show CallW W 4 (.ref 1326) [.ref s.sc,.int (s1.col : Nat),.int c.w] H2 (fun x H' => x = .none ∧ Is H' (s2.adv s1.col c.w) ∧ Frm s2 H2 (s2.adv s1.col c.w) H') by rw [← e2]; exact sp_advance I2 s1.col c.w).tu rfl) rfl ?_
  rintro _ H3 ⟨rfl,I3,F3⟩
  have ex : ∀ x,Same s ((s2.adv s1.col c.w).laTo x) := fun x => by
   have : ∀ q,(s2.adv q c.w).sc = s2.sc ∧ (s2.adv q c.w).rows = s2.rows ∧ (s2.adv q c.w).cols = s2.cols ∧ (s2.adv q c.w).pen = s2.pen := fun q => by
    unfold Scr.adv; split <;> exact ⟨rfl,rfl,rfl,rfl⟩
   obtain ⟨q1,q2,q3,q4⟩ := this s1.col
   refine ⟨q1.trans e2,q2.trans ?_,q3.trans ?_,q4.trans ?_⟩ <;> rw [← hs2]
   ·exact sm.rows
   ·exact sm.cols
   ·exact sm.pen
  generalize s2.adv s1.col c.w = s3 at *
  have e3 : s3.sc = s.sc := (ex 0).sc
  walk_at "r"
  refine r_listTE (by omega) fun c4 H4 f4 g4 E4 => ?_
  have I4 := I3.ext E4
  have m1 := I4.sc
  unfold Scr.scF at m1
  rw [e3] at m1
  walk_at "r"
  refine r_sattr m1 rfl rfl ?_
  have I5 : Is (setF H4 s3.sc (.inst 1485 (s3.laTo c4).scF)) (s3.laTo c4) := I4.setLa c4
  have F5 : Frm s3 H4 (s3.laTo c4) (setF H4 s3.sc (.inst 1485 (s3.laTo c4).scF)) := Frm.set (foot_sc s3) rfl
  rw [e3] at I5 F5
  have es : (s3.laTo c4).scF = putF 40 (.ref c4) [(3,V.int s3.rows),(4,.int s3.cols),(31,.ref s3.mo),(32,.ref s3.wt),(33,.ref s3.hi),(34,.ref s3.gr),(35,.ref s3.cu),(36,.ref s3.ma),(37,.ref s3.tb),(38,.ref s3.ch),(39,.none),(40,.ref s3.la),(41,.bool false)] := rfl
  rw [es] at I5 F5
  refine Run.nil ⟨rfl,_,I5,(((F1.trans F2).trans F3).trans (Frm.ext E4)).trans F5,ex c4,?_⟩
  rw [← ef]; exact P2 c4
 have hc2 := hc.1
 have cw : 1 ≤ c.w ∧ c.w ≤ 2 := by rcases hc.1 with q | q <;> omega
 have wrapped : ∀ {H1 : Hp} {s1 : Scr},Is H1 s1 → s1.col = 0 → NextL (some true) s s1 → s.cols < (cellsOf st.2).length + c.w → GoodT s1 (st.1 ++ [(st.2,true)],[]) ∧ ((st.1 ++ [(st.2,true)],([] : List Cell) ++ [c]) : TS) = putT s.cols st c := by
  intro H1 s1 I1 q0 n1 q1
  refine ⟨⟨?_,by simp⟩,?_⟩
  ·have := Good.next (A := st.ls.1) (p := st.ls.2) h I1 g.g n1 q0
   unfold TS.ls at this ⊢
   simpa [cellsOf] using this
  ·unfold putT; rw [if_neg (by omega)]; rfl
 have two : ∀ {H1 : Hp} {s1 : Scr} {st1 : TS},Is H1 s1 → GoodT s1 st1 → Same s s1 → Frm s H s1 H1 → (cellsOf st1.2).length + c.w ≤ s.cols → (st1.1,st1.2 ++ [c]) = putT s.cols st c → (c.w = 2 → s1.col + 1 < s1.cols) →
   Run W 10 (I.loc 0 :: .mth 26 :: .call 1 :: .sto 3 :: .loc 2 :: .lit (.int (2)) :: .cmp .Eq :: .chk :: .ite [.loc 0,.attr 35,.attr 12,.loc 3,.cmp .GtE,.chk] [.lit (.bool false)] :: .ite [.loc 3,.loc 0,.mth 27,.call 1,.bin .Sub,.lit (.int (1)),.cmp .Lt,.chk,.ite [.lit (.none),.ret] [],.loc 0,.attr 35,.attr 12,.sto 4,.loc 0,.attr 31,.mth 16,.lit (.str (S "autowrap")),.call 2,.chk,.ite [.loc 0,.mth 36,.call 1,.pop] [.loc 3,.lit (.int (1)),.bin .Sub,.loc 0,.attr 35,.sattr 12],.loc 0,.mth 26,.call 1,.sto 3,.loc 0,.attr 35,.attr 12,.loc 3,.cmp .GtE,.chk,.ite [.loc 0,.attr 31,.mth 16,.lit (.str (S "autowrap")),.call 2,.chk,.notb,.ite [.loc 4,.loc 0,.attr 35,.sattr 12] [],.lit (.none),.ret] []] [] ::
    [I.loc 0,.attr 35,.attr 12,.sto 4,.loc 0,.attr 31,.mth 16,.lit (.str (S "insert")),.call 2,.chk,.ite [.bad,.pop,.loc 3,.loc 0,.mth 25,.loc 0,.attr 35,.attr 11,.call 2,.lit (.int (1)),.bin .Sub,.cmp .Eq,.chk,.ite [.lit (.bool false),.loc 0,.mth 3,.call 1,.sattr 1] []] [],.loc 0,.mth 3,.call 1,.mth 1,.loc 4,.loc 1,.loc 2,.loc 0,.attr 35,.attr 25,.loc 0,.attr 35,.attr 27,.tup 4,.call 3,.pop,.loc 0,.mth 35,.loc 4,.loc 2,.call 3,.pop,.lit (.raw (.type "list")),.loc 1,.call 1,.loc 0,.sattr 40]) []
    [some (.ref s.sc),some (.tup (isV c.cs)),some (.int c.w),none,none] H1 (behind fun x H' => x = .none ∧ ∃ s',Is H' s' ∧ Frm s H s' H' ∧ Same s s' ∧ GoodT s' (putT s.cols st c)) := by
  intro H1 s1 st1 I1 g1 sm F1 fits ef hd
  have j1 := I1.sc
  have j2 := I1.cu
  unfold Scr.scF at j1
  unfold Scr.cuF at j2
  rw [sm.sc] at j1
  walk_at "r"
  refine r_call1 ((show CallW W 3 (.ref 1249) [.ref s.sc] H1 (is (.int ((s1.cols : Int) - 1)) H1) by rw [← sm.sc]; exact sp_rb I1).tu rfl) rfl ?_
  refine is_elim ?_
  walk_at "r"
  rcases hc2 with hw | hw
  ·refine r_f (by simp [hw]) ?_
   rw [List.cons_append,List.nil_append]
   refine Run.lit (r_f rfl ?_)
   rw [List.nil_append]
   exact tail I1 g1 sm F1 fits ef
  ·refine r_t (by simp [hw]) ?_
   walk_at "c"
   have := hd hw
   refine r_f (decide_eq_false (by omega)) ?_
   rw [List.nil_append]
   exact tail I1 g1 sm F1 fits ef
 have h1 := h.sc
 have h2 := h.cu
 have h3 := h.mo
 unfold Scr.scF at h1
 unfold Scr.cuF at h2
 have gw := g.g.wait
 have gc := g.g.col
 have gp := g.g.plen
 unfold TS.ls at gw gc gp
 dsimp only at gw gc gp
 have main : Run W 10 (I.loc 0 :: .attr 35 :: .attr 13 :: .chk :: .ite [.loc 0,.attr 31,.mth 16,.lit (.str (S "autowrap")),.call 2,.chk] [.lit (.bool false)] :: .ite [.loc 0,.mth 36,.call 1,.pop] [] ::
   (I.loc 0 :: .mth 26 :: .call 1 :: .sto 3 :: .loc 2 :: .lit (.int (2)) :: .cmp .Eq :: .chk :: .ite [.loc 0,.attr 35,.attr 12,.loc 3,.cmp .GtE,.chk] [.lit (.bool false)] :: .ite [.loc 3,.loc 0,.mth 27,.call 1,.bin .Sub,.lit (.int (1)),.cmp .Lt,.chk,.ite [.lit (.none),.ret] [],.loc 0,.attr 35,.attr 12,.sto 4,.loc 0,.attr 31,.mth 16,.lit (.str (S "autowrap")),.call 2,.chk,.ite [.loc 0,.mth 36,.call 1,.pop] [.loc 3,.lit (.int (1)),.bin .Sub,.loc 0,.attr 35,.sattr 12],.loc 0,.mth 26,.call 1,.sto 3,.loc 0,.attr 35,.attr 12,.loc 3,.cmp .GtE,.chk,.ite [.loc 0,.attr 31,.mth 16,.lit (.str (S "autowrap")),.call 2,.chk,.notb,.ite [.loc 4,.loc 0,.attr 35,.sattr 12] [],.lit (.none),.ret] []] [] ::
    [I.loc 0,.attr 35,.attr 12,.sto 4,.loc 0,.attr 31,.mth 16,.lit (.str (S "insert")),.call 2,.chk,.ite [.bad,.pop,.loc 3,.loc 0,.mth 25,.loc 0,.attr 35,.attr 11,.call 2,.lit (.int (1)),.bin .Sub,.cmp .Eq,.chk,.ite [.lit (.bool false),.loc 0,.mth 3,.call 1,.sattr 1] []] [],.loc 0,.mth 3,.call 1,.mth 1,.loc 4,.loc 1,.loc 2,.loc 0,.attr 35,.attr 25,.loc 0,.attr 35,.attr 27,.tup 4,.call 3,.pop,.loc 0,.mth 35,.loc 4,.loc 2,.call 3,.pop,.lit (.raw (.type "list")),.loc 1,.call 1,.loc 0,.sattr 40])) []
    [some (.ref s.sc),some (.tup (isV c.cs)),some (.int c.w),none,none] H (behind fun x H' => x = .none ∧ ∃ s',Is H' s' ∧ Frm s H s' H' ∧ Same s s' ∧ GoodT s' (putT s.cols st c)) := by
  refine Run.loc rfl ?_
  walk_at "r1"
  walk_at "r1"
  by_cases q : (cellsOf st.2).length = s.cols
  ·have qw : s.wait = true := by rw [gw,beq_iff_eq]; exact q
   refine Run.chk (r_t qw ?_)
   walk_at "c"
   refine r_call2 ((sp_is_on_wrap h).tu rfl) rfl ?_
   refine is_elim ?_
   refine Run.chk (r_t rfl ?_)
   walk_at "c"
   refine r_call1 ((sp_wrap h hn).tu rfl) rfl ?_
   rintro _ H1 ⟨rfl,s1,I1,F1,q0,n1⟩
   refine Run.pop ?_
   obtain ⟨w1,w2⟩ := wrapped I1 q0 n1 (by omega)
   exact two I1 w1 n1.same F1 (by show (cellsOf []).length + c.w ≤ s.cols; simp [cellsOf]; omega) w2 fun _ => by rw [q0,n1.same.cols]; omega
  ·have qw : s.wait = false := by rw [gw,beq_eq_false_iff_ne]; exact q
   refine Run.chk (r_f qw ?_)
   refine Run.lit (r_f rfl ?_)
   rw [List.nil_append]
   by_cases q2 : (cellsOf st.2).length + c.w ≤ s.cols
   ·exact two h g .refl .refl q2 (by unfold putT; rw [if_pos q2]) fun e => by omega
   ·have hw : c.w = 2 := by omega
    walk_at "r"
    refine r_call1 ((sp_rb h).tu rfl) rfl ?_
    refine is_elim ?_
    walk_at "r"
    refine r_t (by simp [hw]) ?_
    walk_at "c"
    refine r_t (decide_eq_true (by omega)) ?_
    walk_at "c"
    refine r_call1 ((sp_lb h).tu rfl) rfl ?_
    refine is_elim ?_
    walk_at "r"
    refine r_f (decide_eq_false (by omega)) ?_
    walk_at "c"
    refine r_call2 ((sp_is_on_wrap h).tu rfl) rfl ?_
    refine is_elim ?_
    walk_at "r"
    refine r_call1 ((sp_wrap h hn).tu rfl) rfl ?_
    rintro _ H1 ⟨rfl,s1,I1,F1,q0,n1⟩
    have j1 := I1.sc
    have j2 := I1.cu
    unfold Scr.scF at j1
    unfold Scr.cuF at j2
    rw [n1.same.sc] at j1
    walk_at "r"
    refine r_call1 ((show CallW W 3 (.ref 1249) [.ref s.sc] H1 (is (.int ((s1.cols : Int) - 1)) H1) by rw [← n1.same.sc]; exact sp_rb I1).tu rfl) rfl ?_
    refine is_elim ?_
    walk_at "r"
    have e1 : s1.cols = s.cols := n1.same.cols
    refine r_f (decide_eq_false (by omega)) ?_
    rw [List.nil_append]
    obtain ⟨w1,w2⟩ := wrapped I1 q0 n1 (by omega)
    exact tail I1 w1 n1.same F1 (by show (cellsOf []).length + c.w ≤ s.cols; simp [cellsOf]; omega) w2
 refine Run.loc rfl (Run.lit (r_eq (Run.chk ?_)))
 rcases hc.1 with hw | hw
 ·refine r_f (by simp [hw]) ?_
  refine Run.lit (r_f rfl ?_)
  exact main
 ·refine r_t (by simp [hw]) ?_
  rw [List.cons_append]
  refine Run.loc rfl ?_
  rw [List.cons_append]
  walk_at "r1"
  rw [List.cons_append]
  refine r_call1 ((sp_narrow h).tu rfl) rfl ?_
  refine is_elim ?_
  refine Run.chk (r_f rfl ?_)
  exact main
end
section
variable {W : Wx} {H : Hp} {s : Scr}
theorem sgc_last {c : Cell} (hc : Sg c) (p : List Cell) (T : List Cell) : (c.w = 1 → (p ++ sgc c ++ T)[p.length + c.w - 1]? = some c) ∧ (c.w = 2 → (p ++ sgc c ++ T)[p.length + c.w - 1]? = some (half c.k) ∧ (p ++ sgc c ++ T)[p.length + c.w - 2]? = some c) := by
 constructor <;> intro hw
 ·rw [List.append_assoc,hw,List.getElem?_append_right (by omega)]
  unfold sgc; rw [if_neg (by omega)]; simp
 ·have e : sgc c = [c,half c.k] := by unfold sgc; rw [if_pos hw]
  rw [List.append_assoc,hw,e]
  refine ⟨?_,?_⟩
  ·rw [List.getElem?_append_right (by omega)]; simp
  ·rw [List.getElem?_append_right (by omega)]; simp
theorem map_at {l : List Cell} {i : Nat} {c : Cell} (h : l[i]? = some c) : (l.map Cell.v)[i]? = some c.v := by rw [List.getElem?_map,h]; rfl
theorem sp_ahead0 {A : List (List Cell × Bool)} (h : Is H s) (g : GoodT s (A,[])) : CallW W 3 (.ref 1291) [.ref s.sc] H (is .none H) := by
 refine in_1291 _ ?_
 unfold cd_1291
 have h1 := h.sc
 have h2 := h.cu
 unfold Scr.scF at h1
 unfold Scr.cuF at h2
 have hcl := h.cl
 have gw := g.g.wait
 have gc := g.g.col
 unfold TS.ls at gw gc
 simp only [cellsOf,List.flatMap_nil,List.length_nil] at gw gc
 have qw : s.wait = false := by rw [gw,beq_eq_false_iff_ne]; omega
 walk_at "r"
 refine r_f qw ?_
 walk_at "c"
 refine r_t (decide_eq_true (by omega)) ?_
 walk_at "c"
 exact Run.ret ⟨rfl,rfl⟩
theorem sp_ahead {A : List (List Cell × Bool)} {t : List Cell} {c : Cell} (h : Is H s) (g : GoodT s (A,t ++ [c])) : CallW W 3 (.ref 1291) [.ref s.sc] H (is (.int ((cellsOf t).length : Nat)) H) := by
 refine in_1291 _ ?_
 unfold cd_1291
 have h1 := h.sc
 have h2 := h.cu
 unfold Scr.scF at h1
 unfold Scr.cuF at h2
 have hcl := h.cl
 have hc := (g.sg c (by simp)).1
 have gw := g.g.wait
 have gc := g.g.col
 have gp := g.g.plen
 obtain ⟨l,hl1,hl2,hl3,hl4⟩ := g.g.lineAt h
 have lm := h.ln l (List.mem_of_getElem? hl2)
 have lo := lm.o
 have lc := lm.cs
 unfold lf at lo
 unfold TS.ls at gw gc gp
 simp only [cellsOf_app,cellsOf_one,List.length_append,sgc_len hc] at gw gc gp hl3
 have cw : 1 ≤ c.w ∧ c.w ≤ 2 := by rcases hc.1 with q | q <;> omega
 have sl := sgc_last hc (cellsOf t) (List.replicate (s.cols - (cellsOf t ++ sgc c).length) blank)
 have hl3' : l.cells = cellsOf t ++ sgc c ++ List.replicate (s.cols - (cellsOf t ++ sgc c).length) blank := hl3
 rw [← hl3'] at sl
 have csne : PyData.eqv (.tuple (isD c.cs)) (.tuple []) = false := by rw [eqv_empty]; cases hq : c.cs with | nil => exact absurd hq hc.2 | cons _ _ => rfl
 have fin : ∀ {x2 : V},Run W 2 [I.loc 1,.lit (.int (0)),.cmp .GtE,.chk,.ite [.loc 2,.lit (.int (0)),.idx,.tup 0,.cmp .NotEq,.chk] [.lit (.bool false)],.ite [.loc 1] [.lit (.none)],.ret] [] [some (.ref s.sc),some (.int ((cellsOf t).length : Nat)),some c.v] H (behind (is (.int ((cellsOf t).length : Nat)) H)) := fun {x2} => by
  walk_at "r"
  refine r_neD (n := 1) (m := 1) (.tup (dat_ints _)) (.tup .nil) (by omega) (by omega) (b := true) csne ?_
  walk_at "r"
  exact Run.ret ⟨rfl,rfl⟩
 have rest : Run W 2 [I.loc 1,.lit (.int (0)),.cmp .Lt,.chk,.ite [.lit (.none),.ret] [],.loc 0,.mth 3,.call 1,.attr 0,.loc 1,.idx,.sto 2,.loc 2,.lit (.int (1)),.idx,.lit (.int (0)),.cmp .Eq,.chk,.ite [.loc 1,.lit (.int (1)),.bin .Sub,.sto 1,.loc 1,.lit (.int (0)),.cmp .GtE,.chk,.ite [.loc 0,.mth 3,.call 1,.attr 0,.loc 1,.idx] [.loc 2],.sto 2] [],.loc 1,.lit (.int (0)),.cmp .GtE,.chk,.ite [.loc 2,.lit (.int (0)),.idx,.tup 0,.cmp .NotEq,.chk] [.lit (.bool false)],.ite [.loc 1] [.lit (.none)],.ret] []
   [some (.ref s.sc),some (.int (((cellsOf t).length + c.w - 1 : Nat) : Int)),none] H (behind (is (.int ((cellsOf t).length : Nat)) H)) := by
  walk_at "r"
  refine r_call1 ((sp_line h hl1).tu rfl) rfl ?_
  refine is_elim ?_
  walk_at "r"
  rcases hc.1 with hw | hw
  ·refine r_idx lc (by omega) (at_nat (map_at (sl.1 hw))) ?_
   walk_at "r"
   refine r_f (by simp [hw]) ?_
   rw [List.nil_append,show (cellsOf t).length + c.w - 1 = (cellsOf t).length by omega]
   exact fin (x2 := .none)
  ·refine r_idx lc (by omega) (at_nat (map_at (sl.2 hw).1)) ?_
   walk_at "r"
   rw [show (((cellsOf t).length + c.w - 1 : Nat) : Int) - 1 = (((cellsOf t).length + c.w - 2 : Nat) : Int) by omega]
   walk_at "r"
   refine r_call1 ((sp_line h hl1).tu rfl) rfl ?_
   refine is_elim ?_
   walk_at "r"
   refine r_idx lc (by omega) (at_nat (map_at (sl.2 hw).2)) ?_
   refine r_sto rfl ?_
   simp only [List.set_cons_succ,List.set_cons_zero]
   rw [show (cellsOf t).length + c.w - 2 = (cellsOf t).length by omega]
   exact fin (x2 := .none)
 walk_at "r"
 by_cases q : (cellsOf t).length + c.w = s.cols
 ·have qw : s.wait = true := by rw [gw,beq_iff_eq]; exact q
  refine r_t qw ?_
  rw [List.cons_append]
  walk_at "r1"
  rw [List.cons_append]
  walk_at "r1"
  rw [List.cons_append]
  walk_at "r1"
  rw [List.nil_append]
  refine r_sto rfl ?_
  simp only [List.set_cons_succ,List.set_cons_zero]
  rw [show s.col = (cellsOf t).length + c.w - 1 by omega]
  exact rest
 ·have qw : s.wait = false := by rw [gw,beq_eq_false_iff_ne]; exact q
  refine r_f qw ?_
  rw [List.cons_append]
  walk_at "r1"
  rw [List.cons_append]
  walk_at "r1"
  rw [List.cons_append]
  walk_at "r1"
  rw [List.cons_append]
  walk_at "r1"
  rw [List.cons_append]
  walk_at "r1"
  rw [List.nil_append]
  refine r_sto rfl ?_
  simp only [List.set_cons_succ,List.set_cons_zero]
  rw [show (s.col : Int) - 1 = (((cellsOf t).length + c.w - 1 : Nat) : Int) by omega]
  exact rest
end
theorem put_over {c c' : Cell} (hc : Sg c) (hw : c'.w = c.w) (p T : List Cell) : putC (p ++ sgc c ++ T) p.length c' = p ++ sgc c' ++ T := by
 unfold putC
 rcases hc.1 with q | q
 ·have e : sgc c = [c] := by unfold sgc; rw [if_neg (by omega)]
  have e' : sgc c' = [c'] := by unfold sgc; rw [if_neg (by omega)]
  rw [if_neg (by omega),e,e',List.append_assoc,List.append_assoc,List.set_append,if_neg (by omega)]
  simp
 ·have e : sgc c = [c,half c.k] := by unfold sgc; rw [if_pos q]
  have e' : sgc c' = [c',half c'.k] := by unfold sgc; rw [if_pos (by omega)]
  rw [if_pos (by omega),e,e',List.append_assoc,List.append_assoc,List.set_append,if_neg (by omega),Nat.sub_self,List.set_append,if_neg (by omega),show p.length + 1 - p.length = 1 by omega]
  simp
theorem mkT_snoc (A : List (List Cell × Bool)) (t : List Cell) (c : Cell) : mkT (A,t ++ [c]) = (A,t ++ [mkC c]) := by
 unfold mkT
 simp
section
variable {W : Wx} {H : Hp} {s : Scr}
theorem sp_join {st : TS} (h : Is H s) (g : GoodT s st) (hb : ∀ c ∈ st.2,c.cs.length ≤ 499) : CallW W 5 (.ref 1305) [.ref s.sc,.int 769] H fun x H' => ∃ s',Is H' s' ∧ Frm s H s' H' ∧ Same s s' ∧ GoodT s' (mkT st) := by
 refine in_1305 _ _ ?_
 unfold cd_1305
 have h1 := h.sc
 have h3 := h.mo
 unfold Scr.scF at h1
 obtain ⟨A,t⟩ := st
 rcases List.eq_nil_or_concat t with rfl | ⟨t,c,rfl⟩
 ·walk_at "r"
  refine r_call1 ((sp_ahead0 h g).tu rfl) rfl ?_
  refine is_elim ?_
  walk_at "r"
  exact Run.ret ⟨s,h,.refl,.refl,g⟩
 ·rw [List.concat_eq_append] at g hb ⊢
  have hc := (g.sg c (by simp)).1
  have hcb : c.cs.length ≤ 499 := hb c (by simp)
  have cw : 1 ≤ c.w ∧ c.w ≤ 2 := by rcases hc.1 with q | q <;> omega
  have hcl := h.cl
  have hp := pn_hand c.k
  obtain ⟨l,hl1,hl2,hl3,hl4⟩ := g.g.lineAt h
  have lm : l ∈ s.all := List.mem_of_getElem? hl2
  have ll := h.ln l lm
  have lo := ll.o
  have lc := ll.cs
  unfold lf at lo
  have hl3' : l.cells = cellsOf t ++ sgc c ++ List.replicate (s.cols - (cellsOf t ++ sgc c).length) blank := by
   rw [hl3]; unfold padP; dsimp only; rw [cellsOf_app,cellsOf_one]
  have gp := g.g.plen
  unfold TS.ls at gp
  simp only [cellsOf_app,cellsOf_one,List.length_append,sgc_len hc] at gp
  have hat : l.cells[(cellsOf t).length]? = some c := by
   rw [hl3',List.append_assoc,List.getElem?_append_right (by omega),Nat.sub_self]
   unfold sgc; split <;> simp
  have hat2 : ∀ c',l.cells[(cellsOf t).length + c.w]? = some c' → c' = blank := fun c' q => by
   rw [hl3'] at q
   exact get_blank (p := cellsOf t ++ sgc c) (by simp [sgc_len hc]) q
  walk_at "r"
  refine r_call1 ((sp_ahead h g).tu rfl) rfl ?_
  refine is_elim ?_
  walk_at "r"
  refine r_call1 ((sp_line h hl1).tu rfl) rfl ?_
  refine is_elim ?_
  walk_at "r"
  refine r_idx lc (by omega) (at_nat (map_at hat)) ?_
  refine r_unp4 ?_
  walk_at "r"
  refine r_addT (by simp [isV]; omega) ?_
  rw [show isV c.cs ++ [V.int 769] = isV (mkC c).cs by unfold isV mkC; simp]
  walk_at "r"
  refine r_call2 ((sp_is_on_off h (x := S "clusters") (by decide +kernel)).tu rfl) rfl ?_
  refine is_elim ?_
  walk_at "r"
  have put : ∀ {k : List I} {Q : Out → Prop} {x7 : Option V},(∀ H1,Is H1 (s.setL (s.hist.length + s.row) { l with cells := (padP s.cols (cellsOf t ++ sgc (mkC c),false)).1 }) → Frm s H (s.setL (s.hist.length + s.row) { l with cells := (padP s.cols (cellsOf t ++ sgc (mkC c),false)).1 }) H1 →
    Run W 4 k [] [some (.ref s.sc),some (.int 769),some (.int ((cellsOf t).length : Nat)),some (.tup (isV (mkC c).cs)),some (.int c.w),some (pn c.k),some (.bool false),x7] H1 Q) →
    Run W 4 ([I.loc 0,.mth 3,.call 1,.mth 1,.loc 2,.loc 3,.loc 4,.loc 5,.loc 6,.tup 4,.call 3,.pop] ++ k) [] [some (.ref s.sc),some (.int 769),some (.int ((cellsOf t).length : Nat)),some (.tup (isV (mkC c).cs)),some (.int c.w),some (pn c.k),some (.bool false),x7] H Q := fun {k Q x7} r => by
   walk_at "c"
   refine r_call1 ((sp_line h hl1).tu rfl) rfl ?_
   refine is_elim ?_
   walk_at "r"
   rw [show V.tup [V.tup (isV (mkC c).cs),.int c.w,pn c.k,.bool false] = (mkC c).v from rfl]
   have hwid := h.wid l lm
   refine r_call3 ((sp_put (W := W) (j := (cellsOf t).length) (c := mkC c) ll (by omega) hc.1 (by rw [hwid]; exact gp) (fun c' q => by rw [hat] at q; cases q; omega) (fun c' q => by rw [hat2 c' q]; decide)).tu rfl) rfl ?_
   refine is_elim ?_
   refine Run.pop (r _ ?_ ?_)
   ·rw [show putC l.cells (cellsOf t).length (mkC c) = (padP s.cols (cellsOf t ++ sgc (mkC c),false)).1 by
     rw [hl3',put_over (c' := mkC c) hc rfl]; unfold padP; simp [sgc_len hc,sgc_len (c := mkC c) ⟨hc.1,by simp [mkC]⟩]; rfl]
    exact h.setCells hl2 (by unfold padP; simp [sgc_len (c := mkC c) ⟨hc.1,by simp [mkC]⟩]; have : (mkC c).w = c.w := rfl; omega)
   ·exact Frm.set (foot_c lm) (h.foot_setL (w := l.wr) hl2)
  have fin : ∀ {H1 : Hp} {x7 : Option V},Is H1 (s.setL (s.hist.length + s.row) { l with cells := (padP s.cols (cellsOf t ++ sgc (mkC c),false)).1 }) → Frm s H (s.setL (s.hist.length + s.row) { l with cells := (padP s.cols (cellsOf t ++ sgc (mkC c),false)).1 }) H1 →
    Run W 4 [I.lit (.raw (.type "list")),.loc 3,.call 1,.loc 0,.sattr 40,.lit (.bool true),.ret] [] [some (.ref s.sc),some (.int 769),some (.int ((cellsOf t).length : Nat)),some (.tup (isV (mkC c).cs)),some (.int c.w),some (pn c.k),some (.bool false),x7] H1
     (behind fun x H' => ∃ s',Is H' s' ∧ Frm s H s' H' ∧ Same s s' ∧ GoodT s' (mkT (A,t ++ [c]))) := by
   intro H1 x7 I2 F2
   obtain ⟨s2,hs2⟩ : ∃ s2,s2 = s.setL (s.hist.length + s.row) { l with cells := (padP s.cols (cellsOf t ++ sgc (mkC c),false)).1 } := ⟨_,rfl⟩
   rw [← hs2] at I2 F2
   have e2 : s2.sc = s.sc := by rw [hs2]; rfl
   walk_at "r"
   refine r_listTE (by simp [isV,mkC]; omega) fun c4 H4 f4 g4 E4 => ?_
   have I4 := I2.ext E4
   have m1 := I4.sc
   unfold Scr.scF at m1
   rw [e2] at m1
   walk_at "r"
   refine r_sattr m1 rfl rfl ?_
   have I5 : Is (setF H4 s2.sc (.inst 1485 (s2.laTo c4).scF)) (s2.laTo c4) := I4.setLa c4
   have F5 : Frm s2 H4 (s2.laTo c4) (setF H4 s2.sc (.inst 1485 (s2.laTo c4).scF)) := Frm.set (foot_sc s2) rfl
   rw [e2] at I5 F5
   have es : (s2.laTo c4).scF = putF 40 (.ref c4) [(3,V.int s2.rows),(4,.int s2.cols),(31,.ref s2.mo),(32,.ref s2.wt),(33,.ref s2.hi),(34,.ref s2.gr),(35,.ref s2.cu),(36,.ref s2.ma),(37,.ref s2.tb),(38,.ref s2.ch),(39,.none),(40,.ref s2.la),(41,.bool false)] := rfl
   rw [es] at I5 F5
   walk_at "r"
   obtain ⟨⟨lv,first,row,col,wait,plen,wf⟩,sg⟩ := g
   refine Run.ret ⟨_,I5,(F2.trans (Frm.ext E4)).trans F5,⟨e2,by rw [hs2]; rfl,by rw [hs2]; rfl,by rw [hs2]; rfl⟩,?_⟩
   rw [mkT_snoc]
   have hm : Sg (mkC c) := ⟨hc.1,by simp [mkC]⟩
   have e : cellsOf (t ++ [mkC c]) = cellsOf t ++ sgc (mkC c) := by rw [cellsOf_app,cellsOf_one]
   have eo : cellsOf (t ++ [c]) = cellsOf t ++ sgc c := by rw [cellsOf_app,cellsOf_one]
   have el : (cellsOf (t ++ [mkC c])).length = (cellsOf (t ++ [c])).length := by rw [e,eo,List.length_append,List.length_append,sgc_len hc,sgc_len hm]; rfl
   have q2 : (s2.laTo c4).rows = s.rows := by rw [hs2]; rfl
   have q3 : (s2.laTo c4).cols = s.cols := by rw [hs2]; rfl
   have q4 : (s2.laTo c4).hist.length = s.hist.length := by rw [hs2]; simp [Scr.setL,Scr.laTo]
   have q5 : (s2.laTo c4).row = s.row := by rw [hs2]; rfl
   unfold TS.ls at lv first row col wait plen
   dsimp only at lv first row col wait plen
   refine ⟨⟨?_,?_,?_,?_,?_,?_,?_⟩,?_⟩
   ·unfold TS.ls
    dsimp only
    rw [q2,q3,e,show (s2.laTo c4).lv = s2.lv from rfl,hs2,lv_setL (cs := (padP s.cols (cellsOf t ++ sgc (mkC c),false)).1) (w := l.wr) hl2,row,lv,hl4]
    exact fullL_set (p' := cellsOf t ++ sgc (mkC c)) _
   ·unfold TS.ls; dsimp only; rw [q4,q2]; exact first
   ·unfold TS.ls; dsimp only; rw [q4,q5]; exact row
   ·unfold TS.ls; dsimp only; rw [q3,el,← col,hs2]; rfl
   ·unfold TS.ls; dsimp only; rw [q3,el,← wait,hs2]; rfl
   ·unfold TS.ls; dsimp only; rw [q3,el]; exact plen
   ·exact ⟨t ++ [mkC c],rfl,fun y hy => by
     rcases List.mem_append.mp hy with hy | hy
     ·exact (sg y (List.mem_append_left _ hy)).1
     ·rw [List.mem_singleton.mp hy]; exact hm⟩
   ·intro y hy
    rcases List.mem_append.mp hy with hy | hy
    ·exact sg y (List.mem_append_left _ hy)
    ·rw [List.mem_singleton.mp hy]; exact ⟨hm,by simp [mkC]; omega⟩
  rcases hc.1 with hw | hw
  ·refine r_f (by simp [hw]) ?_
   refine Run.lit (r_f rfl ?_)
   exact put fun H1 I2 F2 => fin I2 F2
  ·refine r_t (by simp [hw]) ?_
   walk_at "c"
   refine r_f (by simp [hw]) ?_
   refine Run.lit (r_f rfl ?_)
   exact put fun H1 I2 F2 => fin I2 F2
theorem sp_put_code {st : TS} (h : Is H s) (g : GoodT s st) {code : Nat} (h0 : code ≠ 0) (hcode : code = 769 ∨ (97 ≤ code ∧ code ≤ 122) ∨ (19968 ≤ code ∧ code ≤ 20000)) (hb : ∀ c ∈ st.2,c.cs.length ≤ 499) (hn : s.hist.length + 1 ≤ 300) :
  CallW W 12 (.ref 1284) [.ref s.sc,.int code] H fun x H' => x = .none ∧ ∃ s',Is H' s' ∧ Frm s H s' H' ∧ Same s s' ∧ GoodT s' (stepT s.cols st (code,s.pen)) := by
 refine in_1284 _ _ ?_
 unfold cd_1284
 have h1 := h.sc
 have h2 := h.ch
 unfold Scr.scF at h1
 walk_at "r"
 refine r_call3 ((sp_mapped h code).tu rfl) rfl ?_
 rintro _ H1 ⟨rfl,I1,F1⟩
 have j1 := I1.sc
 have j2 := I1.wt
 have j3 := I1.mo
 unfold Scr.scF at j1
 walk_at "r"
 refine r_call2 ((sp_width_of I1 code).tu rfl) rfl ?_
 refine is_elim ?_
 walk_at "r"
 by_cases q : code = 769
 ·subst q
  rw [show wOf ((769 : Nat) : Int) = 0 by decide]
  walk_at "r"
  refine r_call2 ((sp_join I1 g hb).tu rfl) rfl ?_
  rintro x H2 ⟨s',I2,F2,sm,g2⟩
  walk_at "r"
  exact Run.nil ⟨rfl,s',I2,F1.trans F2,sm,by unfold stepT; rw [if_neg (by simp),if_pos rfl]; exact g2⟩
 ·have hw : wOf (code : Int) = ((if 19968 ≤ code then 2 else 1 : Nat) : Int) := by
   unfold wOf
   rw [if_neg (by omega)]
   by_cases q2 : 19968 ≤ code
   ·rw [if_pos (by omega),if_pos q2]; rfl
   ·rw [if_neg (by omega),if_neg q2]; rfl
  rw [hw]
  have hne : (((if 19968 ≤ code then 2 else 1 : Nat) : Int) == 0) = false := by split <;> rfl
  refine r_f hne ?_
  walk_at "c"
  refine r_call2 ((sp_is_on_off I1 (x := S "clusters") (by decide +kernel)).tu rfl) rfl ?_
  refine is_elim ?_
  walk_at "r"
  refine r_call3 ((sp_put_sign (c := ⟨[code],if 19968 ≤ code then 2 else 1,s.pen⟩) I1 g ⟨by show (if 19968 ≤ code then 2 else 1) = 1 ∨ (if 19968 ≤ code then 2 else 1) = 2; split <;> simp,by simp⟩ rfl (by simp) hn).tu rfl) rfl ?_
  rintro _ H2 ⟨rfl,s',I2,F2,sm,g2⟩
  walk_at "r"
  exact Run.nil ⟨rfl,s',I2,F1.trans F2,sm,by unfold stepT; rw [if_neg h0,if_neg q]; exact g2⟩
theorem sp_written {st : TS} (h : Is H s) (g : GoodT s st) {code k : Nat} (hcode : code = 0 ∨ code = 769 ∨ (97 ≤ code ∧ code ≤ 122) ∨ (19968 ≤ code ∧ code ≤ 20000)) (hb : ∀ c ∈ st.2,c.cs.length ≤ 499) (hn : s.hist.length + 1 ≤ 300) :
  CallW W 13 (.ref 1524) [.ref s.sc,.int code,pn k] H fun x H' => x = .none ∧ ∃ s',Is H' s' ∧ Frm s H s' H' ∧ s'.sc = s.sc ∧ s'.rows = s.rows ∧ s'.cols = s.cols ∧ s'.pen = k ∧ GoodT s' (stepT s.cols st (code,k)) := by
 refine in_1524 _ _ _ ?_
 unfold cd_1524
 have h1 := h.sc
 have h2 := h.cu
 unfold Scr.scF at h1
 unfold Scr.cuF at h2
 walk_at "r"
 refine r_sattr h2 rfl rfl ?_
 obtain ⟨s1,hs1⟩ : ∃ s1,s1 = s.cuTo s.row s.col s.wait k := ⟨_,rfl⟩
 have I1 : Is (setF H s.cu (.inst 976 s1.cuF)) s1 := by rw [hs1]; exact h.setCu s.row s.col s.wait k h.rb h.cb
 have F1 : Frm s H s1 (setF H s.cu (.inst 976 s1.cuF)) := by rw [hs1]; exact Frm.set (foot_cu s) rfl
 rw [show putF 25 (pn k) [(11,V.int s.row),(12,.int s.col),(13,.bool s.wait),(25,pn s.pen),(26,.bool false),(27,.bool false)] = s1.cuF by rw [hs1]; rfl]
 generalize setF H s.cu (.inst 976 s1.cuF) = H1 at *
 have e1 : s1.sc = s.sc := by rw [hs1]; rfl
 have e2 : s1.rows = s.rows := by rw [hs1]; rfl
 have e3 : s1.cols = s.cols := by rw [hs1]; rfl
 have e4 : s1.pen = k := by rw [hs1]; rfl
 have e5 : s1.hist.length = s.hist.length := by rw [hs1]; rfl
 have g1 : GoodT s1 st := by rw [hs1]; exact ⟨⟨g.g.lv,g.g.first,g.g.row,g.g.col,g.g.wait,g.g.plen,g.g.wf⟩,g.sg⟩
 clear hs1
 have j1 := I1.sc
 unfold Scr.scF at j1
 rw [e1] at j1
 walk_at "r"
 by_cases q : code = 0
 ·subst q
  refine r_t rfl ?_
  walk_at "c"
  refine r_call1 ((show CallW W 10 (.ref 1389) [.ref s.sc] H1 (fun x H' => x = .none ∧ ∃ s',Is H' s' ∧ Frm s1 H1 s' H' ∧ s'.col = 0 ∧ NextL none s1 s') by rw [← e1]; exact sp_next I1 (by omega)).tu rfl) rfl ?_
  rintro _ H2 ⟨rfl,s2,I2,F2,q0,n⟩
  walk_at "r"
  refine Run.nil ⟨rfl,s2,I2,F1.trans F2,n.same.sc.trans e1,n.same.rows.trans e2,n.same.cols.trans e3,n.same.pen.trans e4,?_⟩
  have := Good.next (A := st.ls.1) (p := st.ls.2) I1 I2 g1.g n q0
  unfold stepT; rw [if_pos rfl]
  refine ⟨?_,by simp [nlT]⟩
  unfold TS.ls nlT at *
  simpa [cellsOf] using this
 ·refine r_f (by simp; omega) ?_
  walk_at "c"
  refine r_call2 ((show CallW W 12 (.ref 1284) [.ref s.sc,.int code] H1 (fun x H' => x = .none ∧ ∃ s',Is H' s' ∧ Frm s1 H1 s' H' ∧ Same s1 s' ∧ GoodT s' (stepT s1.cols st (code,s1.pen))) by rw [← e1]; exact sp_put_code I1 g1 q (hcode.resolve_left q) hb (by omega)).tu rfl) rfl ?_
  rintro _ H2 ⟨rfl,s2,I2,F2,sm,g2⟩
  walk_at "r"
  rw [e3,e4] at g2
  exact Run.nil ⟨rfl,s2,I2,F1.trans F2,sm.sc.trans e1,sm.rows.trans e2,sm.cols.trans e3,sm.pen.trans e4,g2⟩
end
def aList (l : List V) (H : Hp) : V → Hp → Prop := fun x H' => ∃ c,x = .ref c ∧ H' c = some (.list l) ∧ Ext H H'
section
variable {W : Wx} {H : Hp}
theorem sp_used {a : Nat} {p : List Cell} {k : Nat} (e : H a = some (.list ((p ++ List.replicate k blank).map Cell.v))) (hl : p.length + k ≤ 900) (hp : ∀ t c,p = t ++ [c] → c.isP = false) :
  CallW W 2 (.ref 543) [.ref a] H (newL (p.map Cell.v) H) := by
 refine in_543 _ ?_
 unfold cd_543
 have hlen : ((p ++ List.replicate k blank).map Cell.v).length = p.length + k := by simp
 walk_at "r"
 rw [hlen]
 refine Run.whl (J := fun n ρ H' => H' = H ∧ n ≤ k ∧ ρ = [some (.ref a),some (.int ((p.length + n : Nat) : Int))]) (B := fun n ρ H' => H' = H ∧ n + 1 ≤ k + 1 ∧ 0 < n ∧ ρ = [some (.ref a),some (.int ((p.length + n : Nat) : Int))])
  (N := fun ρ H' => H' = H ∧ ρ = [some (.ref a),some (.int ((p.length : Nat) : Int))]) (Z := fun _ _ => False) k ⟨rfl,Nat.le_refl _,rfl⟩ ?_ ?_ ?_ (fun _ _ z => z.elim)
 ·rintro n ρ _ ⟨rfl,hn,rfl⟩
  walk_at "r"
  by_cases q : p.length + n = 0
  ·refine r_f (decide_eq_false (by omega)) ?_
   walk_at "c"
   have : n = 0 := by omega
   subst this
   exact Run.nil ⟨rfl,rfl,rfl⟩
  ·refine r_t (decide_eq_true (by omega)) ?_
   walk_at "c"
   rw [show ((p.length + n : Nat) : Int) - 1 = ((p.length + n - 1 : Nat) : Int) by omega]
   by_cases q0 : n = 0
   ·subst q0
    rcases List.eq_nil_or_concat p with rfl | ⟨t,c,rfl⟩
    ·simp at q
    ·rw [List.concat_eq_append] at *
     refine r_idx e (by omega) (x := c.v) (at_nat (map_at (by simp))) ?_
     refine r_call1 ((sp_isplain c).tu rfl) rfl ?_
     refine is_elim ?_
     rw [hp t c rfl]
     walk_at "r"
     exact Run.nil ⟨rfl,rfl,rfl⟩
   ·refine r_idx e (by omega) (x := blank.v) (at_nat (map_at (by
     rw [List.getElem?_append_right (by omega),List.getElem?_replicate,if_pos (by omega)]))) ?_
    refine r_call1 ((sp_isplain blank).tu rfl) rfl ?_
    refine is_elim ?_
    walk_at "r"
    exact Run.nil ⟨rfl,rfl,by omega,by omega,rfl⟩
 ·rintro n ρ _ ⟨rfl,hn,h0,rfl⟩
  walk_at "r"
  exact Run.nil ⟨n - 1,by omega,rfl,by omega,by rw [show ((p.length + n : Nat) : Int) - 1 = ((p.length + (n - 1) : Nat) : Int) by omega]⟩
 ·rintro ρ _ ⟨rfl,rfl⟩
  walk_at "r"
  refine r_slcE none (some ((p.length : Nat) : Int)) rfl rfl e (by omega) (ps_take _ _) fun c H' f g E => ?_
  rw [← List.map_take,List.take_left] at g
  exact Run.ret ⟨c,rfl,f,g,E⟩
theorem sp_begins_wide {l : Ln} (h : LnAt H l) (hl : l.cells.length ≤ 900) {c : Cell} (hc : l.cells[0]? = some c) : CallW W 1 (.ref 550) [.ref l.a] H (is (.bool (c.w == 2)) H) := by
 refine in_550 _ ?_
 unfold cd_550
 have h1 := h.o
 have h2 := h.cs
 unfold lf at h1
 have hlt := (List.getElem?_eq_some_iff.mp hc).1
 walk_at "r"
 refine r_t (decide_eq_true (by simp; omega)) ?_
 walk_at "c"
 refine r_idx h2 (by decide) (x := c.v) (at_nat (map_at hc)) ?_
 walk_at "r"
 refine Run.ret ⟨?_,rfl⟩
 exact congrArg V.bool (ofInt_beq c.w 2)
theorem sp_goes_on {la : Nat} {ls : List Ln} {i : Nat} {l : Ln} (e : H la = some (.list (refs ls))) (hL : ∀ l ∈ ls,LnAt H l) (hi : ls[i]? = some l) (hn : ls.length ≤ 900) (hc : 0 < l.cells.length ∧ l.cells.length ≤ 900) :
  CallW W 1 (.ref 564) [.ref la,.int i] H (is (.bool (decide (i + 1 < ls.length) && l.wr)) H) := by
 refine in_564 _ _ ?_
 unfold cd_564
 have hl := hL l (List.mem_of_getElem? hi)
 have h1 := hl.o
 have h2 := hl.cs
 unfold lf at h1
 have hr : (refs ls).length = ls.length := by simp [refs]
 have hlt := (List.getElem?_eq_some_iff.mp hi).1
 walk_at "r"
 by_cases q : i + 1 < ls.length
 ·refine r_f (decide_eq_false (by omega)) ?_
  walk_at "c"
  refine r_idx e (by omega) (at_refs hi) ?_
  walk_at "r"
  cases hw : l.wr with
  | false =>
   rw [hw] at h1
   refine r_t (by simp) ?_
   walk_at "c"
   refine Run.ret ⟨?_,rfl⟩
   simp
  | true =>
   rw [hw] at h1
   refine r_f (by simp) ?_
   walk_at "c"
   refine r_idx e (by omega) (at_refs hi) ?_
   walk_at "r"
   refine r_f (by simp; intro z; rw [z] at hc; simp at hc) ?_
   walk_at "c"
   refine r_idx e (by omega) (at_refs hi) ?_
   walk_at "r"
   obtain ⟨l',hi'⟩ : ∃ l',ls[i + 1]? = some l' := ⟨_,List.getElem?_eq_getElem q⟩
   have h1' := (hL l' (List.mem_of_getElem? hi')).o
   unfold lf at h1'
   rw [show (i : Int) + 1 = ((i + 1 : Nat) : Int) by omega]
   refine r_idx e (by omega) (at_refs hi') ?_
   walk_at "r"
   refine Run.ret ⟨?_,rfl⟩
   rw [decide_eq_true q]; rfl
 ·refine r_t (decide_eq_true (by omega)) ?_
  walk_at "c"
  refine Run.ret ⟨?_,rfl⟩
  rw [decide_eq_false q]; rfl
theorem sp_part_end {la : Nat} {ls : List Ln} {i : Nat} {l : Ln} (e : H la = some (.list (refs ls))) (hL : ∀ l ∈ ls,LnAt H l) (hi : ls[i]? = some l) (hn : ls.length ≤ 900) {p : List Cell} {k : Nat} (hc : l.cells = p ++ List.replicate k blank) (hk : 0 < p.length + k ∧ p.length + k ≤ 900)
  (hp : ∀ t c,p = t ++ [c] → c.isP = false) (hw : l.wr = false) : CallW W 3 (.ref 557) [.ref la,.int i] H (newL (p.map Cell.v) H) := by
 refine in_557 _ _ ?_
 unfold cd_557
 have hl := hL l (List.mem_of_getElem? hi)
 have h1 := hl.o
 have h2 := hl.cs
 unfold lf at h1
 rw [hc] at h2
 have hlt := (List.getElem?_eq_some_iff.mp hi).1
 walk_at "r"
 refine r_idx e (by omega) (at_refs hi) ?_
 walk_at "r"
 refine r_call2 ((sp_goes_on e hL hi hn (by rw [hc]; simp; omega)).tu rfl) rfl ?_
 refine is_elim ?_
 rw [hw,Bool.and_false]
 walk_at "r"
 refine r_call1 ((sp_used h2 hk.2 hp).tu rfl) rfl ?_
 rintro _ H1 ⟨c,rfl,f,g,E⟩
 exact Run.ret ⟨c,rfl,f,g,E⟩
theorem sp_part_go {la : Nat} {ls : List Ln} {i : Nat} {l l' : Ln} (e : H la = some (.list (refs ls))) (hL : ∀ l ∈ ls,LnAt H l) (hi : ls[i]? = some l) (hi' : ls[i + 1]? = some l') (hn : ls.length ≤ 900) {p : List Cell} {k : Nat} (hc : l.cells = p ++ List.replicate k blank) (hk : p.length + k ≤ 900)
  (hp : ∃ t c,p = t ++ [c] ∧ c.isB = false) (hw : l.wr = true) (hl' : l'.cells.length ≤ 900) (h01 : k = 0 ∨ (k = 1 ∧ ∃ c,l'.cells[0]? = some c ∧ c.w = 2)) : CallW W 3 (.ref 557) [.ref la,.int i] H (aList (p.map Cell.v) H) := by
 refine in_557 _ _ ?_
 unfold cd_557
 have hl := hL l (List.mem_of_getElem? hi)
 have h1 := hl.o
 have h2 := hl.cs
 unfold lf at h1
 have hlt := (List.getElem?_eq_some_iff.mp hi).1
 have hlt' := (List.getElem?_eq_some_iff.mp hi').1
 obtain ⟨t,c,rfl,hb⟩ := hp
 walk_at "r"
 refine r_idx e (by omega) (at_refs hi) ?_
 walk_at "r"
 refine r_call2 ((sp_goes_on e hL hi hn (by rw [hc]; simp; simp at hk; omega)).tu rfl) rfl ?_
 refine is_elim ?_
 rw [hw,decide_eq_true hlt']
 walk_at "r"
 simp only [List.length_append,List.length_singleton] at hk
 rcases h01 with rfl | ⟨rfl,c',hc',hw'⟩
 ·rw [List.replicate_zero,List.append_nil] at hc
  rw [hc] at h2
  refine r_idx h2 (by decide) (x := c.v) (by unfold at?; rw [if_pos (by omega),if_pos (by simp; omega),show ((-1 : Int) + (((t ++ [c]).map Cell.v).length : Nat)).toNat = t.length by simp; omega]; exact map_at (by simp)) ?_
  refine r_call1 ((sp_isblank c).tu rfl) rfl ?_
  refine is_elim ?_
  rw [hb]
  walk_at "r"
  exact Run.ret ⟨l.c,rfl,h2,.rfl⟩
 ·rw [hc] at h2
  refine r_idx h2 (by decide) (x := blank.v) (by unfold at?; rw [if_pos (by omega),if_pos (by simp; omega),show ((-1 : Int) + (((t ++ [c] ++ List.replicate 1 blank).map Cell.v).length : Nat)).toNat = t.length + 1 by simp; omega]; exact map_at (by simp)) ?_
  refine r_call1 ((sp_isblank blank).tu rfl) rfl ?_
  refine is_elim ?_
  refine Run.chk (r_t rfl ?_)
  walk_at "c"
  rw [show (i : Int) + 1 = ((i + 1 : Nat) : Int) by omega]
  refine r_idx e (by omega) (at_refs hi') ?_
  refine r_call1 ((sp_begins_wide (hL l' (List.mem_of_getElem? hi')) hl' hc').tu rfl) rfl ?_
  refine is_elim ?_
  rw [hw']
  walk_at "r"
  refine r_slcE none (some (-1)) rfl rfl h2 (by simp; omega) (ps_init _) fun c2 H' f g E => ?_
  refine Run.ret ⟨c2,rfl,?_,E⟩
  rw [g,← List.map_take,show ((t ++ [c] ++ List.replicate 1 blank).map Cell.v).length - 1 = (t ++ [c]).length by simp,List.take_left]
end
abbrev Gp := List (List Cell) × List Cell
def linesG (g : Gp) : List (List Cell × Bool) := g.1.map (fun p => (p,true)) ++ [(g.2,false)]
def Gp.ps (g : Gp) : List (List Cell) := g.1 ++ [g.2]
def begsF (n : Nat) : List (List Cell) → List Nat
 | [] => []
 | p :: r => n :: begsF (n + (cellsOf p).length) r
def natV (l : List Nat) : List V := l.map fun (n : Nat) => V.int (n : Int)
structure LL where
 a : Nat
 b : Nat
 c : Nat
 f : Nat
 g : Gp
def llF (f b c : Nat) (w : Bool) : List (Nat × V) := [(8,.int f),(2,.str (S "single")),(9,.ref b),(0,.ref c),(10,.bool w)]
structure LLAt (H : Hp) (l : LL) : Prop where
 o : H l.a = some (.inst 532 (llF l.f l.b l.c true))
 b : H l.b = some (.list (natV (begsF 0 l.g.ps)))
 c : H l.c = some (.list ((cellsOf l.g.ps.flatten).map Cell.v))
theorem LLAt.ext {H H' : Hp} {l : LL} (h : LLAt H l) (e : Ext H H') : LLAt H' l := ⟨e _ _ h.o,e _ _ h.b,e _ _ h.c⟩
def lrefs (l : List LL) : List V := l.map fun x => .ref x.a
structure PsOk (cols : Nat) (P : List (List Cell × Bool)) : Prop where
 len : ∀ p ∈ P,(cellsOf p.1).length ≤ cols
 sg : ∀ p ∈ P,∀ c ∈ p.1,Sg c
 go : ∀ i p,P[i]? = some (p,true) → p ≠ [] ∧ ∃ p',P[i + 1]? = some p' ∧ ((cellsOf p).length = cols ∨ ((cellsOf p).length + 1 = cols ∧ ∃ c t,p'.1 = c :: t ∧ c.w = 2))
theorem begsF_app (n : Nat) (l m : List (List Cell)) : begsF n (l ++ m) = begsF n l ++ begsF (n + (cellsOf l.flatten).length) m := by
 induction l generalizing n with
 | nil => simp [begsF,cellsOf]
 | cons p l ih => simp only [List.cons_append,begsF,ih,List.flatten_cons,cellsOf_app,List.length_append,Nat.add_assoc]
theorem natV_app (l m : List Nat) : natV (l ++ m) = natV l ++ natV m := by simp [natV]
theorem sgc_tail {c : Cell} (hc : Sg c) : ∃ q d,sgc c = q ++ [d] ∧ d.isB = false ∧ d.isP = false := by
 unfold sgc
 rcases hc.1 with w | w
 ·have : c.cs.isEmpty = false := by cases h : c.cs with | nil => exact absurd h hc.2 | cons _ _ => rfl
  exact ⟨[],c,by rw [if_neg (by omega)]; rfl,by unfold Cell.isB; rw [this]; rfl,by unfold Cell.isP; rw [this]; rfl⟩
 ·exact ⟨[c],half c.k,by rw [if_pos w]; rfl,rfl,rfl⟩
theorem cells_tail {p : List Cell} (hp : ∀ c ∈ p,Sg c) (h : p ≠ []) : ∃ q d,cellsOf p = q ++ [d] ∧ d.isB = false ∧ d.isP = false := by
 rcases List.eq_nil_or_concat p with rfl | ⟨t,c,rfl⟩
 ·exact absurd rfl h
 ·rw [List.concat_eq_append] at hp ⊢
  obtain ⟨q,d,e,h1,h2⟩ := sgc_tail (hp c (by simp))
  exact ⟨cellsOf t ++ q,d,by rw [cellsOf_app,cellsOf_one,e,List.append_assoc],h1,h2⟩
theorem cells_head {c : Cell} {t : List Cell} : (cellsOf (c :: t))[0]? = some c := by
 unfold cellsOf sgc
 rw [List.flatMap_cons]
 split <;> rfl
theorem cells_ne_nat {q : List Cell} {d : Cell} {n : List Nat} (h : q.map Cell.v ++ [d].map Cell.v = natV n) : False := by
 cases q with
 | nil => cases n with
  | nil => simp [natV] at h
  | cons _ _ => simp [natV,Cell.v] at h
 | cons _ _ => cases n with
  | nil => simp [natV] at h
  | cons _ _ => simp [natV,Cell.v] at h
theorem begsF_len (n : Nat) (l : List (List Cell)) : (begsF n l).length = l.length := by
 induction l generalizing n with
 | nil => rfl
 | cons p l ih => simp [begsF,ih]
theorem cells_bound {cols : Nat} {l : List (List Cell)} (h : ∀ p ∈ l,(cellsOf p).length ≤ cols) : (cellsOf l.flatten).length ≤ cols * l.length := by
 induction l with
 | nil => simp [cellsOf]
 | cons p l ih =>
  rw [List.flatten_cons,cellsOf_app,List.length_append,List.length_cons,Nat.mul_succ]
  have := ih fun q hq => h q (List.mem_cons_of_mem _ hq)
  have := h p (by simp)
  omega
section
variable {W : Wx} {H : Hp}
theorem sp_LL_init {a : Nat} (f : Nat) (e : H a = some (.inst 532 [])) : CallW W 1 (.ref 501) [.ref a,.int f,.str (S "single")] H fun x H' => x = .none ∧ ∃ b c,H b = none ∧ H c = none ∧ b ≠ c ∧ H' a = some (.inst 532 (llF f b c true)) ∧ H' b = some (.list []) ∧ H' c = some (.list []) ∧ ∀ y m,y ≠ a → H y = some m → H' y = some m := by
 refine in_501 _ _ _ ?_
 unfold cd_501
 walk_at "r"
 refine r_sattr e rfl rfl ?_
 walk_at "r"
 refine r_sattr setF_same rfl rfl ?_
 rw [setF_setF]
 refine r_lst0 fun b hb => ?_
 have ba : b ≠ a := fun z => by rw [z,setF_same] at hb; cases hb
 have ab := ba.symm
 have hb0 : H b = none := by rw [setF_ne ba] at hb; exact hb
 walk_at "r"
 refine r_sattr (at_ne setF_same ab) rfl rfl ?_
 refine r_lst0 fun c hc => ?_
 have ca : c ≠ a := fun z => by rw [z,setF_same] at hc; cases hc
 have cb : c ≠ b := fun z => by rw [z,setF_ne ba,setF_same] at hc; cases hc
 have hc0 : H c = none := by rw [setF_ne ca,setF_ne cb,setF_ne ca] at hc; exact hc
 walk_at "r"
 refine r_sattr (at_ne setF_same ca.symm) rfl rfl ?_
 walk_at "r"
 refine r_sattr setF_same rfl rfl ?_
 refine Run.nil ⟨rfl,b,c,hb0,hc0,cb.symm,setF_same,?_,?_,fun y m hy hm => ?_⟩
 ·rw [setF_ne ba,setF_ne ba,setF_ne cb.symm,setF_ne ba,setF_same]
 ·rw [setF_ne ca,setF_ne ca,setF_same]
 ·have yb : y ≠ b := ne_new hm hb0
  have yc : y ≠ c := ne_new hm hc0
  rw [setF_ne hy,setF_ne hy,setF_ne yc,setF_ne hy,setF_ne yb,setF_ne hy]; exact hm
theorem sp_LL_new (f : Nat) : CallW W 2 (.ref 532) [.int f,.str (S "single")] H fun x H' => ∃ a b c,x = .ref a ∧ H a = none ∧ H b = none ∧ H c = none ∧ b ≠ c ∧ H' a = some (.inst 532 (llF f b c true)) ∧ H' b = some (.list []) ∧ H' c = some (.list []) ∧ Ext H H' := by
 refine call_cls (f := 501) (by decide) fun a ha => (sp_LL_init f setF_same).mono ?_
 rintro _ H' ⟨rfl,b,c,hb,hc,bc,h1,h2,h3,h4⟩
 have ba : b ≠ a := fun z => by rw [z,setF_same] at hb; cases hb
 have ca : c ≠ a := fun z => by rw [z,setF_same] at hc; cases hc
 rw [setF_ne ba] at hb
 rw [setF_ne ca] at hc
 exact ⟨rfl,a,b,c,rfl,ha,hb,hc,bc,h1,h2,h3,fun y m hm => h4 y m (ne_new hm ha) (Ext.new ha _ _ hm)⟩
theorem sp_LL_put {a b c x f : Nat} {w : Bool} {bl cl xl : List V} (e : H a = some (.inst 532 (llF f b c w))) (eb : H b = some (.list bl)) (ec : H c = some (.list cl)) (ex : H x = some (.list xl)) (hbc : b ≠ c) (hxb : x ≠ b) (hl : bl.length ≤ 900 ∧ cl.length + xl.length ≤ 9000) :
  CallW W 1 (.ref 508) [.ref a,.ref x] H (is .none (setF (setF H b (.list (bl ++ [.int cl.length]))) c (.list (cl ++ xl)))) := by
 refine in_508 _ _ ?_
 unfold cd_508
 unfold llF at e
 walk_at "r"
 refine r_mapp eb ?_
 walk_at "r"
 refine r_append eb (by omega) ?_
 have e' := at_ne e (ne_kd e eb rfl) (m' := .list (bl ++ [.int cl.length]))
 have ec' := at_ne ec hbc.symm (m' := .list (bl ++ [.int cl.length]))
 have ex' := at_ne ex hxb (m' := .list (bl ++ [.int cl.length]))
 walk_at "r"
 refine r_mext ec' ?_
 walk_at "r"
 refine r_extend ec' ex' (by omega) ?_
 walk_at "r"
 exact Run.nil ⟨rfl,rfl⟩
theorem lines_at {G : List Gp} {done rest : List Gp} {g : Gp} (e : G = done ++ g :: rest) (i : Nat) (hi : i < g.1.length + 1) : (G.flatMap linesG)[(done.flatMap linesG).length + i]? = (linesG g)[i]? := by
 subst e
 rw [List.flatMap_append,List.flatMap_cons,List.getElem?_append_right (by omega),Nat.add_sub_cancel_left,List.getElem?_append_left (by unfold linesG; simp; omega)]
theorem linesG_go {g : Gp} {i : Nat} {p : List Cell} (h : g.1[i]? = some p) : (linesG g)[i]? = some (p,true) := by
 unfold linesG
 have := (List.getElem?_eq_some_iff.mp h).1
 rw [List.getElem?_append_left (by simpa using this),List.getElem?_map,h]; rfl
theorem linesG_end {g : Gp} : (linesG g)[g.1.length]? = some (g.2,false) := by
 unfold linesG
 rw [List.getElem?_append_right (by simp)]; simp
theorem ln_of {cols : Nat} {ls : List Ln} {P : List (List Cell × Bool)} (h : ls.map (fun l => (l.cells,l.wr)) = P.map (fun q => padP cols (cellsOf q.1,q.2))) {i : Nat} {p : List Cell} {w : Bool} (hi : P[i]? = some (p,w)) :
  ∃ l,ls[i]? = some l ∧ l.cells = cellsOf p ++ List.replicate (cols - (cellsOf p).length) blank ∧ l.wr = w := by
 have := congrArg (·[i]?) h
 simp only [List.getElem?_map,hi,Option.map_some] at this
 cases q : ls[i]? with
 | none => rw [q] at this; cases this
 | some l =>
  rw [q] at this
  have := Option.some.inj this
  exact ⟨l,rfl,congrArg Prod.fst this,congrArg Prod.snd this⟩
theorem sp_gather {la a b c f cols : Nat} {ls : List Ln} {G done rest : List Gp} {g : Gp} {H1 : Hp} {k : List I} {Q : Out → Prop} {x1 : Option V} (hcols : 2 ≤ cols ∧ cols ≤ 7) (hG : G = done ++ g :: rest) (hv : ls.map (fun l => (l.cells,l.wr)) = (G.flatMap linesG).map (fun q => padP cols (cellsOf q.1,q.2))) (ok : PsOk cols (G.flatMap linesG)) (hn : ls.length ≤ 400)
  (e : H1 la = some (.list (refs ls))) (hL : ∀ l ∈ ls,LnAt H1 l) (fa : H1 a = none) (fb : H1 b = none) (fc : H1 c = none) (bc : b ≠ c)
  {H2 : Hp} (E : Ext H1 H2) (oa : H2 a = some (.inst 532 (llF f b c true))) (ob : H2 b = some (.list [])) (oc : H2 c = some (.list []))
  (fin : ∀ H3,Ext H1 H3 → H3 a = some (.inst 532 (llF f b c true)) → H3 b = some (.list (natV (begsF 0 g.1))) → H3 c = some (.list ((cellsOf g.1.flatten).map Cell.v)) → Run W 5 k [] [some (.ref la),x1,some (.int (((done.flatMap linesG).length + g.1.length : Nat) : Int)),some (.ref a)] H3 Q) :
  Run W 5 (.whl [.lit (.raw (.ref 564)),.loc 0,.loc 2,.call 2,.chk] [.loc 3,.mth 1,.lit (.raw (.ref 557)),.loc 0,.loc 2,.call 2,.call 2,.pop,.loc 2,.lit (.int (1)),.bin .Add,.sto 2] :: k) [] [some (.ref la),x1,some (.int (((done.flatMap linesG).length : Nat) : Int)),some (.ref a)] H2 Q := by
 have lenP : ls.length = (G.flatMap linesG).length := by have := congrArg List.length hv; simpa using this
 have lenB : (done.flatMap linesG).length + g.1.length < ls.length := by
  rw [lenP,hG,List.flatMap_append,List.flatMap_cons,List.length_append,List.length_append]
  have : (linesG g).length = g.1.length + 1 := by simp [linesG]
  omega
 let St : Nat → Hp → Prop := fun i H3 => Ext H1 H3 ∧ H3 a = some (.inst 532 (llF f b c true)) ∧ H3 b = some (.list (natV (begsF 0 (g.1.take i)))) ∧ H3 c = some (.list ((cellsOf (g.1.take i).flatten).map Cell.v))
 refine Run.whl (J := fun n ρ H3 => ∃ i,n + i = g.1.length ∧ ρ = [some (.ref la),x1,some (.int (((done.flatMap linesG).length + i : Nat) : Int)),some (.ref a)] ∧ St i H3)
  (B := fun n ρ H3 => ∃ i,n + i = g.1.length ∧ 0 < n ∧ ρ = [some (.ref la),x1,some (.int (((done.flatMap linesG).length + i : Nat) : Int)),some (.ref a)] ∧ St i H3)
  (N := fun ρ H3 => ρ = [some (.ref la),x1,some (.int (((done.flatMap linesG).length + g.1.length : Nat) : Int)),some (.ref a)] ∧ St g.1.length H3) (Z := fun _ _ => False) g.1.length ⟨0,by omega,rfl,E,oa,ob,oc⟩ ?_ ?_ ?_ (fun _ _ z => z.elim)
 ·rintro n ρ H3 ⟨i,hi,rfl,hS⟩
  have hP := lines_at hG i (by omega)
  walk_at "r"
  by_cases q : n = 0
  ·have : i = g.1.length := by omega
   subst this
   rw [linesG_end] at hP
   obtain ⟨l,h1,h2,h3⟩ := ln_of hv hP
   have hp2 : (cellsOf g.2).length ≤ cols := ok.len _ (List.mem_of_getElem? hP)
   refine r_call2 ((sp_goes_on (hS.1 _ _ e) (fun l hl => (hL l hl).ext hS.1) h1 (by omega) (by rw [h2]; simp; omega)).tu rfl) rfl ?_
   refine is_elim ?_
   rw [h3,Bool.and_false]
   walk_at "r"
   exact Run.nil ⟨rfl,rfl,hS⟩
  ·obtain ⟨p,hp⟩ : ∃ p,g.1[i]? = some p := ⟨_,List.getElem?_eq_getElem (show i < g.1.length by omega)⟩
   rw [linesG_go hp] at hP
   obtain ⟨l,h1,h2,h3⟩ := ln_of hv hP
   have hp2 : (cellsOf p).length ≤ cols := ok.len _ (List.mem_of_getElem? hP)
   refine r_call2 ((sp_goes_on (hS.1 _ _ e) (fun l hl => (hL l hl).ext hS.1) h1 (by omega) (by rw [h2]; simp; omega)).tu rfl) rfl ?_
   refine is_elim ?_
   rw [h3,Bool.and_true,decide_eq_true (show (done.flatMap linesG).length + i + 1 < ls.length by omega)]
   walk_at "r"
   exact Run.nil ⟨rfl,i,hi,by omega,rfl,hS⟩
 ·rintro n ρ H3 ⟨i,hi,h0,rfl,E3,oa3,ob3,oc3⟩
  have hP := lines_at hG i (by omega)
  obtain ⟨p,hp⟩ : ∃ p,g.1[i]? = some p := ⟨_,List.getElem?_eq_getElem (show i < g.1.length by omega)⟩
  rw [linesG_go hp] at hP
  obtain ⟨l,h1,h2,h3⟩ := ln_of hv hP
  have pm := List.mem_of_getElem? hP
  have hp2 : (cellsOf p).length ≤ cols := ok.len _ pm
  obtain ⟨pne,p',hp',alt⟩ := ok.go _ p hP
  obtain ⟨l',h1',h2',h3'⟩ := ln_of (p := p'.1) (w := p'.2) hv hp'
  have hp2' : (cellsOf p'.1).length ≤ cols := ok.len _ (List.mem_of_getElem? hp')
  obtain ⟨q,d,hq,hd,_⟩ := cells_tail (ok.sg _ pm) pne
  walk_at "r1"
  have oa3' := oa3
  unfold llF at oa3'
  walk_at "r"
  refine r_call2 ((sp_part_go (E3 _ _ e) (fun l hl => (hL l hl).ext E3) h1 h1' (by omega) h2 (by omega) ⟨q,d,hq,hd⟩ h3 (by rw [h2']; simp; omega) (by
   rcases alt with z | ⟨z,c0,t0,z2,z3⟩
   ·exact .inl (by omega)
   ·refine .inr ⟨by omega,c0,?_,z3⟩
    rw [h2',z2,List.getElem?_append_left (by have := cells_head (c := c0) (t := t0); exact (List.getElem?_eq_some_iff.mp this).1)]
    exact cells_head)).tu rfl) rfl ?_
  rintro _ H4 ⟨x,rfl,gx,E4⟩
  have xb : x ≠ b := fun z => by
   have ob4 := E4 _ _ ob3
   rw [← z,gx,hq,List.map_append] at ob4
   have := Option.some.inj ob4
   simp only [MO.list.injEq] at this
   exact cells_ne_nat this
  have gl : (g.1.take i).length = i := by simp; omega
  refine r_call2 ((sp_LL_put (E4 _ _ oa3) (E4 _ _ ob3) (E4 _ _ oc3) gx bc xb ⟨by simp [natV,begsF_len]; omega,by
   have := cells_bound (cols := cols) (l := g.1.take i) (fun p' hp' => by
    obtain ⟨j,hj⟩ := List.getElem?_of_mem (List.mem_of_mem_take hp')
    have hj2 := lines_at hG j (by have := (List.getElem?_eq_some_iff.mp hj).1; omega)
    rw [linesG_go hj] at hj2
    exact ok.len _ (List.mem_of_getElem? hj2))
   have g2 : cols * (g.1.take i).length ≤ 7 * 400 := Nat.mul_le_mul hcols.2 (by omega)
   simp only [List.length_map]; omega⟩).tu rfl) rfl ?_
  refine is_elim ?_
  walk_at "r"
  refine Run.nil ⟨n - 1,by omega,i + 1,by omega,by rw [show (((done.flatMap linesG).length + i : Nat) : Int) + 1 = (((done.flatMap linesG).length + (i + 1) : Nat) : Int) by omega],?_,?_,?_,?_⟩
  ·exact ((E3.trans E4).upd fb).upd fc
  ·exact at_ne (at_ne (E4 _ _ oa3) (ne_kd oa3 ob3 rfl)) (ne_kd oa3 oc3 rfl)
  ·rw [setF_ne bc,setF_same,List.take_add_one,hp]
   rw [show (some p).toList = [p] from rfl,begsF_app,natV_app]
   simp [begsF,natV]
  ·rw [setF_same,List.take_add_one,hp]
   rw [show (some p).toList = [p] from rfl,List.flatten_append,cellsOf_app]
   simp
 ·rintro ρ H3 ⟨rfl,E3,oa3,ob3,oc3⟩
  rw [List.take_length] at ob3 oc3
  exact fin H3 E3 oa3 ob3 oc3
end
structure LLs (H H2 : Hp) (fo : Nat) (done : List Gp) (lls : List LL) : Prop where
 g : lls.map (·.g) = done
 at_ : ∀ l ∈ lls,LLAt H2 l
 fr : ∀ l ∈ lls,H l.a = none ∧ H l.b = none ∧ H l.c = none
 ne : ∀ l ∈ lls,l.b ≠ fo ∧ l.c ≠ fo ∧ l.b ≠ l.c
 f : ∀ (i : Nat) (l : LL),lls[i]? = some l → l.f = ((done.take i).flatMap linesG).length
 ndc : (lls.map (·.c)).Nodup
 nbc : ∀ l ∈ lls,∀ l' ∈ lls,l.b ≠ l'.c
theorem len_flat (d : List Gp) : d.length ≤ (d.flatMap linesG).length := by
 induction d with
 | nil => simp
 | cons y d ih =>
  simp only [List.flatMap_cons,List.length_append,List.length_cons]
  have : 1 ≤ (linesG y).length := by simp [linesG]
  omega
section
variable {W : Wx} {H : Hp}
theorem sp_logical {la cols : Nat} {ls : List Ln} {G : List Gp} (hcols : 2 ≤ cols ∧ cols ≤ 7) (hv : ls.map (fun l => (l.cells,l.wr)) = (G.flatMap linesG).map (fun q => padP cols (cellsOf q.1,q.2))) (ok : PsOk cols (G.flatMap linesG)) (hn : ls.length ≤ 400)
  (e : H la = some (.list (refs ls))) (hL : ∀ l ∈ ls,LnAt H l) : CallW W 6 (.ref 571) [.ref la] H fun x H' => ∃ fo lls,x = .ref fo ∧ H fo = none ∧ H' fo = some (.list (lrefs lls)) ∧ LLs H H' fo G lls ∧ Ext H H' := by
 refine in_571 _ ?_
 unfold cd_571
 have lenP : ls.length = (G.flatMap linesG).length := by have := congrArg List.length hv; simpa using this
 have lrl : (refs ls).length = ls.length := by simp [refs]
 refine r_lst0E fun fo H0 f0 g0 E0 => ?_
 walk_at "r"
 let St : List Gp → List LL → Hp → Prop := fun done lls H2 => Ext H H2 ∧ H2 fo = some (.list (lrefs lls)) ∧ LLs H H2 fo done lls
 let Jn : Nat → Ro → Hp → Prop := fun n ρ H2 => ∃ done rest lls x3,G = done ++ rest ∧ rest.length = n ∧ ρ = [some (.ref la),some (.ref fo),some (.int (((done.flatMap linesG).length : Nat) : Int)),x3] ∧ St done lls H2
 refine Run.whl (J := Jn) (B := fun n ρ H2 => 0 < n ∧ Jn n ρ H2) (N := fun ρ H2 => Jn 0 ρ H2) (Z := fun _ _ => False) G.length ⟨[],G,[],none,rfl,rfl,rfl,E0,g0,rfl,by simp,by simp,by simp,by simp,by simp,by simp⟩ ?_ ?_ ?_ (fun _ _ z => z.elim)
 ·rintro n ρ H2 ⟨done,rest,lls,x3,hG,hr,rfl,E,hfo,L⟩
  have e2 := E _ _ e
  walk_at "r"
  have len : ls.length = (done.flatMap linesG).length + (rest.flatMap linesG).length := by rw [lenP,hG,List.flatMap_append,List.length_append]
  by_cases q : n = 0
  ·have : rest = [] := List.eq_nil_of_length_eq_zero (by omega)
   subst this
   simp only [List.flatMap_nil,List.length_nil] at len
   rw [decide_eq_false (by omega)]
   exact Run.nil ⟨rfl,done,[],lls,x3,hG,rfl,rfl,E,hfo,L⟩
  ·obtain ⟨g,r,rfl⟩ : ∃ g r,rest = g :: r := by cases rest with | nil => exact absurd hr.symm q | cons g r => exact ⟨g,r,rfl⟩
   have lg : (linesG g).length = g.1.length + 1 := by simp [linesG]
   simp only [List.flatMap_cons,List.length_append,lg] at len
   rw [decide_eq_true (by omega)]
   exact Run.nil ⟨rfl,by omega,done,g :: r,lls,x3,hG,hr,rfl,E,hfo,L⟩
 ·rintro n ρ H1 ⟨h0,done,rest,lls,x3,hG,hr,rfl,E,hfo,L⟩
  obtain ⟨g,r,rfl⟩ : ∃ g r,rest = g :: r := by cases rest with | nil => simp at hr; omega | cons g r => exact ⟨g,r,rfl⟩
  have e1 := E _ _ e
  have hL1 : ∀ l ∈ ls,LnAt H1 l := fun l hl => (hL l hl).ext E
  have len : ls.length = (done.flatMap linesG).length + (((g :: r).flatMap linesG)).length := by rw [lenP,hG,List.flatMap_append,List.length_append]
  have lg : (linesG g).length = g.1.length + 1 := by simp [linesG]
  simp only [List.flatMap_cons,List.length_append,lg] at len
  obtain ⟨q0,hq0⟩ : ∃ q0,(linesG g)[0]? = some q0 := ⟨_,List.getElem?_eq_getElem (by omega)⟩
  have hP0 := lines_at hG 0 (by omega)
  rw [hq0,Nat.add_zero] at hP0
  obtain ⟨l0,k1,_,_⟩ := ln_of (p := q0.1) (w := q0.2) hv hP0
  have lo0 := (hL1 l0 (List.mem_of_getElem? k1)).o
  unfold lf at lo0
  walk_at "r"
  refine r_idx e1 (by omega) (at_refs k1) ?_
  walk_at "r"
  refine r_call2 ((sp_LL_new (done.flatMap linesG).length).tu rfl) rfl ?_
  rintro _ H2 ⟨a,b,c,rfl,fa,fb,fc,bc,oa,ob,oc,E2⟩
  walk_at "r"
  refine sp_gather hcols hG hv ok hn e1 hL1 fa fb fc bc E2 oa ob oc fun H3 E3 oa3 ob3 oc3 => ?_
  have hP := lines_at hG g.1.length (by omega)
  rw [linesG_end] at hP
  obtain ⟨l,k2,k3,k4⟩ := ln_of hv hP
  have pm := List.mem_of_getElem? hP
  have plen : (cellsOf g.2).length ≤ cols := ok.len _ pm
  have oa3' := oa3
  unfold llF at oa3'
  walk_at "r"
  refine r_call2 ((sp_part_end (E3 _ _ e1) (fun l hl => (hL1 l hl).ext E3) k2 (by omega) k3 (by omega) (by
   intro t d z
   by_cases ne : g.2 = []
   ·rw [ne] at z; simp [cellsOf] at z
   ·obtain ⟨q,d',z1,_,z3⟩ := cells_tail (ok.sg _ pm) ne
    rw [z1] at z
    have := (List.append_inj' z rfl).2
    simp at this; rw [← this]; exact z3) k4).tu rfl) rfl ?_
  rintro _ H4 ⟨x,rfl,fx,gx,E4⟩
  have xb : x ≠ b := (ne_new ob3 fx).symm
  have bound : (cellsOf g.1.flatten).length ≤ 7 * 400 := by
   have := cells_bound (cols := cols) (l := g.1) (fun p' hp' => by
    obtain ⟨j,hj⟩ := List.getElem?_of_mem hp'
    have hj2 := lines_at hG j (by have := (List.getElem?_eq_some_iff.mp hj).1; omega)
    rw [linesG_go hj] at hj2
    exact ok.len _ (List.mem_of_getElem? hj2))
   have g2 : cols * g.1.length ≤ 7 * 400 := Nat.mul_le_mul hcols.2 (by omega)
   omega
  refine r_call2 ((sp_LL_put (E4 _ _ oa3) (E4 _ _ ob3) (E4 _ _ oc3) gx bc xb ⟨by simp [natV,begsF_len]; omega,by simp only [List.length_map]; omega⟩).tu rfl) rfl ?_
  refine is_elim ?_
  have E5 : Ext H1 (setF (setF H4 b (.list (natV (begsF 0 g.1) ++ [.int ((cellsOf g.1.flatten).map Cell.v).length]))) c (.list ((cellsOf g.1.flatten).map Cell.v ++ (cellsOf g.2).map Cell.v))) := ((E3.trans E4).upd fb).upd fc
  have oa5 := at_ne (at_ne (E4 _ _ oa3) (ne_kd oa3 ob3 rfl) (m' := .list (natV (begsF 0 g.1) ++ [.int ((cellsOf g.1.flatten).map Cell.v).length]))) (ne_kd oa3 oc3 rfl) (m' := .list ((cellsOf g.1.flatten).map Cell.v ++ (cellsOf g.2).map Cell.v))
  have ob5 : setF (setF H4 b (.list (natV (begsF 0 g.1) ++ [.int ((cellsOf g.1.flatten).map Cell.v).length]))) c (.list ((cellsOf g.1.flatten).map Cell.v ++ (cellsOf g.2).map Cell.v)) b = some (.list (natV (begsF 0 g.ps))) := by
   rw [setF_ne bc,setF_same]
   unfold Gp.ps
   rw [begsF_app,natV_app]; simp [begsF,natV]
  have oc5 : setF (setF H4 b (.list (natV (begsF 0 g.1) ++ [.int ((cellsOf g.1.flatten).map Cell.v).length]))) c (.list ((cellsOf g.1.flatten).map Cell.v ++ (cellsOf g.2).map Cell.v)) c = some (.list ((cellsOf g.ps.flatten).map Cell.v)) := by
   rw [setF_same]
   unfold Gp.ps
   rw [List.flatten_append,cellsOf_app]; simp
  generalize setF (setF H4 b (.list (natV (begsF 0 g.1) ++ [.int ((cellsOf g.1.flatten).map Cell.v).length]))) c (.list ((cellsOf g.1.flatten).map Cell.v ++ (cellsOf g.2).map Cell.v)) = H5 at *
  have e5 := E5 _ _ e1
  have lo5 := (hL1 l (List.mem_of_getElem? k2)).ext E5
  have lo5' := lo5.o
  unfold lf at lo5'
  walk_at "r"
  refine r_idx e5 (by omega) (at_refs k2) ?_
  walk_at "r"
  rw [k4]
  unfold llF at oa5
  refine r_sattr oa5 rfl rfl ?_
  rw [setF_self (show H5 a = some (.inst 532 (putF 10 (.bool !false) [(8,.int ((done.flatMap linesG).length : Nat)),(2,.str (S "single")),(9,.ref b),(0,.ref c),(10,.bool true)])) from oa5)]
  have hfo5 := E5 _ _ hfo
  walk_at "r"
  refine r_mapp hfo5 ?_
  walk_at "r"
  have ll1 : lls.length ≤ 400 := by
   have h1 : lls.length = done.length := by rw [← L.g]; simp
   have h2 := len_flat done
   omega
  refine r_append hfo5 (by simp [lrefs]; omega) ?_
  walk_at "r"
  have fb0 := back E fb
  have fc0 := back E fc
  have fa0 := back E fa
  have kp : ∀ y m,H5 y = some m → y ≠ fo → setF H5 fo (.list (lrefs lls ++ [.ref a])) y = some m := fun y m z q => at_ne z q
  refine Run.nil ⟨n - 1,by omega,done ++ [g],r,lls ++ [⟨a,b,c,(done.flatMap linesG).length,g⟩],some (.ref a),by rw [hG]; simp,by simp at hr; omega,?_,(E.trans E5).upd f0,?_,?_,fun y hy => ?_,fun y hy => ?_,fun y hy => ?_,fun i y hy => ?_,?_,fun y hy y' hy' => ?_⟩
  ·rw [List.flatMap_append,List.length_append]
   simp only [List.flatMap_cons,List.flatMap_nil,List.append_nil,lg]
   rw [show (((done.flatMap linesG).length + g.1.length : Nat) : Int) + 1 = (((done.flatMap linesG).length + (g.1.length + 1) : Nat) : Int) by omega]
  ·rw [setF_same]; simp [lrefs]
  ·rw [List.map_append,L.g]; rfl
  ·rcases List.mem_append.mp hy with hy | hy
   ·have z := (L.at_ y hy).ext E5
    exact ⟨kp _ _ z.o (ne_kd z.o hfo5 rfl),kp _ _ z.b (L.ne y hy).1,kp _ _ z.c (L.ne y hy).2.1⟩
   ·rw [List.mem_singleton.mp hy]
    exact ⟨kp _ _ oa5 (ne_kd oa5 hfo5 rfl),kp _ _ ob5 (ne_new hfo fb).symm,kp _ _ oc5 (ne_new hfo fc).symm⟩
  ·rcases List.mem_append.mp hy with hy | hy
   ·exact L.fr y hy
   ·rw [List.mem_singleton.mp hy]; exact ⟨fa0,fb0,fc0⟩
  ·rcases List.mem_append.mp hy with hy | hy
   ·exact L.ne y hy
   ·rw [List.mem_singleton.mp hy]; exact ⟨(ne_new hfo fb).symm,(ne_new hfo fc).symm,bc⟩
  ·have ld : lls.length = done.length := by rw [← L.g]; simp
   by_cases q : i < lls.length
   ·rw [List.getElem?_append_left q] at hy
    rw [L.f i y hy,List.take_append_of_le_length (by omega)]
   ·rw [List.getElem?_append_right (by omega)] at hy
    have : i = lls.length := by
     have := (List.getElem?_eq_some_iff.mp hy).1
     simp at this; omega
    subst this
    rw [Nat.sub_self] at hy
    have hy' : some (⟨a,b,c,(done.flatMap linesG).length,g⟩ : LL) = some y := hy
    rw [← Option.some.inj hy']
    show (done.flatMap linesG).length = _
    rw [ld,List.take_left]
  ·rw [List.map_append,List.nodup_append]
   refine ⟨L.ndc,by simp,fun y hy z hz => ?_⟩
   obtain ⟨w,hw,rfl⟩ := List.mem_map.mp hy
   simp only [List.map_cons,List.map_nil,List.mem_singleton] at hz
   rw [hz]
   exact ne_new (L.at_ w hw).c fc
  ·rcases List.mem_append.mp hy with hy | hy <;> rcases List.mem_append.mp hy' with hy' | hy'
   ·exact L.nbc y hy y' hy'
   ·rw [List.mem_singleton.mp hy']; exact ne_new (L.at_ y hy).b fc
   ·rw [List.mem_singleton.mp hy]; exact (ne_new (L.at_ y' hy').c fb).symm
   ·rw [List.mem_singleton.mp hy,List.mem_singleton.mp hy']; exact bc
 ·rintro ρ H2 ⟨done,rest,lls,x3,hG,hr,rfl,E,hfo,L⟩
  have : rest = [] := List.eq_nil_of_length_eq_zero hr
  subst this
  rw [List.append_nil] at hG
  subst hG
  walk_at "r"
  exact Run.ret ⟨fo,lls,rfl,f0,hfo,L,E⟩
end
def Sw (c : Cell) : Prop := c.w = 1 ∨ c.w = 2
theorem sgc_lenw {c : Cell} (h : Sw c) : (sgc c).length = c.w := by unfold sgc; rcases h with h | h <;> simp [h]
def cutS (cols : Nat) (g : Gp) (c : Cell) : Gp := if (cellsOf g.2).length + c.w ≤ cols then (g.1,g.2 ++ [c]) else (g.1 ++ [g.2],[c])
def cut (cols : Nat) (u : List Cell) : Gp := u.foldl (cutS cols) ([],[])
def plV (l : List (Nat × Nat)) : List V := l.map fun p => .tup [.int (p.1 : Nat),.int (p.2 : Nat)]
def padC (cols : Nat) (p : List Cell) : List Cell := (padP cols (cellsOf p,false)).1
structure CutSt (cols : Nat) (H0 H : Hp) (ps pc pl : Nat) (qs : List Nat) (g : Gp) (places : List (Nat × Nat)) : Prop where
 ext : Ext H0 H
 fps : H0 ps = none
 fpl : H0 pl = none
 fpc : H0 pc = none
 fqs : ∀ q ∈ qs,H0 q = none
 hps : H ps = some (.list (qs.map V.ref))
 hpl : H pl = some (.list (plV places))
 hpc : H pc = some (.list ((cellsOf g.2).map Cell.v))
 len : qs.length = g.1.length
 hqs : ∀ (i : Nat) (q : Nat) (b : List Cell),qs[i]? = some q → g.1[i]? = some b → H q = some (.list ((padC cols b).map Cell.v))
 n1 : pc ≠ ps
 n2 : pc ≠ pl
 n3 : ps ≠ pl
 n4 : ps ∉ qs
 n5 : pl ∉ qs
 n6 : pc ∉ qs
structure PlOk (u : List Cell) (g : Gp) (places : List (Nat × Nat)) : Prop where
 len : places.length = (cellsOf u).length
 hd : ∀ p,places[0]? = some p → p = (0,0)
 lst : u ≠ [] → places[places.length - 1]? = some (g.1.length,(cellsOf g.2).length - 1)
section
variable {W : Wx} {H H0 : Hp}
theorem CutSt.ext' {cols : Nat} {H' : Hp} {ps pc pl : Nat} {qs : List Nat} {g : Gp} {places : List (Nat × Nat)} (h : CutSt cols H0 H ps pc pl qs g places) (e : Ext H H') : CutSt cols H0 H' ps pc pl qs g places :=
 ⟨h.ext.trans e,h.fps,h.fpl,h.fpc,h.fqs,e _ _ h.hps,e _ _ h.hpl,e _ _ h.hpc,h.len,fun i q b x y => e _ _ (h.hqs i q b x y),h.n1,h.n2,h.n3,h.n4,h.n5,h.n6⟩
theorem ne_mem {l : List Nat} {a b : Nat} (h : a ∉ l) (hb : b ∈ l) : b ≠ a := fun z => h (z ▸ hb)
theorem cut_tail {cols ca ps pc pl pt at_ : Nat} {qs : List Nat} {g : Gp} {places : List (Nat × Nat)} {c : Cell} {cv : Option V} {x9 : Option V} {k : List I} {Q : Out → Prop} (h : CutSt cols H0 H ps pc pl qs g places) (hw : Sw c) (hpt : H pt = some (.list ((sgc c).map Cell.v))) (n7 : pt ≠ pl) (n8 : pt ≠ pc)
  (hb : qs.length ≤ 900 ∧ places.length ≤ 9000 ∧ (cellsOf g.2).length ≤ 900)
  (fin : ∀ H' x9',CutSt cols H0 H' ps pc pl qs (g.1,g.2 ++ [c]) (places ++ (List.range c.w).map fun i => (g.1.length,(cellsOf g.2).length + i)) → Ext H0 H' → Run W 3 k [] [some (.ref ca),some (.int cols),some (.ref ps),some (.ref pc),some (.ref pl),some (.int ((at_ + c.w : Nat) : Int)),cv,some (.int c.w),some (.ref pt),x9'] H' Q) :
  Run W 3 (.loc 7 :: .fr .range 1 [.sto 9] [.loc 4,.mth 41,.lit (.raw (.builtin "len")),.loc 2,.call 1,.lit (.raw (.builtin "len")),.loc 3,.call 1,.lit (.raw (.builtin "min")),.loc 9,.lit (.raw (.builtin "len")),.loc 8,.call 1,.lit (.int (1)),.bin .Sub,.call 2,.bin .Add,.tup 2,.call 2,.pop] :: .loc 3 :: .mth 42 :: .loc 8 :: .call 2 :: .pop :: .loc 5 :: .loc 7 :: .bin .Add :: .sto 5 :: k) []
   [some (.ref ca),some (.int cols),some (.ref ps),some (.ref pc),some (.ref pl),some (.int ((at_ : Nat) : Int)),cv,some (.int c.w),some (.ref pt),x9] H Q := by
 have cw : 1 ≤ c.w ∧ c.w ≤ 2 := by rcases hw with q | q <;> omega
 have sl := sgc_lenw hw
 let np : Nat → List (Nat × Nat) := fun i => (List.range i).map fun i => (g.1.length,(cellsOf g.2).length + i)
 let Hi : Nat → Hp := fun i => setF H pl (.list (plV (places ++ np i)))
 refine Run.loc rfl ?_
 refine Run.fr (l := (List.range c.w).map fun (i : Nat) => V.int (i : Int)) (args := [.int c.w]) (J := fun i ρ H' => (∃ x9',ρ = [some (.ref ca),some (.int cols),some (.ref ps),some (.ref pc),some (.ref pl),some (.int ((at_ : Nat) : Int)),cv,some (.int c.w),some (.ref pt),x9']) ∧ H' = Hi i) (Z := fun _ _ => False) rfl rfl ⟨⟨x9,rfl⟩,?_⟩ (fun i ρ H' _ _ => ⟨by omega,by omega,by simp⟩) ?_ ?_ (fun _ _ z => z.elim)
 ·show H = setF H pl (.list (plV (places ++ [])))
  rw [List.append_nil]; exact (setF_self h.hpl).symm
 ·rintro i x ρ H' hx ⟨⟨x9',rfl⟩,rfl⟩
  rw [List.getElem?_map] at hx
  have hi : i < c.w := by
   by_cases q : i < c.w
   ·exact q
   ·rw [List.getElem?_eq_none (by simp; omega)] at hx; cases hx
  rw [List.getElem?_range hi] at hx
  cases hx
  have a1 : Hi i pl = some (.list (plV (places ++ np i))) := setF_same
  have a2 : Hi i ps = some (.list (qs.map V.ref)) := at_ne h.hps h.n3
  have a3 : Hi i pc = some (.list ((cellsOf g.2).map Cell.v)) := at_ne h.hpc h.n2
  have a4 : Hi i pt = some (.list ((sgc c).map Cell.v)) := at_ne hpt n7
  have np_len : (np i).length = i := by simp [np]
  walk_at "c"
  refine r_mapp a1 ?_
  walk_at "r"
  refine r_append a1 (by simp [plV,np_len]; omega) ?_
  walk_at "r"
  refine Run.nil ⟨⟨_,rfl⟩,?_⟩
  show setF (Hi i) pl _ = setF H pl _
  rw [show Hi i = setF H pl (.list (plV (places ++ np i))) from rfl,setF_setF]
  congr 2
  have e : np (i + 1) = np i ++ [(g.1.length,(cellsOf g.2).length + i)] := by simp [np,List.range_succ]
  rw [e]
  unfold plV
  have e2 : (((cellsOf g.2).length : Nat) : Int) + min (i : Int) ((c.w : Int) - 1) = (((cellsOf g.2).length + i : Nat) : Int) := by omega
  simp only [List.map_append,List.append_assoc,List.map_cons,List.map_nil,List.length_map,h.len,sl]
  rw [e2]
 ·rintro ρ H' ⟨⟨x9',rfl⟩,rfl⟩
  rw [List.length_map,List.length_range]
  have a1 : Hi c.w pl = some (.list (plV (places ++ np c.w))) := setF_same
  have a2 : Hi c.w ps = some (.list (qs.map V.ref)) := at_ne h.hps h.n3
  have a3 : Hi c.w pc = some (.list ((cellsOf g.2).map Cell.v)) := at_ne h.hpc h.n2
  have a4 : Hi c.w pt = some (.list ((sgc c).map Cell.v)) := at_ne hpt n7
  have E1 : Ext H0 (Hi c.w) := h.ext.upd h.fpl
  have a5 : ∀ (i : Nat) (q : Nat) (b : List Cell),qs[i]? = some q → g.1[i]? = some b → Hi c.w q = some (.list ((padC cols b).map Cell.v)) := fun i q b x y => at_ne (h.hqs i q b x y) (ne_mem h.n5 (List.mem_of_getElem? x))
  generalize Hi c.w = H1 at *
  walk_at "r"
  refine r_mext a3 ?_
  walk_at "r"
  refine r_extend a3 a4 (by simp [sl]; omega) ?_
  walk_at "r"
  rw [show ((at_ : Nat) : Int) + (c.w : Int) = ((at_ + c.w : Nat) : Int) by omega]
  have E2 : Ext H0 (setF H1 pc (.list ((cellsOf g.2).map Cell.v ++ (sgc c).map Cell.v))) := E1.upd h.fpc
  refine fin _ _ ⟨E2,h.fps,h.fpl,h.fpc,h.fqs,at_ne a2 h.n1.symm,at_ne a1 h.n2.symm,?_,h.len,fun i q b x y => at_ne (a5 i q b x y) (ne_mem h.n6 (List.mem_of_getElem? x)),h.n1,h.n2,h.n3,h.n4,h.n5,h.n6⟩ E2
  rw [setF_same]
  simp [cellsOf_app,cellsOf_one]
theorem cut_over {cols ca ps pc pl : Nat} {qs : List Nat} {g : Gp} {places : List (Nat × Nat)} {c : Cell} {a5 cv mv pv x9 : Option V} {pt : Nat} {k : List I} {Q : Out → Prop} (hcols : 2 ≤ cols ∧ cols ≤ 7) (h : CutSt cols H0 H ps pc pl qs g places) (hw : Sw c) (hpt : H pt = some (.list ((sgc c).map Cell.v))) (n7 : pt ≠ pl) (n8 : pt ≠ pc) (n9 : pt ≠ ps)
  (hb : qs.length ≤ 900 ∧ (cellsOf g.2).length ≤ cols)
  (fin : ∀ H' pc' qs' g',CutSt cols H0 H' ps pc' pl qs' g' places → H' pt = some (.list ((sgc c).map Cell.v)) → pt ≠ pc' → (g'.1,g'.2 ++ [c]) = cutS cols g c → qs'.length ≤ qs.length + 1 → (cellsOf g'.2).length ≤ cols → Run W 3 k [] [some (.ref ca),some (.int cols),some (.ref ps),some (.ref pc'),some (.ref pl),a5,cv,mv,some (.ref pt),x9] H' Q) :
  Run W 3 (.lit (.raw (.builtin "len")) :: .loc 3 :: .call 1 :: .lit (.raw (.builtin "len")) :: .loc 8 :: .call 1 :: .bin .Add :: .loc 1 :: .cmp .Gt :: .chk :: .ite [.lit (.raw (.builtin "len")),.loc 3,.call 1,.loc 1,.cmp .Lt,.chk,.ite [.loc 3,.mth 41,.lit (.raw (.ref 76)),.lit (.tup [.int (0),.int (-1),.int (-1),.int (-1),.int (0)]),.call 1,.call 2,.pop] [],.loc 2,.mth 41,.loc 3,.call 2,.pop,.lst 0,.sto 3] [] :: k) []
   [some (.ref ca),some (.int cols),some (.ref ps),some (.ref pc),some (.ref pl),a5,cv,mv,some (.ref pt),x9] H Q := by
 have cw : 1 ≤ c.w ∧ c.w ≤ 2 := by rcases hw with q | q <;> omega
 have sl := sgc_lenw hw
 have h1 := h.hpc
 walk_at "r"
 simp only [List.length_map,sl]
 by_cases q : (cellsOf g.2).length + c.w ≤ cols
 ·refine r_f (decide_eq_false (by omega)) ?_
  rw [List.nil_append]
  exact fin H pc qs g h hpt n8 (by unfold cutS; rw [if_pos q]) (by omega) hb.2
 ·refine r_t (decide_eq_true (by omega)) ?_
  walk_at "c"
  simp only [List.length_map]
  have rest : ∀ {H1 : Hp},CutSt cols H0 H1 ps pc pl qs g places → True := fun _ => trivial
  have go : ∀ {H1 : Hp},Ext H0 H1 → H1 ps = some (.list (qs.map V.ref)) → H1 pl = some (.list (plV places)) → H1 pc = some (.list ((padC cols g.2).map Cell.v)) → H1 pt = some (.list ((sgc c).map Cell.v)) → (∀ (i : Nat) (q : Nat) (b : List Cell),qs[i]? = some q → g.1[i]? = some b → H1 q = some (.list ((padC cols b).map Cell.v))) →
    Run W 3 (.loc 2 :: .mth 41 :: .loc 3 :: .call 2 :: .pop :: .lst 0 :: .sto 3 :: k) [] [some (.ref ca),some (.int cols),some (.ref ps),some (.ref pc),some (.ref pl),a5,cv,mv,some (.ref pt),x9] H1 Q := by
   intro H1 E1 b1 b2 b3 b4 b5
   walk_at "r1"
   refine r_mapp b1 ?_
   walk_at "r"
   refine r_append b1 (by simp; omega) ?_
   walk_at "r"
   have E2 : Ext H0 (setF H1 ps (.list (qs.map V.ref ++ [.ref pc]))) := E1.upd h.fps
   have d1 : setF H1 ps (.list (qs.map V.ref ++ [.ref pc])) ps = some (.list (qs.map V.ref ++ [.ref pc])) := setF_same
   have d2 := at_ne b2 h.n3.symm (m' := .list (qs.map V.ref ++ [.ref pc]))
   have d3 := at_ne b3 h.n1 (m' := .list (qs.map V.ref ++ [.ref pc]))
   have d4 := at_ne b4 n9 (m' := .list (qs.map V.ref ++ [.ref pc]))
   have d5 : ∀ (i : Nat) (q : Nat) (b : List Cell),qs[i]? = some q → g.1[i]? = some b → setF H1 ps (.list (qs.map V.ref ++ [.ref pc])) q = some (.list ((padC cols b).map Cell.v)) := fun i q b x y => at_ne (b5 i q b x y) (ne_mem h.n4 (List.mem_of_getElem? x))
   generalize setF H1 ps (.list (qs.map V.ref ++ [.ref pc])) = H2 at *
   refine r_lst0E fun pc' H3 f3 g3 E3 => ?_
   refine r_sto rfl ?_
   simp only [List.set_cons_succ,List.set_cons_zero]
   refine fin H3 pc' (qs ++ [pc]) (g.1 ++ [g.2],[]) ⟨E2.trans E3,h.fps,h.fpl,back E2 f3,fun y hy => ?_,by rw [E3 _ _ d1]; simp,E3 _ _ d2,g3,by simp [h.len],fun i y b hx hy => ?_,(ne_new d1 f3).symm,(ne_new d2 f3).symm,h.n3,?_,?_,?_⟩ (E3 _ _ d4) (ne_new d4 f3) (by unfold cutS; rw [if_neg q]; rfl) (by simp) (Nat.zero_le _)
   ·rcases List.mem_append.mp hy with hy | hy
    ·exact h.fqs y hy
    ·rw [List.mem_singleton.mp hy]; exact h.fpc
   ·by_cases q2 : i < qs.length
    ·rw [List.getElem?_append_left q2] at hx
     rw [List.getElem?_append_left (by rw [← h.len]; exact q2)] at hy
     exact E3 _ _ (d5 i y b hx hy)
    ·rw [List.getElem?_append_right (by omega)] at hx
     rw [List.getElem?_append_right (by rw [← h.len]; omega)] at hy
     have : i = qs.length := by have := (List.getElem?_eq_some_iff.mp hx).1; simp at this; omega
     subst this
     rw [Nat.sub_self] at hx
     rw [h.len,Nat.sub_self] at hy
     cases (show some pc = some y from hx)
     cases (show some g.2 = some b from hy)
     exact E3 _ _ d3
   ·simp only [List.mem_append,List.mem_singleton,not_or]; exact ⟨h.n4,h.n1.symm⟩
   ·simp only [List.mem_append,List.mem_singleton,not_or]; exact ⟨h.n5,h.n2.symm⟩
   ·simp only [List.mem_append,List.mem_singleton,not_or]
    refine ⟨fun z => ?_,(ne_new d3 f3).symm⟩
    obtain ⟨i,hi⟩ := List.getElem?_of_mem z
    obtain ⟨b,hb'⟩ : ∃ b,g.1[i]? = some b := ⟨_,List.getElem?_eq_getElem (by have := (List.getElem?_eq_some_iff.mp hi).1; rw [← h.len]; exact this)⟩
    rw [d5 i pc' b hi hb'] at f3; cases f3
  by_cases q3 : (cellsOf g.2).length < cols
  ·refine r_t (decide_eq_true (by omega)) ?_
   walk_at "c"
   refine r_mapp h1 ?_
   walk_at "r"
   refine r_call1 ((sp_blank 0).tu rfl) rfl ?_
   refine is_elim ?_
   refine r_append h1 (by simp; omega) ?_
   refine Run.pop ?_
   refine go (h.ext.upd h.fpc) (at_ne h.hps h.n1.symm) (at_ne h.hpl h.n2.symm) ?_ (at_ne hpt n8) fun i y b hx hy => at_ne (h.hqs i y b hx hy) (ne_mem h.n6 (List.mem_of_getElem? hx))
   rw [setF_same]
   unfold padC padP
   rw [show cols - (cellsOf g.2,false).1.length = 1 by show cols - (cellsOf g.2).length = 1; omega]
   simp
  ·refine r_f (decide_eq_false (by omega)) ?_
   rw [List.nil_append]
   refine go h.ext h.hps h.hpl ?_ hpt h.hqs
   rw [h1]
   unfold padC padP
   rw [show cols - (cellsOf g.2,false).1.length = 0 by show cols - (cellsOf g.2).length = 0; omega]
   simp
end
def pieces (cols : Nat) (u : List Cell) : List (List Cell) := (cut cols u).1.map (padC cols) ++ [cellsOf (cut cols u).2]
structure CutR (cols : Nat) (u : List Cell) (H H' : Hp) (ps pl : Nat) (qs : List Nat) (places : List (Nat × Nat)) : Prop where
 ext : Ext H H'
 hps : H' ps = some (.list (qs.map V.ref))
 hpl : H' pl = some (.list (plV places))
 len : qs.length = (pieces cols u).length
 hqs : ∀ (i : Nat) (q : Nat) (b : List Cell),qs[i]? = some q → (pieces cols u)[i]? = some b → H' q = some (.list (b.map Cell.v))
 pk : PlOk u (cut cols u) places
 fr : H ps = none ∧ H pl = none ∧ ∀ q ∈ qs,H q = none
theorem cut_snoc (cols : Nat) (u : List Cell) (c : Cell) : cut cols (u ++ [c]) = cutS cols (cut cols u) c := by unfold cut; rw [List.foldl_append]; rfl
theorem cut_le {cols : Nat} (hc : 2 ≤ cols) (u : List Cell) (hu : ∀ c ∈ u,Sw c) : (cellsOf (cut cols u).2).length ≤ cols := by
 rcases List.eq_nil_or_concat u with rfl | ⟨t,c,rfl⟩
 ·exact Nat.zero_le _
 ·rw [List.concat_eq_append] at hu ⊢
  rw [cut_snoc]
  have hw := hu c (by simp)
  unfold cutS
  split
  ·rename_i q; show (cellsOf ((cut cols t).2 ++ [c])).length ≤ cols
   rw [cellsOf_app,cellsOf_one,List.length_append,sgc_lenw hw]; exact q
  ·show (cellsOf [c]).length ≤ cols
   rw [cellsOf_one,sgc_lenw hw]
   rcases hw with q | q <;> omega
theorem plok_step {cols : Nat} {done : List Cell} {c : Cell} {g' : Gp} {places : List (Nat × Nat)} (hcols : 2 ≤ cols) (hw : Sw c) (h : PlOk done (cut cols done) places) (eg : (g'.1,g'.2 ++ [c]) = cutS cols (cut cols done) c) : PlOk (done ++ [c]) (cut cols (done ++ [c])) (places ++ (List.range c.w).map fun i => (g'.1.length,(cellsOf g'.2).length + i)) := by
 have cw : 1 ≤ c.w ∧ c.w ≤ 2 := by rcases hw with q | q <;> omega
 have sl := sgc_lenw hw
 have el : (places ++ (List.range c.w).map fun i => (g'.1.length,(cellsOf g'.2).length + i)).length = (cellsOf done).length + c.w := by simp [h.len]
 refine ⟨by rw [el,cellsOf_app,cellsOf_one,List.length_append,sl],fun p hp => ?_,fun _ => ?_⟩
 ·by_cases q : 0 < places.length
  ·rw [List.getElem?_append_left q] at hp; exact h.hd p hp
  ·have d0 : done = [] := by
    cases done with
    | nil => rfl
    | cons y d =>
     have := h.len
     unfold cellsOf at this
     rw [List.flatMap_cons,List.length_append] at this
     have : 0 < (sgc y).length := by unfold sgc; split <;> simp
     omega
   subst d0
   have : cutS cols (cut cols []) c = ([],[c]) := by
    show cutS cols ([],[]) c = _
    unfold cutS
    rw [if_pos (by simp [cellsOf]; omega)]; rfl
   rw [this] at eg
   have e1 := congrArg Prod.fst eg
   have e2 := congrArg Prod.snd eg
   dsimp only at e1 e2
   have e3 : g'.2 = [] := by cases hg : g'.2 with | nil => rfl | cons y d => rw [hg] at e2; simp at e2
   rw [List.getElem?_append_right (by omega),show 0 - places.length = 0 by omega,e1,e3] at hp
   rw [List.getElem?_map,List.getElem?_range (by omega)] at hp
   simpa [cellsOf] using hp.symm
 ·rw [el,List.getElem?_append_right (by rw [h.len]; omega),h.len,show (cellsOf done).length + c.w - 1 - (cellsOf done).length = c.w - 1 by omega,List.getElem?_map,List.getElem?_range (by omega),cut_snoc,← eg]
  simp only [Option.map_some,cellsOf_app,cellsOf_one,List.length_append,sl]
  congr 2
  omega
section
variable {W : Wx} {H : Hp}
theorem sp_cut {cols ca : Nat} {u : List Cell} (hcols : 2 ≤ cols ∧ cols ≤ 7) (e : H ca = some (.list ((cellsOf u).map Cell.v))) (hu : ∀ c ∈ u,Sw c) (hn : u.length ≤ 300 ∧ (cellsOf u).length ≤ 800) : CallW W 4 (.ref 578) [.ref ca,.int cols] H fun x H' => ∃ ps pl qs places,x = .tup [.ref ps,.ref pl] ∧ CutR cols u H H' ps pl qs places := by
 refine in_578 _ _ ?_
 unfold cd_578
 refine r_lst0E fun ps H1 f1 g1 E1 => ?_
 refine r_lst0E fun pc H2 f2 g2 E2 => ?_
 refine r_lst0E fun pl H3 f3 g3 E3 => ?_
 have p2 := E2 _ _ g1
 have p3 := E3 _ _ p2
 have c3 := E3 _ _ g2
 have E03 := (E1.trans E2).trans E3
 refine Run.lit ?_
 refine Run.tup (l := [.ref ps,.ref pc,.ref pl,.int 0]) rfl (by omega) rfl ?_
 refine Run.unp (l := [.ref ps,.ref pc,.ref pl,.int 0]) rfl ?_
 rw [List.cons_append,List.cons_append,List.cons_append,List.cons_append,List.nil_append]
 walk_at "r"
 let Jn : Nat → Ro → Hp → Prop := fun n ρ H' => ∃ done rest pc qs places x6 x7 x8 x9,u = done ++ rest ∧ rest.length = n ∧ ρ = [some (.ref ca),some (.int cols),some (.ref ps),some (.ref pc),some (.ref pl),some (.int ((cellsOf done).length : Nat)),x6,x7,x8,x9] ∧ CutSt cols H H' ps pc pl qs (cut cols done) places ∧ PlOk done (cut cols done) places ∧ qs.length ≤ done.length
 refine Run.whl (J := Jn) (B := fun n ρ H' => 0 < n ∧ Jn n ρ H') (N := fun ρ H' => Jn 0 ρ H') (Z := fun _ _ => False) u.length ⟨[],u,pc,[],[],none,none,none,none,rfl,rfl,rfl,⟨E03,f1,back (E1.trans E2) f3,back E1 f2,by simp,p3,g3,c3,rfl,by simp,(ne_new g1 f2).symm,ne_new g2 f3,ne_new p2 f3,by simp,by simp,by simp⟩,⟨rfl,by simp,fun z => absurd rfl z⟩,Nat.le_refl _⟩ ?_ ?_ ?_ (fun _ _ z => z.elim)
 ·rintro n ρ H' ⟨done,rest,pc,qs,places,x6,x7,x8,x9,hU,hr,rfl,C,P,hq⟩
  have e' := C.ext _ _ e
  have len : (cellsOf u).length = (cellsOf done).length + (cellsOf rest).length := by rw [hU,cellsOf_app,List.length_append]
  walk_at "r"
  simp only [List.length_map]
  by_cases q : n = 0
  ·have : rest = [] := List.eq_nil_of_length_eq_zero (by omega)
   subst this
   rw [decide_eq_false (by simp [cellsOf] at len; simp [cellsOf]; omega)]
   exact Run.nil ⟨rfl,done,[],pc,qs,places,x6,x7,x8,x9,hU,rfl,rfl,C,P,hq⟩
  ·obtain ⟨c,r,rfl⟩ : ∃ c r,rest = c :: r := by cases rest with | nil => exact absurd hr.symm q | cons c r => exact ⟨c,r,rfl⟩
   have : 0 < (cellsOf (c :: r)).length := by have := cells_head (c := c) (t := r); exact (List.getElem?_eq_some_iff.mp this).1
   rw [decide_eq_true (by omega)]
   exact Run.nil ⟨rfl,by omega,done,c :: r,pc,qs,places,x6,x7,x8,x9,hU,hr,rfl,C,P,hq⟩
 ·rintro n ρ H' ⟨h0,done,rest,pc,qs,places,x6,x7,x8,x9,hU,hr,rfl,C,P,hq⟩
  obtain ⟨c,r,rfl⟩ : ∃ c r,rest = c :: r := by cases rest with | nil => simp at hr; omega | cons c r => exact ⟨c,r,rfl⟩
  have hw : Sw c := hu c (by rw [hU]; simp)
  have cw : 1 ≤ c.w ∧ c.w ≤ 2 := by rcases hw with q | q <;> omega
  have sl := sgc_lenw hw
  have e' := C.ext _ _ e
  have eu : cellsOf u = cellsOf done ++ (sgc c ++ cellsOf r) := by rw [hU,cellsOf_app]; rfl
  have len : (cellsOf u).length = (cellsOf done).length + (c.w + (cellsOf r).length) := by rw [eu,List.length_append,List.length_append,sl]
  have at0 : (cellsOf u)[(cellsOf done).length]? = some c := by
   rw [eu,List.getElem?_append_right (by omega),Nat.sub_self]; unfold sgc; split <;> rfl
  have part : ((cellsOf u).map Cell.v).drop (cellsOf done).length = (sgc c ++ cellsOf r).map Cell.v := by rw [← List.map_drop,eu,List.drop_left]
  have partw : (((cellsOf u).map Cell.v).drop (cellsOf done).length).take ((cellsOf done).length + c.w - (cellsOf done).length) = (sgc c).map Cell.v := by
   rw [part,Nat.add_sub_cancel_left,← List.map_take,show c.w = (sgc c).length from sl.symm,List.take_left]
  have dl : done.length ≤ 300 := by have := congrArg List.length hU; simp at this; omega
  have cl := cut_le (cols := cols) hcols.1 done (fun y hy => hu y (by rw [hU]; simp [hy]))
  have rest : ∀ {x8 x9 : Option V},Run W 3 [I.loc 0,.loc 5,.loc 5,.loc 7,.bin .Add,.slc,.sto 8,.loc 7,.loc 1,.cmp .Gt,.chk,.ite [.lit (.bool true)] [.loc 7,.lit (.int (1)),.cmp .Eq,.chk,.ite [.loc 6,.lit (.int (1)),.idx,.lit (.int (1)),.cmp .NotEq,.chk] [.lit (.bool false)]],.ite [.lit (.raw (.ref 76)),.loc 6,.lit (.int (2)),.idx,.call 1,.lst 1,.sto 8] [],.lit (.raw (.builtin "len")),.loc 3,.call 1,.lit (.raw (.builtin "len")),.loc 8,.call 1,.bin .Add,.loc 1,.cmp .Gt,.chk,.ite [.lit (.raw (.builtin "len")),.loc 3,.call 1,.loc 1,.cmp .Lt,.chk,.ite [.loc 3,.mth 41,.lit (.raw (.ref 76)),.lit (.tup [.int (0),.int (-1),.int (-1),.int (-1),.int (0)]),.call 1,.call 2,.pop] [],.loc 2,.mth 41,.loc 3,.call 2,.pop,.lst 0,.sto 3] [],.loc 7,.fr .range 1 [.sto 9] [.loc 4,.mth 41,.lit (.raw (.builtin "len")),.loc 2,.call 1,.lit (.raw (.builtin "len")),.loc 3,.call 1,.lit (.raw (.builtin "min")),.loc 9,.lit (.raw (.builtin "len")),.loc 8,.call 1,.lit (.int (1)),.bin .Sub,.call 2,.bin .Add,.tup 2,.call 2,.pop],.loc 3,.mth 42,.loc 8,.call 2,.pop,.loc 5,.loc 7,.bin .Add,.sto 5] []
    [some (.ref ca),some (.int cols),some (.ref ps),some (.ref pc),some (.ref pl),some (.int ((cellsOf done).length : Nat)),some c.v,some (.int c.w),x8,x9] H' (fun o => match o with | .nxt [] ρ' H' => ∃ m,m < n ∧ Jn m ρ' H' | .ret v H' => False | _ => False) := by
   intro x8 x9
   walk_at "r"
   refine r_slcE (some ((cellsOf done).length : Nat)) (some (((cellsOf done).length + c.w : Nat) : Int)) rfl (by simp [optV]) e' (by simp; omega) ((ps_mid _ _ _).trans partw) fun pt H4 f4 g4 E4 => ?_
   have C4 := C.ext' E4
   have n7 := ne_new C.hpl f4
   have n8 := ne_new C.hpc f4
   have n9 := ne_new C.hps f4
   walk_at "r"
   refine r_f (decide_eq_false (by omega)) ?_
   walk_at "c"
   have tl : Run W 3 [.lit (.raw (.builtin "len")),.loc 3,.call 1,.lit (.raw (.builtin "len")),.loc 8,.call 1,.bin .Add,.loc 1,.cmp .Gt,.chk,.ite [.lit (.raw (.builtin "len")),.loc 3,.call 1,.loc 1,.cmp .Lt,.chk,.ite [.loc 3,.mth 41,.lit (.raw (.ref 76)),.lit (.tup [.int (0),.int (-1),.int (-1),.int (-1),.int (0)]),.call 1,.call 2,.pop] [],.loc 2,.mth 41,.loc 3,.call 2,.pop,.lst 0,.sto 3] [],.loc 7,.fr .range 1 [.sto 9] [.loc 4,.mth 41,.lit (.raw (.builtin "len")),.loc 2,.call 1,.lit (.raw (.builtin "len")),.loc 3,.call 1,.lit (.raw (.builtin "min")),.loc 9,.lit (.raw (.builtin "len")),.loc 8,.call 1,.lit (.int (1)),.bin .Sub,.call 2,.bin .Add,.tup 2,.call 2,.pop],.loc 3,.mth 42,.loc 8,.call 2,.pop,.loc 5,.loc 7,.bin .Add,.sto 5] []
     [some (.ref ca),some (.int cols),some (.ref ps),some (.ref pc),some (.ref pl),some (.int ((cellsOf done).length : Nat)),some c.v,some (.int c.w),some (.ref pt),x9] H4 (fun o => match o with | .nxt [] ρ' H' => ∃ m,m < n ∧ Jn m ρ' H' | .ret v H' => False | _ => False) := by
    refine cut_over (pv := none) hcols C4 hw g4 n7.symm n8.symm n9.symm ⟨by omega,cl⟩ fun H5 pc' qs' g' C5 g5 n5 eg ql gl => ?_
    refine cut_tail C5 hw g5 n7.symm n5 ⟨by omega,by rw [P.len]; omega,by omega⟩ fun H6 x9' C6 E6 => ?_
    rw [eg,← cut_snoc] at C6
    exact Run.nil ⟨n - 1,by omega,done ++ [c],r,pc',qs',_,_,_,_,_,by rw [hU]; simp,by simp at hr; omega,by rw [cellsOf_app,cellsOf_one,List.length_append,sl],C6,plok_step hcols.1 hw P eg,by simp; omega⟩
   rcases hw with w | w
   ·refine r_t (by simp [w]) ?_
    walk_at "c"
    refine r_f (by simp [w]) ?_
    exact tl
   ·refine r_f (by simp [w]) ?_
    refine Run.lit (r_f rfl ?_)
    exact tl
  walk_at "r"
  refine r_idx e' (by omega) (at_nat (map_at at0)) ?_
  walk_at "r"
  rcases hw with w | w
  ·refine r_f (by simp [w]) ?_
   refine Run.lit (r_f rfl ?_)
   rw [List.cons_append,List.nil_append]
   refine Run.lit (r_sto rfl ?_)
   simp only [List.set_cons_succ,List.set_cons_zero]
   have := rest (x8 := x8) (x9 := x9)
   rw [w] at this
   exact this
  ·refine r_t (by simp [w]) ?_
   walk_at "c"
   simp only [List.length_map]
   refine r_t (decide_eq_true (by omega)) ?_
   walk_at "c"
   have at1 : (cellsOf u)[(cellsOf done).length + 1]? = some (half c.k) := by
    rw [eu,List.getElem?_append_right (by omega),Nat.add_sub_cancel_left]; unfold sgc; rw [if_pos w]; rfl
   rw [show (((cellsOf done).length : Nat) : Int) + 1 = (((cellsOf done).length + 1 : Nat) : Int) by omega]
   refine r_idx e' (by omega) (at_nat (map_at at1)) ?_
   walk_at "r1"
   walk_at "r1"
   walk_at "r1"
   walk_at "r1"
   walk_at "r1"
   refine r_t rfl ?_
   rw [List.cons_append,List.nil_append]
   refine Run.lit (r_sto rfl ?_)
   simp only [List.set_cons_succ,List.set_cons_zero]
   have := rest (x8 := x8) (x9 := x9)
   rw [w] at this
   exact this
 ·rintro ρ H' ⟨done,rest,pc,qs,places,x6,x7,x8,x9,hU,hr,rfl,C,P,hq⟩
  have : rest = [] := List.eq_nil_of_length_eq_zero hr
  subst this
  rw [List.append_nil] at hU
  subst hU
  walk_at "r"
  refine r_mapp C.hps ?_
  walk_at "r"
  refine r_append C.hps (by simp; omega) ?_
  walk_at "r"
  refine Run.ret ⟨ps,pl,qs ++ [pc],places,rfl,C.ext.upd C.fps,by rw [setF_same]; simp,at_ne C.hpl C.n3.symm,by unfold pieces; simp [C.len],fun i q b hx hy => ?_,P,C.fps,C.fpl,fun y hy => ?_⟩
  rotate_left
  ·rcases List.mem_append.mp hy with hy | hy
   ·exact C.fqs y hy
   ·rw [List.mem_singleton.mp hy]; exact C.fpc
  unfold pieces at hy
  by_cases q2 : i < qs.length
  ·rw [List.getElem?_append_left q2] at hx
   rw [List.getElem?_append_left (by simp; rw [← C.len]; exact q2),List.getElem?_map] at hy
   cases hb : (cut cols u).1[i]? with
   | none => rw [hb] at hy; cases hy
   | some b' => rw [hb] at hy; cases hy; exact at_ne (C.hqs i q b' hx hb) (ne_mem C.n4 (List.mem_of_getElem? hx))
  ·rw [List.getElem?_append_right (by omega)] at hx
   rw [List.getElem?_append_right (by simp; rw [← C.len]; omega)] at hy
   have : i = qs.length := by have := (List.getElem?_eq_some_iff.mp hx).1; simp at this; omega
   subst this
   rw [Nat.sub_self] at hx
   rw [List.length_map,C.len,Nat.sub_self] at hy
   cases (show some pc = some q from hx)
   cases (show some (cellsOf (cut cols u).2) = some b from hy)
   exact at_ne C.hpc C.n1
end
section
variable {W : Wx} {H : Hp}
theorem sp_rline {pa cols : Nat} {b : List Cell} {w : Bool} (hcols : cols ≤ 7) (e : H pa = some (.list (b.map Cell.v))) (hb : b.length ≤ cols) : CallW W 6 (.ref 592) [.ref pa,.int cols,.bool w] H fun x H' => ∃ l : Ln,x = .ref l.a ∧ H l.a = none ∧ H l.c = none ∧ LnAt H' l ∧ l.cells = b ++ List.replicate (cols - b.length) blank ∧ l.wr = w ∧ Ext H H' := by
 refine in_592 _ _ _ ?_
 unfold cd_592
 walk_at "r"
 refine r_call2 ((sp_newLine cols 0 (by omega)).tu rfl) rfl ?_
 rintro _ H1 ⟨l,rfl,fa,fc,hl,hcs,hw,E⟩
 have e1 := E _ _ e
 have lo := hl.o
 have lc := hl.cs
 unfold lf at lo
 have n1 : pa ≠ l.c := ne_new e fc
 rw [hcs] at lc
 walk_at "r"
 let Hi : Nat → Hp := fun i => setF H1 l.c (.list ((b.take i ++ List.replicate (cols - i) blank).map Cell.v))
 refine Run.fr (l := (b.map Cell.v).zipIdx.map fun p => .tup [.int p.2,p.1]) (args := [.ref pa]) (J := fun i ρ H' => (∃ x4 x5,ρ = [some (.ref pa),some (.int cols),some (.bool w),some (.ref l.a),x4,x5]) ∧ H' = Hi i) (Z := fun _ _ => False) rfl rfl ⟨⟨none,none,rfl⟩,?_⟩ (fun i ρ H' _ hj => ?_) ?_ ?_ (fun _ _ z => z.elim)
 ·show H1 = setF H1 l.c (.list (([] ++ List.replicate (cols - 0) blank).map Cell.v))
  rw [List.nil_append,Nat.sub_zero]; exact (setF_self lc).symm
 ·obtain ⟨_,rfl⟩ := hj
  exact ⟨b.map Cell.v,at_ne e1 n1,rfl⟩
 ·rintro i x ρ H' hx ⟨⟨x4,x5,rfl⟩,rfl⟩
  rw [List.getElem?_map,List.getElem?_zipIdx,List.getElem?_map] at hx
  cases hb' : b[i]? with
  | none => rw [hb'] at hx; simp at hx
  | some c =>
   rw [hb'] at hx
   simp at hx
   subst hx
   have hi := (List.getElem?_eq_some_iff.mp hb').1
   have a1 : Hi i l.a = some (.inst 251 (lf l.c l.wr)) := at_ne hl.o (ne_kd hl.o lc rfl)
   have a2 : Hi i l.c = some (.list ((b.take i ++ List.replicate (cols - i) blank).map Cell.v)) := setF_same
   unfold lf at a1
   walk_at "c"
   refine r_sidx a2 (by omega) (by simp; omega) (by simp; omega) ?_
   refine Run.nil ⟨⟨_,_,rfl⟩,?_⟩
   show setF (setF H1 l.c _) l.c _ = setF H1 l.c _
   rw [setF_setF]
   congr 2
   rw [show ((i : Nat) : Int).toNat = i by omega]
   refine (map_set _ _ _).trans ?_
   congr 1
   have tl : (b.take i).length = i := by simp; omega
   rw [List.set_append,if_neg (by omega),tl,Nat.sub_self,List.take_add_one,hb',List.append_assoc]
   congr 1
   obtain ⟨k,hk⟩ : ∃ k,cols - i = k + 1 := ⟨cols - i - 1,by omega⟩
   rw [hk,List.replicate_succ,show cols - (i + 1) = k by omega]
   rfl
 ·rintro ρ H' ⟨⟨x4,x5,rfl⟩,rfl⟩
  have len : ((b.map Cell.v).zipIdx.map fun p => V.tup [.int p.2,p.1]).length = b.length := by simp
  rw [len]
  have a1 : Hi b.length l.a = some (.inst 251 (lf l.c l.wr)) := at_ne hl.o (ne_kd hl.o lc rfl)
  have a2 : Hi b.length l.c = some (.list ((b.take b.length ++ List.replicate (cols - b.length) blank).map Cell.v)) := setF_same
  rw [List.take_length] at a2
  have E2 : Ext H (Hi b.length) := E.upd fc
  generalize Hi b.length = H2 at *
  unfold lf at a1
  walk_at "r"
  refine r_sattr a1 rfl rfl ?_
  walk_at "r"
  exact Run.ret ⟨⟨l.a,l.c,b ++ List.replicate (cols - b.length) blank,w⟩,rfl,fa,fc,⟨setF_same,at_ne a2 (ne_kd a2 a1 rfl)⟩,rfl,rfl,E2.upd fa⟩
theorem sp_size_of {a b c f i : Nat} {w : Bool} {bl : List Nat} (e : H a = some (.inst 532 (llF f b c w))) (eb : H b = some (.list (natV bl))) (hi : i < bl.length) (hn : bl.length ≤ 900) : CallW W 1 (.ref 522) [.ref a,.int i] H fun x H' => H' = H ∧ x.isNone = true ∨ H' = H ∧ ∃ n,x = .int n := by
 refine in_522 _ _ ?_
 unfold cd_522
 unfold llF at e
 have len : (natV bl).length = bl.length := by simp [natV]
 walk_at "r"
 by_cases q : i + 1 < bl.length
 ·refine r_t (decide_eq_true (by omega)) ?_
  walk_at "c"
  rw [show (i : Int) + 1 = ((i + 1 : Nat) : Int) by omega]
  refine r_idx eb (by omega) (x := .int (bl[i + 1]'q : Nat)) (at_nat (by simp [natV,q])) ?_
  walk_at "r"
  refine r_idx eb (by omega) (x := .int (bl[i]'hi : Nat)) (at_nat (by simp [natV,hi])) ?_
  walk_at "r"
  exact Run.ret (.inr ⟨rfl,_,rfl⟩)
 ·refine r_f (decide_eq_false (by omega)) ?_
  walk_at "c"
  exact Run.ret (.inl ⟨rfl,rfl⟩)
theorem sp_size_last {a b c f : Nat} {w : Bool} {bl : List Nat} {n : Nat} (e : H a = some (.inst 532 (llF f b c w))) (eb : H b = some (.list (natV (bl ++ [n])))) (hn : bl.length ≤ 900) : CallW W 1 (.ref 522) [.ref a,.int (bl.length : Nat)] H (is .none H) := by
 refine in_522 _ _ ?_
 unfold cd_522
 unfold llF at e
 have ln : (natV (bl ++ [n])).length = bl.length + 1 := by simp [natV]
 walk_at "r"
 refine r_f (decide_eq_false (by omega)) ?_
 walk_at "c"
 exact Run.ret ⟨rfl,rfl⟩
theorem sp_offset {a b c f : Nat} {w : Bool} {bl : List Nat} {n col : Nat} (e : H a = some (.inst 532 (llF f b c w))) (eb : H b = some (.list (natV (bl ++ [n])))) (hn : bl.length ≤ 900) : CallW W 2 (.ref 529) [.ref a,.int (bl.length : Nat),.int col] H (is (.tup [.int ((n + col : Nat) : Int),.bool false]) H) := by
 refine in_529 _ _ _ ?_
 unfold cd_529
 have e' := e
 unfold llF at e'
 walk_at "r"
 refine r_call2 ((sp_size_last e eb hn).tu rfl) rfl ?_
 refine is_elim ?_
 walk_at "r"
 refine r_idx eb (by omega) (x := .int (n : Nat)) (at_nat (by simp [natV])) ?_
 walk_at "r"
 refine Run.ret ⟨?_,rfl⟩
 rw [show ((n + col : Nat) : Int) = (n : Int) + (col : Int) by omega]
theorem sp_kept {a b c f : Nat} {w : Bool} {cs : List Cell} {m : Nat} (e : H a = some (.inst 532 (llF f b c w))) (ec : H c = some (.list (cs.map Cell.v))) (hm : m ≤ cs.length ∨ m = cs.length + 1) (hn : cs.length ≤ 9000) :
  CallW W 3 (.ref 515) [.ref a,.int m] H (is .none (setF H c (.list ((if m ≤ cs.length then cs else cs ++ [blank]).map Cell.v)))) := by
 refine in_515 _ _ ?_
 unfold cd_515
 let cs' : Nat → List Cell := fun n => if n = 0 then (if m ≤ cs.length then cs else cs ++ [blank]) else cs
 let Hn : Nat → Hp := fun n => setF H c (.list ((cs' n).map Cell.v))
 have hk : ∀ n,Hn n a = some (.inst 532 (llF f b c w)) := fun n => at_ne e (ne_kd e ec rfl)
 have hc : ∀ n,Hn n c = some (.list ((cs' n).map Cell.v)) := fun n => setF_same
 refine Run.whl (J := fun n ρ H' => ρ = [some (.ref a),some (.int m)] ∧ H' = Hn n ∧ (n = 0 ∨ m = cs.length + 1)) (B := fun n ρ H' => ρ = [some (.ref a),some (.int m)] ∧ H' = Hn n ∧ 0 < n ∧ m = cs.length + 1) (N := fun ρ H' => H' = Hn 0) (Z := fun _ _ => False) (if m ≤ cs.length then 0 else 1) ⟨rfl,?_,?_⟩ ?_ ?_ ?_ (fun _ _ z => z.elim)
 ·show H = setF H c _
  have : cs' (if m ≤ cs.length then 0 else 1) = cs := by
   by_cases q : m ≤ cs.length
   ·simp [cs',q]
   ·simp [cs',q]
  rw [this]; exact (setF_self ec).symm
 ·split
  ·exact .inl rfl
  ·exact .inr (by omega)
 ·rintro n ρ H' ⟨rfl,rfl,hn'⟩
  have h1 := hk n
  have h2 := hc n
  unfold llF at h1
  have len : (cs' n).length ≤ 9001 := by
   simp only [cs']
   split
   ·split
    ·omega
    ·rw [List.length_append]; show cs.length + 1 ≤ 9001; omega
   ·omega
  walk_at "r"
  simp only [List.length_map]
  by_cases q : n = 0
  ·subst q
   have : m ≤ (cs' 0).length := by
    simp only [cs',if_true]; split
    ·assumption
    ·simp; omega
   rw [decide_eq_false (by omega)]
   exact Run.nil ⟨rfl,rfl⟩
  ·have e1 : cs' n = cs := by simp only [cs',if_neg q]
   rw [e1,decide_eq_true (by omega)]
   exact Run.nil ⟨rfl,rfl,rfl,by omega,hn'.resolve_left q⟩
 ·rintro n ρ H' ⟨rfl,rfl,h0,hm'⟩
  have h1 := hk n
  have h2 := hc n
  have e1 : cs' n = cs := by simp only [cs',if_neg (show n ≠ 0 by omega)]
  rw [e1] at h2
  unfold llF at h1
  walk_at "r"
  refine r_mapp h2 ?_
  walk_at "r"
  refine r_call1 ((sp_blank 0).tu rfl) rfl ?_
  refine is_elim ?_
  refine r_append h2 (by simp; omega) ?_
  walk_at "r"
  refine Run.nil ⟨0,by omega,rfl,?_,.inl rfl⟩
  show setF (setF H c _) c _ = setF H c _
  rw [setF_setF]
  congr 2
  simp only [cs',if_true,if_neg (show ¬ m ≤ cs.length by omega),List.map_append]
  rfl
 ·rintro ρ H' rfl
  refine Run.nil ⟨rfl,?_⟩
  show setF H c _ = _
  simp only [cs',if_true]
theorem sp_rplace {ps pl q : Nat} {qs : List Nat} {places : List (Nat × Nat)} {off : Nat} {b : List V} (e : H ps = some (.list (qs.map V.ref))) (e2 : H pl = some (.list (plV places))) (hq : qs[qs.length - 1]? = some q) (e3 : H q = some (.list b)) (hn : qs.length ≤ 900 ∧ off ≤ 900 ∧ b.length ≤ 900 ∧ places.length ≤ 9000) :
  CallW W 1 (.ref 585) [.ref ps,.ref pl,.int off] H (is (match places[off]? with | some p => .tup [.int (p.1 : Nat),.int (p.2 : Nat)] | none => .tup [.int ((qs.length - 1 : Nat) : Int),.int (b.length : Nat)]) H) := by
 refine in_585 _ _ _ ?_
 unfold cd_585
 have len : (plV places).length = places.length := by simp [plV]
 have hlt := (List.getElem?_eq_some_iff.mp hq).1
 walk_at "r"
 cases h : places[off]? with
 | some p =>
  have := (List.getElem?_eq_some_iff.mp h).1
  refine r_t (decide_eq_true (by omega)) ?_
  walk_at "c"
  refine r_idx e2 (by omega) (x := .tup [.int (p.1 : Nat),.int (p.2 : Nat)]) (at_nat (by unfold plV; rw [List.getElem?_map,h]; rfl)) ?_
  exact Run.ret ⟨rfl,rfl⟩
 | none =>
  have := List.getElem?_eq_none_iff.mp h
  refine r_f (decide_eq_false (by omega)) ?_
  walk_at "c"
  refine r_idx e (by decide) (x := .ref q) (by
   unfold at?
   rw [if_pos (by omega),if_pos (by simp; omega),show ((-1 : Int) + ((qs.map V.ref).length : Nat)).toNat = qs.length - 1 by simp; omega,List.getElem?_map,hq]; rfl) ?_
  walk_at "r"
  refine Run.ret ⟨?_,rfl⟩
  rw [List.length_map,show ((qs.length - 1 : Nat) : Int) = (qs.length : Int) - 1 by omega]
end
def ctF (cols li first row col : Nat) (wait : Bool) (sp : Nat) : List (Nat × V) := [(4,.int cols),(5,.ref li),(8,.int first),(11,.int row),(12,.int col),(13,.bool wait),(14,.ref sp)]
structure NewP (cols n : Nat) (H H' : Hp) (li : Nat) (P : List (List Cell)) (new : List Ln) : Prop where
 at_ : ∀ l ∈ new,LnAt H' l
 fr : ∀ l ∈ new,H l.a = none ∧ H l.c = none
 nda : (new.map (·.a)).Nodup
 ndc : (new.map (·.c)).Nodup
 cs : ∀ (j : Nat) (l : Ln) (b : List Cell),new[j]? = some l → P[j]? = some b → l.cells = b ++ List.replicate (cols - b.length) blank ∧ l.wr = decide (j + 1 < n)
section
variable {W : Wx} {H : Hp}
theorem put_spots {ct li sp a b c f cols fi ro co : Nat} {wa : Bool} {bl : List Nat} {spl : List V} {x2 x3 x4 x6 x7 x8 x9 x12 x13 x14 x15 x16 x17 x18 : Option V} {begun ps pl : Nat} {k : List I} {Q : Out → Prop} (o : H ct = some (.inst 644 (ctF cols li fi ro co wa sp))) (os : H sp = some (.list spl)) (ol : H a = some (.inst 532 (llF f b c true))) (ob : H b = some (.list (natV bl))) (nb : b ≠ sp) (hb : bl.length ≤ 900 ∧ spl.length + bl.length ≤ 5000)
  (fin : ∀ spl' x13 x14,spl'.length ≤ spl.length + bl.length → Run W 6 k [] [some (.ref ct),some (.ref a),x2,x3,x4,some (.int begun),x6,x7,x8,x9,some (.ref ps),some (.ref pl),x12,x13,x14,x15,x16,x17,x18] (setF H sp (.list spl')) Q) :
  Run W 6 (.loc 1 :: .attr 9 :: .fr .enum 1 [.unp 2,.sto 13,.sto 14] [.loc 0,.attr 14,.mth 41,.loc 5,.loc 14,.loc 1,.mth 10,.loc 13,.call 2,.loc 10,.loc 11,.tup 5,.call 2,.pop] :: k) []
   [some (.ref ct),some (.ref a),x2,x3,x4,some (.int begun),x6,x7,x8,x9,some (.ref ps),some (.ref pl),x12,x13,x14,x15,x16,x17,x18] H Q := by
 have ol' := ol
 unfold llF at ol'
 walk_at "r1"
 walk_at "r1"
 have len : ((natV bl).zipIdx.map fun p => V.tup [.int p.2,p.1]).length = bl.length := by simp [natV]
 refine Run.fr (l := (natV bl).zipIdx.map fun p => .tup [.int p.2,p.1]) (args := [.ref b]) (J := fun i ρ H' => ∃ x13 x14 spl',spl'.length = spl.length + i ∧ ρ = [some (.ref ct),some (.ref a),x2,x3,x4,some (.int begun),x6,x7,x8,x9,some (.ref ps),some (.ref pl),x12,x13,x14,x15,x16,x17,x18] ∧ H' = setF H sp (.list spl')) (Z := fun _ _ => False) rfl rfl ⟨x13,x14,spl,rfl,rfl,(setF_self os).symm⟩ (fun i ρ H' _ hj => ?_) ?_ ?_ (fun _ _ z => z.elim)
 ·obtain ⟨_,_,spl',_,_,rfl⟩ := hj
  exact ⟨natV bl,at_ne ob nb,rfl⟩
 ·rintro i x ρ H' hx ⟨y13,y14,spl',hl,rfl,rfl⟩
  have hi : i < bl.length := by have := (List.getElem?_eq_some_iff.mp hx).1; omega
  rw [List.getElem?_map,List.getElem?_zipIdx] at hx
  have : (natV bl)[i]? = some (.int (bl[i]'hi : Nat)) := by simp [natV,hi]
  rw [this] at hx
  simp at hx
  subst hx
  have o1 := at_ne o (ne_kd o os rfl) (m' := .list spl')
  have l1 := at_ne ol (ne_kd ol os rfl) (m' := .list spl')
  have b1 := at_ne ob nb (m' := .list spl')
  have s1 : setF H sp (.list spl') sp = some (.list spl') := setF_same
  have o1' := o1
  have l1' := l1
  unfold ctF at o1'
  unfold llF at l1'
  walk_at "c"
  refine r_mapp s1 ?_
  walk_at "r"
  refine r_call2 ((sp_size_of l1 b1 hi hb.1).tu rfl) rfl fun x H2 hx2 => ?_
  have hH2 : H2 = setF H sp (.list spl') := by rcases hx2 with h | h <;> exact h.1
  subst hH2
  walk_at "r"
  refine r_append s1 (by omega) ?_
  walk_at "r"
  exact Run.nil ⟨_,_,_,by rw [List.length_append,hl]; rfl,rfl,setF_setF⟩
 ·rintro ρ H' ⟨y13,y14,spl',hl,rfl,rfl⟩
  rw [len] at hl
  exact fin spl' y13 y14 (by omega)
theorem put_lines {ct li sp a b c f cols fi ro co : Nat} {wa : Bool} {L : List Ln} {qs : List Nat} {P : List (List Cell)} {x2 x3 x4 x6 x7 x8 x9 x11 x12 x13 x14 x15 x16 x17 x18 : Option V} {begun ps : Nat} {k : List I} {Q : Out → Prop} (hcols : 2 ≤ cols ∧ cols ≤ 7) (o : H ct = some (.inst 644 (ctF cols li fi ro co wa sp))) (hli : H li = some (.list (refs L))) (ol : H a = some (.inst 532 (llF f b c true)))
  (hps : H ps = some (.list (qs.map V.ref))) (lq : qs.length = P.length) (hqs : ∀ (i : Nat) (q : Nat) (b : List Cell),qs[i]? = some q → P[i]? = some b → H q = some (.list (b.map Cell.v))) (n1 : ps ≠ li) (n2 : li ∉ qs) (hP : ∀ b ∈ P,b.length ≤ cols) (hb : L.length + P.length ≤ 900)
  (fin : ∀ H' new x15 x16 x17,H' li = some (.list (refs (L ++ new))) → new.length = P.length → NewP cols P.length H H' li P new → (∀ y m,H y = some m → y ≠ li → H' y = some m) → Run W 6 k [] [some (.ref ct),some (.ref a),x2,x3,x4,some (.int begun),x6,x7,x8,x9,some (.ref ps),x11,x12,x13,x14,x15,x16,x17,x18] H' Q) :
  Run W 6 (.loc 10 :: .fr .enum 1 [.unp 2,.sto 15,.sto 16] [.loc 15,.lit (.int (1)),.bin .Add,.lit (.raw (.builtin "len")),.loc 10,.call 1,.cmp .Lt,.chk,.ite [.lit (.bool true)] [.loc 1,.attr 10,.chk,.notb],.sto 17,.loc 0,.attr 5,.mth 41,.lit (.raw (.ref 592)),.loc 16,.loc 0,.attr 4,.loc 17,.call 3,.call 2,.pop] :: k) []
   [some (.ref ct),some (.ref a),x2,x3,x4,some (.int begun),x6,x7,x8,x9,some (.ref ps),x11,x12,x13,x14,x15,x16,x17,x18] H Q := by
 refine Run.loc rfl ?_
 have len : ((qs.map V.ref).zipIdx.map fun p => V.tup [.int p.2,p.1]).length = P.length := by simp [lq]
 let Jn : Nat → Ro → Hp → Prop := fun i ρ H' => ∃ new x15 x16 x17,new.length = i ∧ ρ = [some (.ref ct),some (.ref a),x2,x3,x4,some (.int begun),x6,x7,x8,x9,some (.ref ps),x11,x12,x13,x14,x15,x16,x17,x18] ∧ H' li = some (.list (refs (L ++ new))) ∧ NewP cols P.length H H' li P new ∧ ∀ y m,H y = some m → y ≠ li → H' y = some m
 refine Run.fr (l := (qs.map V.ref).zipIdx.map fun p => .tup [.int p.2,p.1]) (args := [.ref ps]) (J := Jn) (Z := fun _ _ => False) rfl rfl ⟨[],x15,x16,x17,rfl,rfl,by rw [List.append_nil]; exact hli,⟨by simp,by simp,by simp,by simp,by simp⟩,fun _ _ h _ => h⟩ (fun i ρ H' _ hj => ?_) ?_ ?_ (fun _ _ z => z.elim)
 ·obtain ⟨_,_,_,_,_,_,_,_,kp⟩ := hj
  exact ⟨qs.map V.ref,kp _ _ hps n1,rfl⟩
 ·rintro i x ρ H1 hx ⟨new,y15,y16,y17,hl,rfl,li1,N,kp⟩
  have hi : i < P.length := by have := (List.getElem?_eq_some_iff.mp hx).1; omega
  have hi' : i < qs.length := by omega
  rw [List.getElem?_map,List.getElem?_zipIdx] at hx
  have : (qs.map V.ref)[i]? = some (.ref (qs[i]'hi')) := by simp [hi']
  rw [this] at hx
  simp at hx
  subst hx
  obtain ⟨q,hq⟩ : ∃ q,qs[i]? = some q := ⟨_,List.getElem?_eq_getElem hi'⟩
  obtain ⟨p,hp⟩ : ∃ p,P[i]? = some p := ⟨_,List.getElem?_eq_getElem hi⟩
  have eq : qs[i]'hi' = q := by rw [List.getElem?_eq_getElem hi'] at hq; exact Option.some.inj hq
  rw [eq]
  have plen := hP p (List.mem_of_getElem? hp)
  have qm : q ≠ li := ne_mem n2 (List.mem_of_getElem? hq)
  have o1 := kp _ _ o (ne_kd o hli rfl)
  have l1 := kp _ _ ol (ne_kd ol hli rfl)
  have p1 := kp _ _ hps n1
  have q1 := kp _ _ (hqs i q p hq hp) qm
  have o1' := o1
  have l1' := l1
  unfold ctF at o1'
  unfold llF at l1'
  have rest : ∀ {w : Bool} {z17 : Option V},w = decide (i + 1 < P.length) → Run W 6 [I.sto 17,.loc 0,.attr 5,.mth 41,.lit (.raw (.ref 592)),.loc 16,.loc 0,.attr 4,.loc 17,.call 3,.call 2,.pop] [.bool w]
    [some (.ref ct),some (.ref a),x2,x3,x4,some (.int begun),x6,x7,x8,x9,some (.ref ps),x11,x12,x13,x14,some (.int i),some (.ref q),z17,x18] H1 (fun o => match o with | .nxt [] ρ' H' => Jn (i + 1) ρ' H' | .ret v H' => False | _ => False) := by
   intro w z17 hw
   walk_at "r"
   refine r_mapp li1 ?_
   walk_at "r"
   refine r_call3 ((sp_rline hcols.2 q1 plen).tu rfl) rfl ?_
   rintro _ H2 ⟨l,rfl,fa,fc,hl2,hcs,hwr,E⟩
   have li2 := E _ _ li1
   refine r_append li2 (by simp [refs]; omega) ?_
   walk_at "r"
   have back1 : ∀ y,H1 y = none → H y = none := fun y z => by
    cases h : H y with
    | none => rfl
    | some m =>
     by_cases q : y = li
     ·rw [q,li1] at z; cases z
     ·rw [kp _ _ h q] at z; cases z
   refine Run.nil ⟨new ++ [l],_,_,_,by rw [List.length_append,hl]; rfl,rfl,by rw [setF_same]; simp [refs],⟨fun y hy => ?_,fun y hy => ?_,?_,?_,fun j y b' hy hb' => ?_⟩,fun y m hm ny => at_ne (E _ _ (kp _ _ hm ny)) ny⟩
   ·rcases List.mem_append.mp hy with hy | hy
    ·have z := (N.at_ y hy).ext E
     have : y.c ≠ li := fun q => by
      have := (N.at_ y hy).cs
      have f := (N.fr y hy).2
      rw [q,hli] at f; cases f
     exact ⟨at_ne z.o (ne_kd z.o li2 rfl),at_ne z.cs this⟩
    ·rw [List.mem_singleton.mp hy]
     exact ⟨at_ne hl2.o (ne_kd hl2.o li2 rfl),at_ne hl2.cs (ne_new li1 fc).symm⟩
   ·rcases List.mem_append.mp hy with hy | hy
    ·exact N.fr y hy
    ·rw [List.mem_singleton.mp hy]; exact ⟨back1 _ fa,back1 _ fc⟩
   ·rw [List.map_append,List.nodup_append]
    refine ⟨N.nda,by simp,fun y hy z hz => ?_⟩
    obtain ⟨w',hw',rfl⟩ := List.mem_map.mp hy
    simp only [List.map_cons,List.map_nil,List.mem_singleton] at hz
    rw [hz]; exact ne_new (N.at_ w' hw').o fa
   ·rw [List.map_append,List.nodup_append]
    refine ⟨N.ndc,by simp,fun y hy z hz => ?_⟩
    obtain ⟨w',hw',rfl⟩ := List.mem_map.mp hy
    simp only [List.map_cons,List.map_nil,List.mem_singleton] at hz
    rw [hz]; exact ne_new (N.at_ w' hw').cs fc
   ·by_cases q2 : j < new.length
    ·rw [List.getElem?_append_left q2] at hy
     exact N.cs j y b' hy hb'
    ·rw [List.getElem?_append_right (by omega)] at hy
     have : j = new.length := by have := (List.getElem?_eq_some_iff.mp hy).1; simp at this; omega
     subst this
     rw [Nat.sub_self] at hy
     have hy' : some l = some y := hy
     rw [hl,hp] at hb'
     rw [← Option.some.inj hy',← Option.some.inj hb',hl]
     exact ⟨hcs,hwr.trans hw⟩
  walk_at "c"
  by_cases q2 : i + 1 < P.length
  ·refine r_t (decide_eq_true (by simp [lq]; omega)) ?_
   refine Run.lit ?_
   exact rest (decide_eq_true q2).symm
  ·refine r_f (decide_eq_false (by simp [lq]; omega)) ?_
   rw [List.cons_append]
   walk_at "r1"
   rw [List.cons_append]
   walk_at "r1"
   rw [List.cons_append]
   walk_at "r1"
   rw [List.cons_append]
   walk_at "r1"
   exact rest (w := !true) (decide_eq_false q2).symm
 ·rintro ρ H1 ⟨new,y15,y16,y17,hl,rfl,li1,N,kp⟩
  rw [len] at hl
  exact fin H1 new y15 y16 y17 li1 hl N kp
end
theorem NewP.keeps {cols n : Nat} {H H1 H2 : Hp} {li : Nat} {P : List (List Cell)} {new : List Ln} (h : NewP cols n H H1 li P new) (k : ∀ l ∈ new,LnAt H1 l → LnAt H2 l) : NewP cols n H H2 li P new :=
 ⟨fun l hl => k l hl (h.at_ l hl),h.fr,h.nda,h.ndc,h.cs⟩
def curFin (cols : Nat) (bh cw : Bool) (c : Nat) (w : Bool) : Nat × Bool := if bh then (c,true) else if cw then (if c + 1 < cols then (c + 1,w) else (c,true)) else (c,w)
structure PutR (cols : Nat) (H H' : Hp) (ct li sp : Nat) (L : List Ln) (P : List (List Cell)) (new : List Ln) (fi ro co : Nat) (wa : Bool) (spn : Nat) : Prop where
 o : H' ct = some (.inst 644 (ctF cols li fi ro co wa sp))
 hli : H' li = some (.list (refs (L ++ new)))
 hsp : ∃ spl,H' sp = some (.list spl) ∧ spl.length ≤ spn
 len : new.length = P.length
 N : NewP cols P.length H H' li P new
 kp : ∀ y m,H y = some m → y ≠ ct → y ≠ li → y ≠ sp → H' y = some m
section
variable {W : Wx} {H : Hp}
theorem sp_go_behind {ct li sp cols fi ro co : Nat} {wa : Bool} (o : H ct = some (.inst 644 (ctF cols li fi ro co wa sp))) : CallW W 1 (.ref 620) [.ref ct] H (is .none (setF H ct (.inst 644 (ctF cols li fi ro (curFin cols false true co wa).1 (curFin cols false true co wa).2 sp)))) := by
 refine in_620 _ ?_
 unfold cd_620
 have o' := o
 unfold ctF at o'
 walk_at "r"
 unfold curFin
 by_cases q : co + 1 < cols
 ·refine r_t (decide_eq_true (by omega)) ?_
  walk_at "c"
  rw [show (co : Int) + 1 = ((co + 1 : Nat) : Int) by omega]
  refine r_sattr o' rfl rfl ?_
  refine Run.nil ⟨rfl,?_⟩
  simp only [if_pos q,Bool.false_eq_true,if_false,if_true]; rfl
 ·refine r_f (decide_eq_false (by omega)) ?_
  walk_at "c"
  refine r_sattr o' rfl rfl ?_
  refine Run.nil ⟨rfl,?_⟩
  simp only [if_neg q,Bool.false_eq_true,if_false,if_true]; rfl
def plc (places : List (Nat × Nat)) (n m off : Nat) : Nat × Nat := match places[off]? with | some p => p | none => (n - 1,m)
structure PsAt (H : Hp) (ps pl : Nat) (qs : List Nat) (P : List (List Cell)) (places : List (Nat × Nat)) : Prop where
 hps : H ps = some (.list (qs.map V.ref))
 hpl : H pl = some (.list (plV places))
 len : qs.length = P.length
 hqs : ∀ (i : Nat) (q : Nat) (b : List Cell),qs[i]? = some q → P[i]? = some b → H q = some (.list (b.map Cell.v))
theorem PsAt.keeps {H H' : Hp} {ps pl : Nat} {qs : List Nat} {P : List (List Cell)} {places : List (Nat × Nat)} (h : PsAt H ps pl qs P places) (k : ∀ y m,H y = some m → (y = ps ∨ y = pl ∨ y ∈ qs) → H' y = some m) : PsAt H' ps pl qs P places :=
 ⟨k _ _ h.hps (.inl rfl),k _ _ h.hpl (.inr (.inl rfl)),h.len,fun i q b x y => k _ _ (h.hqs i q b x y) (.inr (.inr (List.mem_of_getElem? x)))⟩
theorem sp_rplace' {ps pl off : Nat} {qs : List Nat} {P : List (List Cell)} {places : List (Nat × Nat)} {b : List Cell} (A : PsAt H ps pl qs P places) (hb : P[P.length - 1]? = some b) (hn : P.length ≤ 900 ∧ off ≤ 900 ∧ b.length ≤ 900 ∧ places.length ≤ 9000) :
  CallW W 1 (.ref 585) [.ref ps,.ref pl,.int off] H (is (.tup [.int ((plc places P.length b.length off).1 : Nat),.int ((plc places P.length b.length off).2 : Nat)]) H) := by
 have lt := (List.getElem?_eq_some_iff.mp hb).1
 obtain ⟨q,hq⟩ : ∃ q,qs[qs.length - 1]? = some q := ⟨_,List.getElem?_eq_getElem (by rw [A.len]; omega)⟩
 have := sp_rplace (W := W) (off := off) A.hps A.hpl hq (A.hqs _ _ _ hq (by rw [A.len]; exact hb)) ⟨by rw [A.len]; omega,hn.2.1,by simp; omega,hn.2.2.2⟩
 rw [A.len,List.length_map] at this
 unfold plc
 cases h : places[off]? with
 | some p => rw [h] at this; exact this
 | none => rw [h] at this; exact this
theorem put_tail {ct li sp a b c f cols fi ro co : Nat} {wa : Bool} {bl : List Nat} {spl : List V} {L : List Ln} {qs : List Nat} {P : List (List Cell)} {places : List (Nat × Nat)} {x2 x13 x14 x15 x16 x17 x18 : Option V} {ps pl fst lst off crow ccol : Nat} {hv bh cw : Bool} {lb : List Cell} (hcols : 2 ≤ cols ∧ cols ≤ 7)
  (o : H ct = some (.inst 644 (ctF cols li fi ro co wa sp))) (hli : H li = some (.list (refs L))) (os : H sp = some (.list spl)) (ol : H a = some (.inst 532 (llF f b c true))) (ob : H b = some (.list (natV bl))) (A : PsAt H ps pl qs P places)
  (n1 : ps ≠ li) (n2 : li ∉ qs) (n3 : ps ≠ sp) (n4 : pl ≠ sp) (n5 : sp ∉ qs) (n6 : b ≠ sp) (n7 : b ≠ li) (n8 : li ≠ sp) (n9 : pl ≠ li) (hP : ∀ b ∈ P,b.length ≤ cols) (hlb : P[P.length - 1]? = some lb) (hb : bl.length ≤ 500 ∧ spl.length + bl.length ≤ 5000 ∧ L.length + P.length ≤ 900 ∧ places.length ≤ 9000 ∧ off ≤ 900) (hbl : ∀ n ∈ bl,n ≤ 900)
  (hlst : f ≤ fst → fst ≤ lst → fst - f < bl.length) {Q : Out → Prop}
  (done : ∀ H' new fi' ro' co' wa' ρ',PutR cols H H' ct li sp L P new fi' ro' co' wa' (spl.length + bl.length) →
    (f ≤ fst ∧ fst ≤ lst → ∃ n,bl[fst - f]? = some n ∧ fi' = L.length + (plc places P.length lb.length n).1) → (¬ (f ≤ fst ∧ fst ≤ lst) → fi' = fi) →
    (hv = true → ro' = L.length + (plc places P.length lb.length off).1 ∧ (co',wa') = curFin cols bh cw (min (plc places P.length lb.length off).2 (cols - 1)) wa) → (hv = false → ro' = ro ∧ co' = co ∧ wa' = wa) → Q (.nxt [] ρ' H')) :
  Run W 6 (.loc 1 :: .attr 9 :: .fr .enum 1 [.unp 2,.sto 13,.sto 14] [.loc 0,.attr 14,.mth 41,.loc 5,.loc 14,.loc 1,.mth 10,.loc 13,.call 2,.loc 10,.loc 11,.tup 5,.call 2,.pop] :: .loc 10 :: .fr .enum 1 [.unp 2,.sto 15,.sto 16] [.loc 15,.lit (.int (1)),.bin .Add,.lit (.raw (.builtin "len")),.loc 10,.call 1,.cmp .Lt,.chk,.ite [.lit (.bool true)] [.loc 1,.attr 10,.chk,.notb],.sto 17,.loc 0,.attr 5,.mth 41,.lit (.raw (.ref 592)),.loc 16,.loc 0,.attr 4,.loc 17,.call 3,.call 2,.pop] ::
   [.loc 1,.attr 8,.loc 3,.cmpk .LtE,.ite [.loc 6,.cmp .LtE] [.pop,.lit (.bool false)],.chk,.ite [.lit (.raw (.ref 585)),.loc 10,.loc 11,.loc 1,.attr 9,.loc 3,.loc 1,.attr 8,.bin .Sub,.idx,.call 3,.sto 18,.loc 5,.loc 18,.lit (.int (0)),.idx,.bin .Add,.loc 0,.sattr 8] [],.loc 7,.chk,.ite [.lit (.raw (.ref 585)),.loc 10,.loc 11,.loc 8,.call 3,.sto 18,.loc 5,.loc 18,.lit (.int (0)),.idx,.bin .Add,.lit (.raw (.builtin "min")),.loc 18,.lit (.int (1)),.idx,.loc 0,.attr 4,.lit (.int (1)),.bin .Sub,.call 2,.tup 2,.unp 2,.loc 0,.sattr 11,.loc 0,.sattr 12,.loc 12,.chk,.ite [.lit (.bool true),.loc 0,.sattr 13] [.loc 9,.chk,.ite [.lit (.raw (.builtin "min")),.loc 0,.attr 12,.lit (.int (1)),.bin .Add,.loc 0,.attr 4,.lit (.int (1)),.bin .Sub,.call 2,.loc 0,.sattr 12] [.loc 4,.lit (.int (2)),.idx,.chk,.ite [.loc 0,.mth 12,.call 1,.pop] []]]] []]) []
   [some (.ref ct),some (.ref a),x2,some (.int fst),some (.tup [.int crow,.int ccol,.bool cw]),some (.int L.length),some (.int lst),some (.bool hv),some (.int off),some (.bool false),some (.ref ps),some (.ref pl),some (.bool bh),x13,x14,x15,x16,x17,x18] H
   Q := by
 have lbl := hP lb (List.mem_of_getElem? hlb)
 refine put_spots o os ol ob n6 ⟨by omega,hb.2.1⟩ fun spl1 y13 y14 hs1 => ?_
 have o1 := at_ne o (ne_kd o os rfl) (m' := .list spl1)
 have li1 := at_ne hli n8 (m' := .list spl1)
 have ol1 := at_ne ol (ne_kd ol os rfl) (m' := .list spl1)
 have ob1 := at_ne ob n6 (m' := .list spl1)
 have sp1 : setF H sp (.list spl1) sp = some (.list spl1) := setF_same
 have A1 : PsAt (setF H sp (.list spl1)) ps pl qs P places := A.keeps fun y m z q => at_ne z (by
  rcases q with rfl | rfl | q
  ·exact n3
  ·exact n4
  ·exact ne_mem n5 q)
 have kp1 : ∀ y m,H y = some m → y ≠ sp → setF H sp (.list spl1) y = some m := fun y m z q => at_ne z q
 have bk1 : ∀ y,setF H sp (.list spl1) y = none → H y = none := fun y z => by
  unfold setF at z; split at z; · cases z
  ·exact z
 generalize setF H sp (.list spl1) = H1 at *
 refine put_lines hcols o1 li1 ol1 A1.hps A1.len A1.hqs n1 n2 hP hb.2.2.1 fun H2 new y15 y16 y17 li2 nl N kp2 => ?_
 have o2 := kp2 _ _ o1 (ne_kd o1 li1 rfl)
 have ol2 := kp2 _ _ ol1 (ne_kd ol1 li1 rfl)
 have ob2 := kp2 _ _ ob1 n7
 have sp2 := kp2 _ _ sp1 n8.symm
 have A2 : PsAt H2 ps pl qs P places := A1.keeps fun y m z q => kp2 _ _ z (by
  rcases q with rfl | rfl | q
  ·exact n1
  ·exact n9
  ·exact ne_mem n2 q)
 have N2 : NewP cols P.length H H2 li P new := ⟨N.at_,fun l hl => ⟨bk1 _ (N.fr l hl).1,bk1 _ (N.fr l hl).2⟩,N.nda,N.ndc,N.cs⟩
 have kp : ∀ y m,H y = some m → y ≠ ct → y ≠ li → y ≠ sp → H2 y = some m := fun y m z _ q1 q2 => kp2 _ _ (kp1 _ _ z q2) q1
 have base : ∀ {H3 : Hp} {fi' ro' co' : Nat} {wa' : Bool},H3 = setF H2 ct (.inst 644 (ctF cols li fi' ro' co' wa' sp)) → PutR cols H H3 ct li sp L P new fi' ro' co' wa' (spl.length + bl.length) := by
  intro H3 fi' ro' co' wa' e
  subst e
  have nn : ∀ {y m},H2 y = some m → (m.kd == 647) = false → setF H2 ct (.inst 644 (ctF cols li fi' ro' co' wa' sp)) y = some m := fun x y => at_ne x (ne_kd x o2 y)
  exact ⟨setF_same,nn li2 rfl,⟨spl1,nn sp2 rfl,by omega⟩,nl,N2.keeps fun l _ z => ⟨nn z.o rfl,nn z.cs rfl⟩,fun y m z q q1 q2 => at_ne (kp y m z q q1 q2) q⟩
 have cur : ∀ {H3 : Hp} {fi' : Nat} {z18 : Option V},H3 = setF H2 ct (.inst 644 (ctF cols li fi' ro co wa sp)) → (f ≤ fst ∧ fst ≤ lst → ∃ n,bl[fst - f]? = some n ∧ fi' = L.length + (plc places P.length lb.length n).1) → (¬ (f ≤ fst ∧ fst ≤ lst) → fi' = fi) →
   Run W 6 [.loc 7,.chk,.ite [.lit (.raw (.ref 585)),.loc 10,.loc 11,.loc 8,.call 3,.sto 18,.loc 5,.loc 18,.lit (.int (0)),.idx,.bin .Add,.lit (.raw (.builtin "min")),.loc 18,.lit (.int (1)),.idx,.loc 0,.attr 4,.lit (.int (1)),.bin .Sub,.call 2,.tup 2,.unp 2,.loc 0,.sattr 11,.loc 0,.sattr 12,.loc 12,.chk,.ite [.lit (.bool true),.loc 0,.sattr 13] [.loc 9,.chk,.ite [.lit (.raw (.builtin "min")),.loc 0,.attr 12,.lit (.int (1)),.bin .Add,.loc 0,.attr 4,.lit (.int (1)),.bin .Sub,.call 2,.loc 0,.sattr 12] [.loc 4,.lit (.int (2)),.idx,.chk,.ite [.loc 0,.mth 12,.call 1,.pop] []]]] []] []
    [some (.ref ct),some (.ref a),x2,some (.int fst),some (.tup [.int crow,.int ccol,.bool cw]),some (.int L.length),some (.int lst),some (.bool hv),some (.int off),some (.bool false),some (.ref ps),some (.ref pl),some (.bool bh),y13,y14,y15,y16,y17,z18] H3
    Q := by
  intro H3 fi' z18 e3 hf1 hf2
  cases hv with
  | false =>
   walk_at "r"
   exact Run.nil (done _ new fi' (ro) (co) (wa) _ (base e3) hf1 hf2 (fun z => Bool.noConfusion z) (fun _ => ⟨rfl,rfl,rfl⟩))
  | true =>
   have o3 : H3 ct = some (.inst 644 (ctF cols li fi' ro co wa sp)) := by rw [e3]; exact setF_same
   have A3 : PsAt H3 ps pl qs P places := by
    rw [e3]
    exact ⟨at_ne A2.hps (ne_kd A2.hps o2 rfl),at_ne A2.hpl (ne_kd A2.hpl o2 rfl),A2.len,fun i q b x y => at_ne (A2.hqs i q b x y) (ne_kd (A2.hqs i q b x y) o2 rfl)⟩
   have o3' := o3
   unfold ctF at o3'
   walk_at "r"
   refine r_call3 ((sp_rplace' A3 hlb ⟨by omega,hb.2.2.2.2,by omega,hb.2.2.2.1⟩).tu rfl) rfl ?_
   refine is_elim ?_
   generalize hpp : plc places P.length lb.length off = pp at *
   walk_at "r"
   rw [show (L.length : Int) + (pp.1 : Int) = ((L.length + pp.1 : Nat) : Int) by omega,show min (pp.2 : Int) ((cols : Int) - 1) = ((min pp.2 (cols - 1) : Nat) : Int) by omega]
   refine r_sattr o3' rfl rfl ?_
   walk_at "r"
   refine r_sattr setF_same rfl rfl ?_
   rw [setF_setF]
   have e4 : setF H3 ct (.inst 644 (putF 12 (.int (min pp.2 (cols - 1) : Nat)) (putF 11 (.int ((L.length + pp.1 : Nat) : Int)) [(4,V.int cols),(5,.ref li),(8,.int fi'),(11,.int ro),(12,.int co),(13,.bool wa),(14,.ref sp)]))) = setF H2 ct (.inst 644 (ctF cols li fi' (L.length + pp.1) (min pp.2 (cols - 1)) wa sp)) := by
    rw [e3,setF_setF]; rfl
   rw [e4]
   have o4 : setF H2 ct (.inst 644 (ctF cols li fi' (L.length + pp.1) (min pp.2 (cols - 1)) wa sp)) ct = some (.inst 644 (ctF cols li fi' (L.length + pp.1) (min pp.2 (cols - 1)) wa sp)) := setF_same
   have o4' := o4
   unfold ctF at o4'
   cases bh with
   | true =>
    walk_at "r"
    refine r_sattr o4 rfl rfl ?_
    rw [setF_setF]
    exact Run.nil (done _ new fi' (L.length + pp.1) (min pp.2 (cols - 1)) (true) _ (base rfl) hf1 hf2 (fun _ => ⟨rfl,rfl⟩) (fun z => Bool.noConfusion z))
   | false =>
    walk_at "r"
    cases cw with
    | false =>
     walk_at "r"
     exact Run.nil (done _ new fi' (L.length + pp.1) (min pp.2 (cols - 1)) (wa) _ (base rfl) hf1 hf2 (fun _ => ⟨rfl,rfl⟩) (fun z => Bool.noConfusion z))
    | true =>
     walk_at "r"
     refine r_call1 ((sp_go_behind o4).tu rfl) rfl ?_
     refine is_elim ?_
     rw [setF_setF]
     walk_at "r"
     exact Run.nil (done _ new fi' (L.length + pp.1) (_) (_) _ (base rfl) hf1 hf2 (fun _ => ⟨rfl,rfl⟩) (fun z => Bool.noConfusion z))
 have ol2' := ol2
 have o2' := o2
 unfold llF at ol2'
 unfold ctF at o2'
 have self2 : H2 = setF H2 ct (.inst 644 (ctF cols li fi ro co wa sp)) := (setF_self o2).symm
 walk_at "r"
 by_cases q1 : f ≤ fst
 ·refine r_t (decide_eq_true (by omega)) ?_
  walk_at "c"
  by_cases q2 : fst ≤ lst
  ·refine r_t (decide_eq_true (by omega)) ?_
   have hlt := hlst q1 q2
   obtain ⟨n,hn⟩ : ∃ n,bl[fst - f]? = some n := ⟨_,List.getElem?_eq_getElem hlt⟩
   have nn := hbl n (List.mem_of_getElem? hn)
   walk_at "c"
   rw [show (fst : Int) - (f : Int) = ((fst - f : Nat) : Int) by omega]
   refine r_idx ob2 (by omega) (x := .int (n : Nat)) (at_nat (by unfold natV; rw [List.getElem?_map,hn]; rfl)) ?_
   refine r_call3 ((sp_rplace' A2 hlb ⟨by omega,by omega,by omega,hb.2.2.2.1⟩).tu rfl) rfl ?_
   refine is_elim ?_
   walk_at "r"
   rw [show (L.length : Int) + ((plc places P.length lb.length n).1 : Int) = ((L.length + (plc places P.length lb.length n).1 : Nat) : Int) by omega]
   refine r_sattr o2' rfl rfl ?_
   exact cur rfl (fun _ => ⟨n,hn,rfl⟩) (fun z => absurd ⟨q1,q2⟩ z)
  ·refine r_f (decide_eq_false (by omega)) ?_
   rw [List.nil_append]
   exact cur self2 (fun z => absurd z.2 q2) (fun _ => rfl)
 ·refine r_f (decide_eq_false (by omega)) ?_
  rw [List.cons_append,List.cons_append,List.nil_append]
  refine Run.pop (Run.lit (Run.chk (r_f rfl ?_)))
  rw [List.nil_append]
  exact cur self2 (fun z => absurd z.1 q1) (fun _ => rfl)
end
theorem cut_inv {cols : Nat} (hc : 2 ≤ cols) : ∀ (v : List Cell) (g : Gp),(∀ b ∈ g.1,(cellsOf b).length ≤ cols) → (cellsOf g.2).length ≤ cols → (∀ c ∈ v,Sw c) → ∀ b ∈ (v.foldl (cutS cols) g).1,(cellsOf b).length ≤ cols
 | [],_,h,_,_ => h
 | c :: v,g,h,h2,hv => by
  have hw := hv c (by simp)
  have cw : 1 ≤ c.w ∧ c.w ≤ 2 := by rcases hw with q | q <;> omega
  rw [List.foldl_cons]
  refine cut_inv hc v _ ?_ ?_ fun y hy => hv y (by simp [hy])
  ·unfold cutS
   split
   ·exact h
   ·intro b hb
    rcases List.mem_append.mp hb with hb | hb
    ·exact h b hb
    ·rw [List.mem_singleton.mp hb]; exact h2
  ·unfold cutS
   split
   ·show (cellsOf (g.2 ++ [c])).length ≤ cols
    rw [cellsOf_app,cellsOf_one,List.length_append,sgc_lenw hw]; assumption
   ·show (cellsOf [c]).length ≤ cols
    rw [cellsOf_one,sgc_lenw hw]; omega
theorem cut_le1 {cols : Nat} (hc : 2 ≤ cols) (u : List Cell) (hu : ∀ c ∈ u,Sw c) : ∀ b ∈ (cut cols u).1,(cellsOf b).length ≤ cols := cut_inv hc u ([],[]) (by simp) (Nat.zero_le _) hu
theorem padC_len {cols : Nat} {b : List Cell} (h : (cellsOf b).length ≤ cols) : (padC cols b).length = cols := by unfold padC padP; simp; omega
theorem padC_eq (cols : Nat) (b : List Cell) : padC cols b = cellsOf b ++ List.replicate (cols - (cellsOf b).length) blank := rfl
theorem pieces_le {cols : Nat} (hc : 2 ≤ cols) (u : List Cell) (hu : ∀ c ∈ u,Sw c) : ∀ b ∈ pieces cols u,b.length ≤ cols := by
 intro b hb
 unfold pieces at hb
 rcases List.mem_append.mp hb with hb | hb
 ·obtain ⟨x,hx,rfl⟩ := List.mem_map.mp hb
  exact Nat.le_of_eq (padC_len (cut_le1 hc u hu x hx))
 ·rw [List.mem_singleton.mp hb]; exact cut_le hc u hu
def viewG (cols : Nat) (g : Gp) : List (List Cell × Bool) := (linesG g).map fun q => padP cols (cellsOf q.1,q.2)
theorem view_new {cols : Nat} (hc : 2 ≤ cols) {H H' : Hp} {li : Nat} {B : List (List Cell)} {r rr : List Cell} {new : List Ln} (hB : ∀ b ∈ B,(cellsOf b).length ≤ cols) (N : NewP cols (B.length + 1) H H' li (B.map (padC cols) ++ [rr]) new) (hl : new.length = B.length + 1) (hr : rr ++ List.replicate (cols - rr.length) blank = padC cols r) :
  new.map (fun l => (l.cells,l.wr)) = viewG cols (B,r) := by
 apply List.ext_getElem?
 intro j
 unfold viewG
 rw [List.getElem?_map,List.getElem?_map]
 by_cases q : j < B.length
 ·obtain ⟨l,hlj⟩ : ∃ l,new[j]? = some l := ⟨_,List.getElem?_eq_getElem (by omega)⟩
  obtain ⟨b,hbj⟩ : ∃ b,B[j]? = some b := ⟨_,List.getElem?_eq_getElem q⟩
  have bl := hB b (List.mem_of_getElem? hbj)
  obtain ⟨c1,c2⟩ := N.cs j l (padC cols b) hlj (by rw [List.getElem?_append_left (by simpa using q),List.getElem?_map,hbj]; rfl)
  rw [hlj,linesG_go (g := (B,r)) hbj,Option.map_some,Option.map_some,c1,c2,padC_len bl,Nat.sub_self,List.replicate_zero,List.append_nil,decide_eq_true (by omega)]
  rfl
 ·by_cases q2 : j = B.length
  ·subst q2
   obtain ⟨l,hlj⟩ : ∃ l,new[B.length]? = some l := ⟨_,List.getElem?_eq_getElem (by omega)⟩
   obtain ⟨c1,c2⟩ := N.cs _ l rr hlj (by rw [List.getElem?_append_right (by simp)]; simp)
   rw [hlj,linesG_end (g := (B,r)),Option.map_some,Option.map_some,c1,c2,hr,decide_eq_false (by omega)]
   rfl
  ·rw [List.getElem?_eq_none (by omega),List.getElem?_eq_none (by unfold linesG; simp; omega)]; rfl
theorem begsF_last (n : Nat) (l : List (List Cell)) (p : List Cell) : begsF n (l ++ [p]) = begsF n l ++ [n + (cellsOf l.flatten).length] := by rw [begsF_app]; rfl
theorem begsF_le (n : Nat) (l : List (List Cell)) : ∀ m ∈ begsF n l,m ≤ n + (cellsOf l.flatten).length := by
 induction l generalizing n with
 | nil => simp [begsF]
 | cons p l ih =>
  intro m hm
  rw [begsF] at hm
  rcases List.mem_cons.mp hm with rfl | hm
  ·omega
  ·have := ih _ m hm
   rw [List.flatten_cons,cellsOf_app,List.length_append]; omega
theorem begsF_head {n : Nat} {l : List (List Cell)} {m : Nat} (h : (begsF n l)[0]? = some m) : m = n := by
 cases l with
 | nil => simp [begsF] at h
 | cons p l => simpa [begsF] using h.symm
structure CtPut (cols : Nat) (H H' : Hp) (ct li sp c : Nat) (L : List Ln) (u : List Cell) (new : List Ln) (fi ro co : Nat) (wa : Bool) (spn : Nat) : Prop where
 o : H' ct = some (.inst 644 (ctF cols li fi ro co wa sp))
 hli : H' li = some (.list (refs (L ++ new)))
 hsp : ∃ spl,H' sp = some (.list spl) ∧ spl.length ≤ spn
 view : new.map (fun l => (l.cells,l.wr)) = viewG cols (cut cols u)
 at_ : ∀ l ∈ new,LnAt H' l
 fr : ∀ l ∈ new,H l.a = none ∧ H l.c = none
 nda : (new.map (·.a)).Nodup
 ndc : (new.map (·.c)).Nodup
 kp : ∀ y m,H y = some m → y ≠ ct → y ≠ li → y ≠ sp → y ≠ c → H' y = some m
 hc : ∃ m,H' c = some m
section
variable {W : Wx} {H : Hp}
theorem sp_ctput {ct li sp la cols fi ro co fst crow ccol : Nat} {wa cw : Bool} {spl : List V} {L : List Ln} {ll : LL} (hcols : 2 ≤ cols ∧ cols ≤ 7) (o : H ct = some (.inst 644 (ctF cols li fi ro co wa sp))) (hli : H li = some (.list (refs L))) (os : H sp = some (.list spl)) (hl : LLAt H ll) (hu : ∀ c ∈ ll.g.ps.flatten,Sg c)
  (n1 : ll.b ≠ li) (n2 : ll.b ≠ sp) (n3 : ll.c ≠ li) (n4 : ll.c ≠ sp) (n5 : ll.b ≠ ll.c) (n6 : li ≠ sp) (hb : ll.g.ps.flatten.length ≤ 100 ∧ (cellsOf ll.g.ps.flatten).length ≤ 200 ∧ ll.g.1.length ≤ 400 ∧ spl.length ≤ 4000 ∧ L.length ≤ 500 ∧ ll.f ≤ 900 ∧ crow ≤ 900)
  (hcur : ll.f ≤ crow ∧ crow ≤ ll.f + ll.g.1.length → crow = ll.f + ll.g.1.length ∧ ccol + (if cw then 1 else 0) = (cellsOf ll.g.2).length ∧ wa = false) :
  CallW W 7 (.ref 613) [.ref ct,.ref ll.a,.ref la,.int fst,.tup [.int crow,.int ccol,.bool cw]] H fun x H' => x = .none ∧ ∃ new fi' ro' co' wa',CtPut cols H H' ct li sp ll.c L ll.g.ps.flatten new fi' ro' co' wa' (spl.length + (ll.g.1.length + 1)) ∧
   (ll.f ≤ fst ∧ fst ≤ ll.f + ll.g.1.length → ∃ k,fi' = L.length + k ∧ (fst = ll.f → k = 0)) ∧ (¬ (ll.f ≤ fst ∧ fst ≤ ll.f + ll.g.1.length) → fi' = fi) ∧
   (ll.f ≤ crow ∧ crow ≤ ll.f + ll.g.1.length → ro' = L.length + (cut cols ll.g.ps.flatten).1.length ∧ co' = min (cellsOf (cut cols ll.g.ps.flatten).2).length (cols - 1) ∧ wa' = ((cellsOf (cut cols ll.g.ps.flatten).2).length == cols)) ∧
   (¬ (ll.f ≤ crow ∧ crow ≤ ll.f + ll.g.1.length) → ro' = ro ∧ co' = co ∧ wa' = wa) := by
 refine in_613 _ _ _ _ _ ?_
 unfold cd_613
 have o' := o
 have lo := hl.o
 have lb := hl.b
 have lc := hl.c
 unfold ctF at o'
 have lo' := lo
 unfold llF at lo'
 generalize hU : ll.g.ps.flatten = u at *
 have huw : ∀ c ∈ u,Sw c := fun c hc => (hu c hc).1
 have lenP : ll.g.ps.length = ll.g.1.length + 1 := by unfold Gp.ps; simp
 have lbl : (natV (begsF 0 ll.g.ps)).length = ll.g.1.length + 1 := by simp [natV,begsF_len,lenP]
 have lrl : (refs L).length = L.length := by simp [refs]
 have cutlen : (cut cols u).1.length ≤ u.length := by
  have : ∀ (v : List Cell) (g : Gp),(v.foldl (cutS cols) g).1.length ≤ g.1.length + v.length := by
   intro v
   induction v with
   | nil => intro g; simp
   | cons c v ih =>
    intro g
    rw [List.foldl_cons]
    refine Nat.le_trans (ih _) ?_
    unfold cutS
    split <;> simp <;> omega
  have := this u ([],[])
  simpa [cut] using this
 have eg2 : (cellsOf u).length = (cellsOf ll.g.1.flatten).length + (cellsOf ll.g.2).length := by
  rw [← hU]; unfold Gp.ps; rw [List.flatten_append,cellsOf_app,List.length_append]; simp
 have ebl : begsF 0 ll.g.ps = begsF 0 ll.g.1 ++ [(cellsOf ll.g.1.flatten).length] := by
  unfold Gp.ps; rw [begsF_last,Nat.zero_add]
 have bl1 : (begsF 0 ll.g.1).length = ll.g.1.length := begsF_len _ _
 walk_at "r"
 rw [lrl,lbl,show (ll.f : Int) + ((ll.g.1.length + 1 : Nat) : Int) - 1 = ((ll.f + ll.g.1.length : Nat) : Int) by omega]
 have finish : ∀ {H3 : Hp} {ps pl off : Nat} {qs : List Nat} {places : List (Nat × Nat)} {rr : List Cell} {hv bh : Bool} {x13 x14 x15 x16 x17 x18 : Option V},(∀ y m,H y = some m → y ≠ ll.c → H3 y = some m) → (∃ m,H3 ll.c = some m) → PsAt H3 ps pl qs ((cut cols u).1.map (padC cols) ++ [rr]) places → (ps ≠ li ∧ li ∉ qs ∧ ps ≠ sp ∧ pl ≠ sp ∧ sp ∉ qs ∧ pl ≠ li) → rr.length ≤ cols → rr ++ List.replicate (cols - rr.length) blank = padC cols (cut cols u).2 → places.length ≤ 9000 → off ≤ 900 →
   (plc places ((cut cols u).1.length + 1) rr.length 0).1 = 0 → (hv = true ↔ (ll.f ≤ crow ∧ crow ≤ ll.f + ll.g.1.length)) →
   (hv = true → (plc places ((cut cols u).1.length + 1) rr.length off).1 = (cut cols u).1.length ∧ curFin cols bh cw (min (plc places ((cut cols u).1.length + 1) rr.length off).2 (cols - 1)) false = (min (cellsOf (cut cols u).2).length (cols - 1),((cellsOf (cut cols u).2).length == cols))) →
   Run W 6 (.loc 1 :: .attr 9 :: .fr .enum 1 [.unp 2,.sto 13,.sto 14] [.loc 0,.attr 14,.mth 41,.loc 5,.loc 14,.loc 1,.mth 10,.loc 13,.call 2,.loc 10,.loc 11,.tup 5,.call 2,.pop] :: .loc 10 :: .fr .enum 1 [.unp 2,.sto 15,.sto 16] [.loc 15,.lit (.int (1)),.bin .Add,.lit (.raw (.builtin "len")),.loc 10,.call 1,.cmp .Lt,.chk,.ite [.lit (.bool true)] [.loc 1,.attr 10,.chk,.notb],.sto 17,.loc 0,.attr 5,.mth 41,.lit (.raw (.ref 592)),.loc 16,.loc 0,.attr 4,.loc 17,.call 3,.call 2,.pop] ::
    [.loc 1,.attr 8,.loc 3,.cmpk .LtE,.ite [.loc 6,.cmp .LtE] [.pop,.lit (.bool false)],.chk,.ite [.lit (.raw (.ref 585)),.loc 10,.loc 11,.loc 1,.attr 9,.loc 3,.loc 1,.attr 8,.bin .Sub,.idx,.call 3,.sto 18,.loc 5,.loc 18,.lit (.int (0)),.idx,.bin .Add,.loc 0,.sattr 8] [],.loc 7,.chk,.ite [.lit (.raw (.ref 585)),.loc 10,.loc 11,.loc 8,.call 3,.sto 18,.loc 5,.loc 18,.lit (.int (0)),.idx,.bin .Add,.lit (.raw (.builtin "min")),.loc 18,.lit (.int (1)),.idx,.loc 0,.attr 4,.lit (.int (1)),.bin .Sub,.call 2,.tup 2,.unp 2,.loc 0,.sattr 11,.loc 0,.sattr 12,.loc 12,.chk,.ite [.lit (.bool true),.loc 0,.sattr 13] [.loc 9,.chk,.ite [.lit (.raw (.builtin "min")),.loc 0,.attr 12,.lit (.int (1)),.bin .Add,.loc 0,.attr 4,.lit (.int (1)),.bin .Sub,.call 2,.loc 0,.sattr 12] [.loc 4,.lit (.int (2)),.idx,.chk,.ite [.loc 0,.mth 12,.call 1,.pop] []]]] []]) []
    [some (.ref ct),some (.ref ll.a),some (.ref la),some (.int fst),some (.tup [.int crow,.int ccol,.bool cw]),some (.int L.length),some (.int ((ll.f + ll.g.1.length : Nat) : Int)),some (.bool hv),some (.int off),some (.bool false),some (.ref ps),some (.ref pl),some (.bool bh),x13,x14,x15,x16,x17,x18] H3
    (behind fun x H' => x = .none ∧ ∃ new fi' ro' co' wa',CtPut cols H H' ct li sp ll.c L u new fi' ro' co' wa' (spl.length + (ll.g.1.length + 1)) ∧
     (ll.f ≤ fst ∧ fst ≤ ll.f + ll.g.1.length → ∃ k,fi' = L.length + k ∧ (fst = ll.f → k = 0)) ∧ (¬ (ll.f ≤ fst ∧ fst ≤ ll.f + ll.g.1.length) → fi' = fi) ∧
     (ll.f ≤ crow ∧ crow ≤ ll.f + ll.g.1.length → ro' = L.length + (cut cols u).1.length ∧ co' = min (cellsOf (cut cols u).2).length (cols - 1) ∧ wa' = ((cellsOf (cut cols u).2).length == cols)) ∧
     (¬ (ll.f ≤ crow ∧ crow ≤ ll.f + ll.g.1.length) → ro' = ro ∧ co' = co ∧ wa' = wa)) := by
  intro H3 ps pl off qs places rr hv bh x13 x14 x15 x16 x17 x18 kp3 hc3 A sep hrr hpad hpl hoff hz hhv hcu
  obtain ⟨s1,s2,s3,s4,s5,s6⟩ := sep
  have lP : ((cut cols u).1.map (padC cols) ++ [rr]).length = (cut cols u).1.length + 1 := by simp
  have nct : ct ≠ ll.c := ne_kd o lc rfl
  have na : ll.a ≠ ll.c := ne_kd lo lc rfl
  refine put_tail (bl := begsF 0 ll.g.ps) (lb := rr) hcols (kp3 _ _ o nct) (kp3 _ _ hli n3.symm) (kp3 _ _ os n4.symm) (kp3 _ _ lo na) (kp3 _ _ lb n5) A s1 s2 s3 s4 s5 n2 n1 n6 s6 (fun b hb' => ?_) (by rw [lP]; simp) ⟨by rw [begsF_len,lenP]; omega,by rw [begsF_len,lenP]; omega,by rw [lP]; omega,hpl,hoff⟩ (fun n hn => ?_) (fun q1 q2 => by rw [begsF_len,lenP]; omega) fun H' new fi' ro' co' wa' ρ' P hf1 hf2 hc1 hc2 => ?_
  ·rcases List.mem_append.mp hb' with hb' | hb'
   ·obtain ⟨x,hx,rfl⟩ := List.mem_map.mp hb'
    exact Nat.le_of_eq (padC_len (cut_le1 hcols.1 u huw x hx))
   ·rw [List.mem_singleton.mp hb']; exact hrr
  ·have := begsF_le 0 ll.g.ps n hn
   rw [hU] at this; omega
  ·rw [lP] at hf1 hc1
   have N := P.N
   rw [lP] at N
   have bk : ∀ y,H3 y = none → H y = none := fun y z => by
    cases h : H y with
    | none => rfl
    | some m =>
     by_cases q : y = ll.c
     ·obtain ⟨m',hm'⟩ := hc3; rw [q,hm'] at z; cases z
     ·rw [kp3 _ _ h q] at z; cases z
   refine ⟨rfl,new,fi',ro',co',wa',⟨P.o,P.hli,?_,view_new hcols.1 (cut_le1 hcols.1 u huw) N (by rw [P.len,lP]; rfl) hpad,N.at_,fun l hl' => ⟨bk _ (N.fr l hl').1,bk _ (N.fr l hl').2⟩,N.nda,N.ndc,fun y m z q1 q2 q3 q4 => P.kp y m (kp3 y m z q4) q1 q2 q3,hc3.elim fun m hm => ⟨m,P.kp _ _ hm nct.symm n3 n4⟩⟩,fun q => ?_,hf2,fun q => ?_,fun q => ?_⟩
   ·obtain ⟨spl',h1,h2⟩ := P.hsp
    exact ⟨spl',h1,by rw [begsF_len,lenP] at h2; exact h2⟩
   ·obtain ⟨n,h1,h2⟩ := hf1 q
    refine ⟨_,h2,fun z => ?_⟩
    rw [z,Nat.sub_self] at h1
    rw [begsF_head h1]; exact hz
   ·have hv1 := hhv.mpr q
    obtain ⟨c1,c2⟩ := hc1 hv1
    obtain ⟨d1,d2⟩ := hcu hv1
    have ew := (hcur q).2.2
    rw [ew,d2] at c2
    rw [d1] at c1
    exact ⟨c1,congrArg Prod.fst c2,congrArg Prod.snd c2⟩
   ·have : hv = false := by cases hq : hv with | false => rfl | true => exact absurd (hhv.mp hq) q
    exact hc2 this
 have pz : ∀ {places : List (Nat × Nat)} {u' : List Cell} {rr : List Cell},PlOk u' (cut cols u') places → (cut cols u).1.length = (cut cols u').1.length → (u' = [] → (cut cols u).1.length = 0) → (plc places ((cut cols u).1.length + 1) rr.length 0).1 = 0 := by
  intro places u' rr hp _ he
  unfold plc
  cases h : places[0]? with
  | some p => rw [hp.hd p h]
  | none =>
   have h0 : places.length = 0 := by have := List.getElem?_eq_none_iff.mp h; omega
   have : u' = [] := by
    cases u' with
    | nil => rfl
    | cons y t =>
     have h1 := hp.len
     have h2 := cells_head (c := y) (t := t)
     have := (List.getElem?_eq_some_iff.mp h2).1
     omega
   rw [he this]
 have rle := cut_le (cols := cols) hcols.1 u huw
 have sepOf : ∀ {H2 H3 : Hp} {ps pl : Nat} {qs : List Nat} {places : List (Nat × Nat)} {u' : List Cell},CutR cols u' H2 H3 ps pl qs places → H2 li = some (.list (refs L)) → H2 sp = some (.list spl) → (ps ≠ li ∧ li ∉ qs ∧ ps ≠ sp ∧ pl ≠ sp ∧ sp ∉ qs ∧ pl ≠ li) := by
  intro H2 H3 ps pl qs places u' C h1 h2
  obtain ⟨f1,f2,f3⟩ := C.fr
  exact ⟨(ne_new h1 f1).symm,fun z => ne_new h1 (f3 _ z) rfl,(ne_new h2 f1).symm,(ne_new h2 f2).symm,fun z => ne_new h2 (f3 _ z) rfl,(ne_new h1 f2).symm⟩
 by_cases has : ll.f ≤ crow ∧ crow ≤ ll.f + ll.g.1.length
 ·obtain ⟨k1,k2,k3⟩ := hcur has
  refine r_t (decide_eq_true (by omega)) ?_
  walk_at "c"
  rw [decide_eq_true (show (crow : Int) ≤ ((ll.f + ll.g.1.length : Nat) : Int) by omega)]
  walk_at "r"
  rw [show (crow : Int) - (ll.f : Int) = ((begsF 0 ll.g.1).length : Int) by rw [bl1]; omega]
  have lb' := lb
  rw [ebl] at lb'
  refine r_call3 ((sp_offset lo lb' (by rw [bl1]; omega)).tu rfl) rfl ?_
  refine is_elim ?_
  walk_at "r"
  generalize hoff : (cellsOf ll.g.1.flatten).length + ccol = off at *
  refine r_call2 ((sp_cut hcols lc huw ⟨by omega,by omega⟩).tu rfl) rfl ?_
  rintro _ H2 ⟨ps,pl,qs,places,rfl,C⟩
  have lc2 := C.ext _ _ lc
  have lo2 := C.ext _ _ lo
  have o2 := C.ext _ _ o
  have o2' := o2
  have lo2' := lo2
  unfold ctF at o2'
  unfold llF at lo2'
  have A : PsAt H2 ps pl qs ((cut cols u).1.map (padC cols) ++ [cellsOf (cut cols u).2]) places := ⟨C.hps,C.hpl,C.len,C.hqs⟩
  have plen : places.length = (cellsOf u).length := C.pk.len
  walk_at "r"
  have lastc : ∀ (h : 0 < (cellsOf u).length),places[places.length - 1]? = some ((cut cols u).1.length,(cellsOf (cut cols u).2).length - 1) := fun h => C.pk.lst fun z => by rw [z] at h; simp [cellsOf] at h
  have cpos : 0 < (cellsOf u).length → 0 < (cellsOf (cut cols u).2).length := fun h => by
   rcases List.eq_nil_or_concat u with rfl | ⟨t,c,rfl⟩
   ·simp [cellsOf] at h
   ·rw [List.concat_eq_append,cut_snoc]
    have hw := huw c (by simp)
    unfold cutS
    split
    ·show 0 < (cellsOf ((cut cols t).2 ++ [c])).length
     rw [cellsOf_app,cellsOf_one,List.length_append,sgc_lenw hw]; rcases hw with q | q <;> omega
    ·show 0 < (cellsOf [c]).length
     rw [cellsOf_one,sgc_lenw hw]; rcases hw with q | q <;> omega
  have kc : (cw = true ∨ (cw = false ∧ (cellsOf (cut cols u).2).length < cols)) → Run W 6 (.loc 7 :: .chk :: .ite [.loc 12,.chk,.notb] [.lit (.bool false)] :: .ite [.loc 1,.mth 9,.loc 8,.lit (.int (1)),.bin .Add,.call 2,.pop,.lit (.raw (.ref 578)),.loc 1,.attr 0,.loc 0,.attr 4,.call 2,.unp 2,.sto 10,.sto 11] [] :: (.loc 1 :: .attr 9 :: .fr .enum 1 [.unp 2,.sto 13,.sto 14] [.loc 0,.attr 14,.mth 41,.loc 5,.loc 14,.loc 1,.mth 10,.loc 13,.call 2,.loc 10,.loc 11,.tup 5,.call 2,.pop] :: .loc 10 :: .fr .enum 1 [.unp 2,.sto 15,.sto 16] [.loc 15,.lit (.int (1)),.bin .Add,.lit (.raw (.builtin "len")),.loc 10,.call 1,.cmp .Lt,.chk,.ite [.lit (.bool true)] [.loc 1,.attr 10,.chk,.notb],.sto 17,.loc 0,.attr 5,.mth 41,.lit (.raw (.ref 592)),.loc 16,.loc 0,.attr 4,.loc 17,.call 3,.call 2,.pop] ::
    [.loc 1,.attr 8,.loc 3,.cmpk .LtE,.ite [.loc 6,.cmp .LtE] [.pop,.lit (.bool false)],.chk,.ite [.lit (.raw (.ref 585)),.loc 10,.loc 11,.loc 1,.attr 9,.loc 3,.loc 1,.attr 8,.bin .Sub,.idx,.call 3,.sto 18,.loc 5,.loc 18,.lit (.int (0)),.idx,.bin .Add,.loc 0,.sattr 8] [],.loc 7,.chk,.ite [.lit (.raw (.ref 585)),.loc 10,.loc 11,.loc 8,.call 3,.sto 18,.loc 5,.loc 18,.lit (.int (0)),.idx,.bin .Add,.lit (.raw (.builtin "min")),.loc 18,.lit (.int (1)),.idx,.loc 0,.attr 4,.lit (.int (1)),.bin .Sub,.call 2,.tup 2,.unp 2,.loc 0,.sattr 11,.loc 0,.sattr 12,.loc 12,.chk,.ite [.lit (.bool true),.loc 0,.sattr 13] [.loc 9,.chk,.ite [.lit (.raw (.builtin "min")),.loc 0,.attr 12,.lit (.int (1)),.bin .Add,.loc 0,.attr 4,.lit (.int (1)),.bin .Sub,.call 2,.loc 0,.sattr 12] [.loc 4,.lit (.int (2)),.idx,.chk,.ite [.loc 0,.mth 12,.call 1,.pop] []]]] []])) []
    [some (.ref ct),some (.ref ll.a),some (.ref la),some (.int fst),some (.tup [.int crow,.int ccol,.bool cw]),some (.int L.length),some (.int ((ll.f + ll.g.1.length : Nat) : Int)),some (.bool true),some (.int off),some (.bool false),some (.ref ps),some (.ref pl),some (.bool false),none,none,none,none,none,none] H2
    (behind fun x H' => x = .none ∧ ∃ new fi' ro' co' wa',CtPut cols H H' ct li sp ll.c L u new fi' ro' co' wa' (spl.length + (ll.g.1.length + 1)) ∧
     (ll.f ≤ fst ∧ fst ≤ ll.f + ll.g.1.length → ∃ k,fi' = L.length + k ∧ (fst = ll.f → k = 0)) ∧ (¬ (ll.f ≤ fst ∧ fst ≤ ll.f + ll.g.1.length) → fi' = fi) ∧
     (ll.f ≤ crow ∧ crow ≤ ll.f + ll.g.1.length → ro' = L.length + (cut cols u).1.length ∧ co' = min (cellsOf (cut cols u).2).length (cols - 1) ∧ wa' = ((cellsOf (cut cols u).2).length == cols)) ∧
     (¬ (ll.f ≤ crow ∧ crow ≤ ll.f + ll.g.1.length) → ro' = ro ∧ co' = co ∧ wa' = wa)) := fun hx => by
   walk_at "r"
   rw [show (off : Int) + 1 = ((off + 1 : Nat) : Int) by omega]
   have hm : off + 1 ≤ (cellsOf u).length ∨ off + 1 = (cellsOf u).length + 1 := by split at k2 <;> omega
   refine r_call2 ((sp_kept (m := off + 1) lo2 lc2 hm (by omega)).tu rfl) rfl ?_
   refine is_elim ?_
   have hkp : ∀ (cs : List Cell),∀ y m,H2 y = some m → y ≠ ll.c → setF H2 ll.c (.list (cs.map Cell.v)) y = some m := fun cs y m z q => at_ne z q
   rcases hx with hx | ⟨hx,hr⟩
   ·subst hx
    simp only [if_true] at k2
    rw [if_pos (by omega),setF_self lc2]
    walk_at "r"
    refine r_call2 ((sp_cut hcols lc2 huw ⟨by omega,by omega⟩).tu rfl) rfl ?_
    rintro _ H3 ⟨ps3,pl3,qs3,places3,rfl,C3⟩
    refine r_unp2 (r_sto rfl (r_sto rfl ?_))
    simp only [List.set_cons_succ,List.set_cons_zero]
    have hp := cpos (by omega)
    have plen3 := C3.pk.len
    have pl0 : plc places3 ((cut cols u).1.length + 1) (cellsOf (cut cols u).2).length off = ((cut cols u).1.length,(cellsOf (cut cols u).2).length - 1) := by
     have := C3.pk.lst fun z => by rw [z] at hp; simp [cut,cellsOf] at hp
     rw [show places3.length - 1 = off by omega] at this
     unfold plc; rw [this]
    refine finish (off := off) (fun y m z q => C3.ext _ _ (C.ext _ _ z)) ⟨_,C3.ext _ _ lc2⟩ ⟨C3.hps,C3.hpl,C3.len,C3.hqs⟩ (sepOf C3 (C.ext _ _ hli) (C.ext _ _ os)) rle rfl (by omega) (by omega) (pz C3.pk rfl fun z => by rw [z]; rfl) ⟨fun _ => has,fun _ => rfl⟩ fun _ => ⟨by rw [pl0],?_⟩
    rw [pl0]
    unfold curFin
    simp only [Bool.false_eq_true,if_false,if_true]
    by_cases q : (cellsOf (cut cols u).2).length = cols
    ·rw [if_neg (by omega)]
     refine Prod.ext (by show min _ _ = min _ _; omega) ?_
     show true = _
     rw [eq_comm,beq_iff_eq]; exact q
    ·rw [if_pos (by omega)]
     refine Prod.ext (by show min _ _ + 1 = min _ _; omega) ?_
     show false = _
     rw [eq_comm,beq_eq_false_iff_ne]; exact q
   ·subst hx
    simp only [Bool.false_eq_true,if_false,Nat.add_zero] at k2
    rw [if_neg (by omega)]
    have cb : cellsOf u ++ [blank] = cellsOf (u ++ [blank]) := by rw [cellsOf_app]; rfl
    rw [cb]
    have kb := hkp (cellsOf (u ++ [blank]))
    have lc3 : setF H2 ll.c (.list ((cellsOf (u ++ [blank])).map Cell.v)) ll.c = some (.list ((cellsOf (u ++ [blank])).map Cell.v)) := setF_same
    have lo3 := kb _ _ lo2 (ne_kd lo lc rfl)
    have o3 := kb _ _ o2 (ne_kd o lc rfl)
    have li3 := kb _ _ (C.ext _ _ hli) n3.symm
    have sp3 := kb _ _ (C.ext _ _ os) n4.symm
    generalize setF H2 ll.c (.list ((cellsOf (u ++ [blank])).map Cell.v)) = H2' at *
    have lo3' := lo3
    have o3' := o3
    unfold llF at lo3'
    unfold ctF at o3'
    have huw' : ∀ c ∈ u ++ [blank],Sw c := fun c hc => by
     rcases List.mem_append.mp hc with hc | hc
     ·exact huw c hc
     ·rw [List.mem_singleton.mp hc]; exact .inl rfl
    have ecut : cut cols (u ++ [blank]) = ((cut cols u).1,(cut cols u).2 ++ [blank]) := by
     rw [cut_snoc]; unfold cutS; rw [if_pos (by show _ + 1 ≤ cols; omega)]
    have crr : cellsOf ((cut cols u).2 ++ [blank]) = cellsOf (cut cols u).2 ++ [blank] := by rw [cellsOf_app]; rfl
    walk_at "r"
    refine r_call2 ((sp_cut hcols lc3 huw' ⟨by simp; omega,by rw [← cb]; simp; omega⟩).tu rfl) rfl ?_
    rintro _ H3 ⟨ps3,pl3,qs3,places3,rfl,C3⟩
    refine r_unp2 (r_sto rfl (r_sto rfl ?_))
    simp only [List.set_cons_succ,List.set_cons_zero]
    have plen3 := C3.pk.len
    rw [← cb,List.length_append,List.length_singleton] at plen3
    have A3 : PsAt H3 ps3 pl3 qs3 ((cut cols u).1.map (padC cols) ++ [cellsOf (cut cols u).2 ++ [blank]]) places3 := by
     have h1 := C3.len
     have h2 := C3.hqs
     unfold pieces at h1 h2
     rw [ecut] at h1 h2
     dsimp only at h1 h2
     rw [crr] at h1 h2
     exact ⟨C3.hps,C3.hpl,h1,h2⟩
    have pl0 : plc places3 ((cut cols u).1.length + 1) (cellsOf (cut cols u).2 ++ [blank]).length off = ((cut cols u).1.length,(cellsOf (cut cols u).2).length) := by
     have := C3.pk.lst (by simp)
     rw [ecut] at this
     dsimp only at this
     rw [crr,show places3.length - 1 = off by omega] at this
     unfold plc; rw [this]; simp
    have eb1 : (cut cols u).1.length = (cut cols (u ++ [blank])).1.length := by rw [ecut]
    refine finish (off := off) (fun y m z q => C3.ext _ _ (kb y m (C.ext _ _ z) q)) ⟨_,C3.ext _ _ lc3⟩ A3 (sepOf C3 li3 sp3) (by simp; omega) ?_ (by omega) (by omega) (pz C3.pk eb1 fun z => by simp at z) ⟨fun _ => has,fun _ => rfl⟩ fun _ => ⟨by rw [pl0],?_⟩
    ·rw [padC_eq,List.length_append,List.length_singleton,List.append_assoc,show cols - (cellsOf (cut cols u).2).length = (cols - ((cellsOf (cut cols u).2).length + 1)) + 1 by omega,List.replicate_succ]
     rfl
    ·rw [pl0]
     unfold curFin
     simp only [Bool.false_eq_true,if_false]
     refine Prod.ext rfl ?_
     show false = _
     rw [eq_comm,beq_eq_false_iff_ne]; omega
  cases hcw : cw with
  | true =>
   rw [hcw] at kc
   refine r_f rfl ?_
   refine Run.lit (r_sto rfl ?_)
   simp only [List.set_cons_succ,List.set_cons_zero]
   exact kc (.inl rfl)
  | false =>
   rw [hcw] at kc k2 finish
   simp only [Bool.false_eq_true,if_false,Nat.add_zero] at k2
   have eoff : off = (cellsOf u).length := by omega
   refine r_t rfl ?_
   have last : ∃ q,qs[qs.length - 1]? = some q ∧ H2 q = some (.list ((cellsOf (cut cols u).2).map Cell.v)) := by
    have hl2 := A.len
    rw [List.length_append,List.length_map,List.length_singleton] at hl2
    obtain ⟨q,hq⟩ : ∃ q,qs[qs.length - 1]? = some q := ⟨_,List.getElem?_eq_getElem (by omega)⟩
    exact ⟨q,hq,A.hqs _ _ _ hq (by rw [List.getElem?_append_right (by simp; omega)]; simp [hl2])⟩
   obtain ⟨q,hq,hql⟩ := last
   have qlt := (List.getElem?_eq_some_iff.mp hq).1
   walk_at "c"
   simp only [List.length_map]
   by_cases q0 : 0 < (cellsOf u).length
   ·refine r_t (decide_eq_true (by omega)) ?_
    rw [List.cons_append,List.cons_append,List.nil_append]
    refine Run.loc rfl (r_eq (Run.chk (r_t (by rw [beq_iff_eq]; omega) ?_)))
    walk_at "c"
    refine r_idx A.hps (by decide) (x := .ref q) (by
     unfold at?
     rw [if_pos (by omega),if_pos (by simp; omega),show ((-1 : Int) + ((qs.map V.ref).length : Nat)).toNat = qs.length - 1 by simp; omega,List.getElem?_map,hq]; rfl) ?_
    walk_at "r1"
    simp only [List.length_map]
    refine Run.loc rfl ?_
    walk_at "r1"
    refine r_eq (Run.chk ?_)
    by_cases qc : (cellsOf (cut cols u).2).length = cols
    ·have eb : (((cellsOf (cut cols u).2).length : Int) == (cols : Int)) = true := by rw [beq_iff_eq]; omega
     rw [eb]
     refine r_sto rfl ?_
     simp only [List.set_cons_succ,List.set_cons_zero]
     refine Run.loc rfl (Run.chk (r_t rfl ?_))
     rw [List.cons_append]
     refine Run.loc rfl ?_
     rw [List.cons_append,List.cons_append,List.nil_append]
     refine Run.chk (Run.notb (r_f rfl ?_))
     rw [List.nil_append]
     have pl0 : plc places ((cut cols u).1.length + 1) (cellsOf (cut cols u).2).length off = ((cut cols u).1.length,(cellsOf (cut cols u).2).length) := by
      unfold plc
      rw [List.getElem?_eq_none (by omega)]
      rfl
     refine finish (off := off) (fun y m z _ => C.ext _ _ z) ⟨_,lc2⟩ A (sepOf C hli os) rle rfl (by omega) (by omega) (pz C.pk rfl fun z => by rw [z]; rfl) ⟨fun _ => has,fun _ => rfl⟩ fun _ => ⟨by rw [pl0],?_⟩
     rw [pl0]
     unfold curFin
     simp only [if_true]
     refine Prod.ext rfl ?_
     show true = _
     rw [eq_comm,beq_iff_eq]; exact qc
    ·have eb : (((cellsOf (cut cols u).2).length : Int) == (cols : Int)) = false := by rw [beq_eq_false_iff_ne]; omega
     rw [eb]
     refine r_sto rfl ?_
     simp only [List.set_cons_succ,List.set_cons_zero]
     exact kc (.inr ⟨rfl,by omega⟩)
   ·refine r_f (decide_eq_false (by omega)) ?_
    rw [List.cons_append,List.cons_append,List.nil_append]
    refine Run.pop (Run.lit (Run.chk (r_f rfl ?_)))
    rw [List.cons_append,List.nil_append]
    refine Run.lit (r_sto rfl ?_)
    simp only [List.set_cons_succ,List.set_cons_zero]
    have hu0 : u = [] := by
     cases u with
     | nil => rfl
     | cons y t => have := (List.getElem?_eq_some_iff.mp (cells_head (c := y) (t := t))).1; omega
    exact kc (.inr ⟨rfl,by rw [hu0]; simp [cut,cellsOf]; omega⟩)
 ·have nothas : ∀ {ps' : Nat},Run W 6 (.sto 7 :: .loc 7 :: .chk :: .ite [.loc 1,.mth 11,.loc 4,.lit (.int (0)),.idx,.loc 1,.attr 8,.bin .Sub,.loc 4,.lit (.int (1)),.idx,.call 3] [.lit (.int (0)),.lit (.bool false),.tup 2] :: .unp 2 :: .sto 8 :: .sto 9 :: .lit (.raw (.ref 578)) :: .loc 1 :: .attr 0 :: .loc 0 :: .attr 4 :: .call 2 :: .unp 2 :: .sto 10 :: .sto 11 :: .loc 7 :: .chk :: .ite [.loc 4,.lit (.int (2)),.idx,.chk,.notb,.ite [.lit (.int (0)),.lit (.raw (.builtin "len")),.loc 1,.attr 0,.call 1,.cmpk .Lt,.ite [.loc 8,.cmp .Eq] [.pop,.lit (.bool false)],.chk,.ite [.lit (.raw (.builtin "len")),.loc 10,.lit (.int (1)),.neg,.idx,.call 1,.loc 0,.attr 4,.cmp .Eq,.chk] [.lit (.bool false)]] [.lit (.bool false)]] [.lit (.bool false)] :: .sto 12 :: .loc 7 :: .chk :: .ite [.loc 12,.chk,.notb] [.lit (.bool false)] :: .ite [.loc 1,.mth 9,.loc 8,.lit (.int (1)),.bin .Add,.call 2,.pop,.lit (.raw (.ref 578)),.loc 1,.attr 0,.loc 0,.attr 4,.call 2,.unp 2,.sto 10,.sto 11] [] :: (.loc 1 :: .attr 9 :: .fr .enum 1 [.unp 2,.sto 13,.sto 14] [.loc 0,.attr 14,.mth 41,.loc 5,.loc 14,.loc 1,.mth 10,.loc 13,.call 2,.loc 10,.loc 11,.tup 5,.call 2,.pop] :: .loc 10 :: .fr .enum 1 [.unp 2,.sto 15,.sto 16] [.loc 15,.lit (.int (1)),.bin .Add,.lit (.raw (.builtin "len")),.loc 10,.call 1,.cmp .Lt,.chk,.ite [.lit (.bool true)] [.loc 1,.attr 10,.chk,.notb],.sto 17,.loc 0,.attr 5,.mth 41,.lit (.raw (.ref 592)),.loc 16,.loc 0,.attr 4,.loc 17,.call 3,.call 2,.pop] ::
    [.loc 1,.attr 8,.loc 3,.cmpk .LtE,.ite [.loc 6,.cmp .LtE] [.pop,.lit (.bool false)],.chk,.ite [.lit (.raw (.ref 585)),.loc 10,.loc 11,.loc 1,.attr 9,.loc 3,.loc 1,.attr 8,.bin .Sub,.idx,.call 3,.sto 18,.loc 5,.loc 18,.lit (.int (0)),.idx,.bin .Add,.loc 0,.sattr 8] [],.loc 7,.chk,.ite [.lit (.raw (.ref 585)),.loc 10,.loc 11,.loc 8,.call 3,.sto 18,.loc 5,.loc 18,.lit (.int (0)),.idx,.bin .Add,.lit (.raw (.builtin "min")),.loc 18,.lit (.int (1)),.idx,.loc 0,.attr 4,.lit (.int (1)),.bin .Sub,.call 2,.tup 2,.unp 2,.loc 0,.sattr 11,.loc 0,.sattr 12,.loc 12,.chk,.ite [.lit (.bool true),.loc 0,.sattr 13] [.loc 9,.chk,.ite [.lit (.raw (.builtin "min")),.loc 0,.attr 12,.lit (.int (1)),.bin .Add,.loc 0,.attr 4,.lit (.int (1)),.bin .Sub,.call 2,.loc 0,.sattr 12] [.loc 4,.lit (.int (2)),.idx,.chk,.ite [.loc 0,.mth 12,.call 1,.pop] []]]] []])) [.bool false]
    [some (.ref ct),some (.ref ll.a),some (.ref la),some (.int fst),some (.tup [.int crow,.int ccol,.bool cw]),some (.int L.length),some (.int ((ll.f + ll.g.1.length : Nat) : Int)),none,none,none,none,none,none,none,none,none,none,none,none] H
    (behind fun x H' => x = .none ∧ ∃ new fi' ro' co' wa',CtPut cols H H' ct li sp ll.c L u new fi' ro' co' wa' (spl.length + (ll.g.1.length + 1)) ∧
     (ll.f ≤ fst ∧ fst ≤ ll.f + ll.g.1.length → ∃ k,fi' = L.length + k ∧ (fst = ll.f → k = 0)) ∧ (¬ (ll.f ≤ fst ∧ fst ≤ ll.f + ll.g.1.length) → fi' = fi) ∧
     (ll.f ≤ crow ∧ crow ≤ ll.f + ll.g.1.length → ro' = L.length + (cut cols u).1.length ∧ co' = min (cellsOf (cut cols u).2).length (cols - 1) ∧ wa' = ((cellsOf (cut cols u).2).length == cols)) ∧
     (¬ (ll.f ≤ crow ∧ crow ≤ ll.f + ll.g.1.length) → ro' = ro ∧ co' = co ∧ wa' = wa)) := fun {_} => by
   walk_at "r"
   refine r_call2 ((sp_cut hcols lc huw ⟨by omega,by omega⟩).tu rfl) rfl ?_
   rintro _ H2 ⟨ps,pl,qs,places,rfl,C⟩
   refine r_unp2 (r_sto rfl (r_sto rfl ?_))
   simp only [List.set_cons_succ,List.set_cons_zero]
   refine Run.loc rfl (Run.chk (r_f rfl ?_))
   rw [List.cons_append,List.nil_append]
   refine Run.lit (r_sto rfl ?_)
   simp only [List.set_cons_succ,List.set_cons_zero]
   refine Run.loc rfl (Run.chk (r_f rfl ?_))
   rw [List.cons_append,List.nil_append]
   refine Run.lit (r_f rfl ?_)
   rw [List.nil_append]
   have plen : places.length = (cellsOf u).length := C.pk.len
   exact finish (off := 0) (fun y m z _ => C.ext _ _ z) ⟨_,C.ext _ _ lc⟩ ⟨C.hps,C.hpl,C.len,C.hqs⟩ (sepOf C hli os) rle rfl (by omega) (by omega) (pz C.pk rfl fun z => by rw [z]; rfl) ⟨fun z => Bool.noConfusion z,fun z => absurd z has⟩ fun z => Bool.noConfusion z
  by_cases q1 : ll.f ≤ crow
  ·refine r_t (decide_eq_true (by omega)) ?_
   rw [List.cons_append,List.cons_append,List.nil_append]
   refine Run.loc rfl (r_le ?_)
   rw [decide_eq_false (show ¬ (crow : Int) ≤ ((ll.f + ll.g.1.length : Nat) : Int) by omega)]
   exact nothas (ps' := 0)
  ·refine r_f (decide_eq_false (by omega)) ?_
   rw [List.cons_append,List.cons_append,List.nil_append]
   exact Run.pop (Run.lit (nothas (ps' := 0)))
end
def Gp.text (g : Gp) : List Cell := g.ps.flatten
def offG (G : List Gp) (i : Nat) : Nat := ((G.take i).flatMap linesG).length
theorem take_succ' {α : Type} {l : List α} {i : Nat} {x : α} (h : l[i]? = some x) : l.take (i + 1) = l.take i ++ [x] := by
 rw [List.take_add_one,h]; rfl
theorem offG_succ {G : List Gp} {i : Nat} {g : Gp} (h : G[i]? = some g) : offG G (i + 1) = offG G i + (g.1.length + 1) := by
 unfold offG
 rw [take_succ' h,List.flatMap_append,List.length_append]
 simp [linesG]
theorem offG_mono {G : List Gp} {i j : Nat} (h : i ≤ j) : offG G i ≤ offG G j := by
 induction j with
 | zero =>
  have : i = 0 := by omega
  subst this; exact Nat.le_refl _
 | succ j ih =>
  by_cases q : i = j + 1
  ·subst q; exact Nat.le_refl _
  ·refine Nat.le_trans (ih (by omega)) ?_
   cases hg : G[j]? with
   | none =>
    have := List.getElem?_eq_none_iff.mp hg
    unfold offG
    rw [List.take_of_length_le (by omega),List.take_of_length_le (by omega)]
    exact Nat.le_refl _
   | some g => rw [offG_succ hg]; omega
structure CurAt (G : List Gp) (gc : Nat) (g : Gp) (crow ccol : Nat) (cw : Bool) : Prop where
 at_ : G[gc]? = some g
 row : crow = offG G gc + g.1.length
 col : ccol + (if cw then 1 else 0) = (cellsOf g.2).length
theorem CurAt.only {G : List Gp} {gc : Nat} {g g' : Gp} {crow ccol : Nat} {cw : Bool} (h : CurAt G gc g crow ccol cw) {i : Nat} (hi : G[i]? = some g') (q : offG G i ≤ crow ∧ crow ≤ offG G i + g'.1.length) : i = gc := by
 have h1 := offG_succ hi
 have h2 := offG_succ h.at_
 have hr := h.row
 by_cases a : i < gc
 ·have := offG_mono (G := G) (show i + 1 ≤ gc by omega); omega
 ·by_cases b : gc < i
  ·have := offG_mono (G := G) (show gc + 1 ≤ i by omega); omega
  ·omega
def newV (cols : Nat) (G : List Gp) (i : Nat) : List (List Cell × Bool) := (G.take i).flatMap fun g => viewG cols (cut cols g.text)
theorem newV_succ {cols : Nat} {G : List Gp} {i : Nat} {g : Gp} (h : G[i]? = some g) : newV cols G (i + 1) = newV cols G i ++ viewG cols (cut cols g.text) := by
 unfold newV
 rw [take_succ' h,List.flatMap_append]; simp
structure CutD (cols : Nat) (H H' : Hp) (ct li sp : Nat) (L : List Ln) (V' : List (List Cell × Bool)) (fi ro co : Nat) (wa : Bool) : Prop where
 o : H' ct = some (.inst 644 (ctF cols li fi ro co wa sp))
 hli : H' li = some (.list (refs L))
 hsp : ∃ spl,H' sp = some (.list spl) ∧ spl.length ≤ 3000
 view : L.map (fun l => (l.cells,l.wr)) = V'
 at_ : ∀ l ∈ L,LnAt H' l
 fr : ∀ l ∈ L,H l.a = none ∧ H l.c = none
 sep : ∀ l ∈ L,l.c ≠ li ∧ l.c ≠ sp
 nda : (L.map (·.a)).Nodup
 ndc : (L.map (·.c)).Nodup
 f0 : H li = none ∧ H sp = none
 ne : li ≠ sp
section
variable {W : Wx} {H : Hp}
theorem sp_ct_init {la cols c0 ct fst gc crow ccol : Nat} {cw : Bool} {gg : Gp} {ls : List Ln} {G : List Gp} (hc0 : 2 ≤ c0 ∧ c0 ≤ 7) (hcols : 2 ≤ cols ∧ cols ≤ 7) (hv : ls.map (fun l => (l.cells,l.wr)) = (G.flatMap linesG).map (fun q => padP c0 (cellsOf q.1,q.2))) (ok : PsOk c0 (G.flatMap linesG)) (hn : ls.length ≤ 100) (htx : ∀ g ∈ G,g.text.length ≤ 100) (hnew : ∀ i,(newV cols G i).length ≤ 400)
  (hcur : CurAt G gc gg crow ccol cw) (e : H la = some (.list (refs ls))) (hL : ∀ l ∈ ls,LnAt H l) (oct : H ct = some (.inst 644 [])) :
  CallW W 8 (.ref 606) [.ref ct,.ref la,.int cols,.int fst,.tup [.int crow,.int ccol,.bool cw]] H fun x H' => x = .none ∧ ∃ li sp L fi ro co wa,CutD cols H H' ct li sp L (newV cols G G.length) fi ro co wa ∧ (fst = 0 → fi = 0) ∧
   ro = (newV cols G gc).length + (cut cols gg.text).1.length ∧ co = min (cellsOf (cut cols gg.text).2).length (cols - 1) ∧ wa = ((cellsOf (cut cols gg.text).2).length == cols) ∧ ∀ y m,y ≠ ct → H y = some m → H' y = some m := by
 refine in_606 _ _ _ _ _ ?_
 unfold cd_606
 walk_at "r"
 refine r_sattr oct rfl rfl ?_
 refine r_lst0 fun li fli => ?_
 have l0 : li ≠ ct := fun z => by rw [z,setF_same] at fli; cases fli
 have l1 : H li = none := by rw [setF_ne l0] at fli; exact fli
 walk_at "r"
 refine r_sattr (at_ne setF_same l0.symm) rfl rfl ?_
 walk_at "r"
 refine r_sattr setF_same rfl rfl ?_
 walk_at "r"
 refine r_sattr setF_same rfl rfl ?_
 walk_at "r"
 refine r_sattr setF_same rfl rfl ?_
 walk_at "r"
 refine r_sattr setF_same rfl rfl ?_
 rw [setF_setF,setF_setF,setF_setF,setF_setF]
 refine r_lst0 fun sp fsp => ?_
 have s0 : sp ≠ ct := fun z => by rw [z,setF_same] at fsp; cases fsp
 have s1 : sp ≠ li := fun z => by rw [z,setF_ne l0,setF_same] at fsp; cases fsp
 have s2 : H sp = none := by rw [setF_ne s0,setF_ne s1,setF_ne s0] at fsp; exact fsp
 walk_at "r"
 refine r_sattr (at_ne setF_same s0.symm) rfl rfl ?_
 generalize hH1 : setF (setF (setF (setF (setF H ct _) li _) ct _) sp _) ct _ = H1
 have b1 : H1 ct = some (.inst 644 (ctF cols li 0 0 0 false sp)) := by rw [← hH1]; exact setF_same
 have b2 : H1 li = some (.list []) := by rw [← hH1]; exact at_ne (at_ne (at_ne setF_same l0) s1.symm) l0
 have b3 : H1 sp = some (.list []) := by rw [← hH1]; exact at_ne setF_same s0
 have kp1 : ∀ y m,y ≠ ct → H y = some m → H1 y = some m := fun y m q z => by
  rw [← hH1]; exact at_ne (at_ne (at_ne (at_ne (at_ne z q) (ne_new z l1)) q) (ne_new z s2)) q
 have bk1 : ∀ y,H1 y = none → H y = none := fun y z => by
  cases h : H y with
  | none => rfl
  | some m =>
   by_cases q : y = ct
   ·rw [q,b1] at z; cases z
   ·rw [kp1 _ _ q h] at z; cases z
 clear hH1
 have e1 := kp1 _ _ (ne_kd e oct rfl) e
 have hL1 : ∀ l ∈ ls,LnAt H1 l := fun l hl => ⟨kp1 _ _ (ne_kd (hL l hl).o oct rfl) (hL l hl).o,kp1 _ _ (ne_kd (hL l hl).cs oct rfl) (hL l hl).cs⟩
 walk_at "r"
 refine r_call1 ((sp_logical hc0 hv ok (by omega) e1 hL1).tu rfl) rfl ?_
 rintro _ H2 ⟨fo,lls,rfl,ffo,hfo,LL2,E2⟩
 have lenls : ls.length = (G.flatMap linesG).length := by have := congrArg List.length hv; simpa using this
 have llG : lls.length = G.length := by rw [← LL2.g]; simp
 have lG : G.length ≤ 100 := by have := len_flat G; omega
 let Jn : Nat → Ro → Hp → Prop := fun i ρ H' => ∃ x5 L fi ro co wa spl,ρ = [some (.ref ct),some (.ref la),some (.int cols),some (.int fst),some (.tup [.int crow,.int ccol,.bool cw]),x5] ∧ H' ct = some (.inst 644 (ctF cols li fi ro co wa sp)) ∧ H' li = some (.list (refs L)) ∧ H' sp = some (.list spl) ∧ spl.length ≤ offG G i ∧
  L.map (fun l => (l.cells,l.wr)) = newV cols G i ∧ (∀ l ∈ L,LnAt H' l ∧ H2 l.a = none ∧ H2 l.c = none ∧ l.c ≠ li ∧ l.c ≠ sp) ∧ (L.map (·.a)).Nodup ∧ (L.map (·.c)).Nodup ∧ H' fo = some (.list (lrefs lls)) ∧ (∀ j ll,i ≤ j → lls[j]? = some ll → LLAt H' ll) ∧ (∀ y m,H1 y = some m → y ≠ ct → y ≠ li → y ≠ sp → H' y = some m) ∧ (∀ y m,H2 y = some m → y ≠ ct → y ≠ li → y ≠ sp → (∀ ll ∈ lls,y ≠ ll.c) → H' y = some m) ∧ (∀ ll ∈ lls,∃ m,H' ll.c = some m) ∧
  (fst = 0 → fi = 0) ∧ (i ≤ gc → wa = false) ∧ (gc < i → ro = (newV cols G gc).length + (cut cols gg.text).1.length ∧ co = min (cellsOf (cut cols gg.text).2).length (cols - 1) ∧ wa = ((cellsOf (cut cols gg.text).2).length == cols))
 have sepLL : ∀ ll ∈ lls,ll.b ≠ li ∧ ll.b ≠ sp ∧ ll.c ≠ li ∧ ll.c ≠ sp := fun ll h => by
  obtain ⟨_,f2,f3⟩ := LL2.fr ll h
  exact ⟨(ne_new b2 f2).symm,(ne_new b3 f2).symm,(ne_new b2 f3).symm,(ne_new b3 f3).symm⟩
 refine Run.fr (l := lrefs lls) (args := [.ref fo]) (J := Jn) (Z := fun _ _ => False) rfl rfl ⟨none,[],0,0,0,false,[],rfl,E2 _ _ b1,E2 _ _ b2,E2 _ _ b3,Nat.zero_le _,rfl,by simp,by simp,by simp,hfo,fun j ll _ h => LL2.at_ ll (List.mem_of_getElem? h),fun y m z _ _ _ => E2 _ _ z,fun y m z _ _ _ _ => z,fun ll h => ⟨_,(LL2.at_ ll h).c⟩,fun _ => rfl,fun _ => rfl,fun z => absurd z (Nat.not_lt_zero _)⟩ (fun i ρ H' _ hj => ?_) ?_ ?_ (fun _ _ z => z.elim)
 ·obtain ⟨_,_,_,_,_,_,_,_,_,_,_,_,_,_,_,_,h,_⟩ := hj
  exact h
 ·rintro i x ρ H3 hx ⟨x5,L,fi,ro,co,wa,spl,rfl,o3,li3,sp3,spn,hview,hLn,hda,hdc,fo3,hll,kp3,kp4,hcs,hfi,hwa,hdone⟩
  obtain ⟨ll,hlli⟩ : ∃ ll,lls[i]? = some ll := by
   have := (List.getElem?_eq_some_iff.mp hx).1
   exact ⟨_,List.getElem?_eq_getElem (by simpa [lrefs] using this)⟩
  have hgi : G[i]? = some ll.g := by rw [← LL2.g,List.getElem?_map,hlli]; rfl
  have : x = .ref ll.a := by unfold lrefs at hx; rw [List.getElem?_map,hlli] at hx; exact (Option.some.inj hx).symm
  subst this
  have llm := List.mem_of_getElem? hlli
  have hA := hll i ll (Nat.le_refl _) hlli
  obtain ⟨q1,q2,q3,q4⟩ := sepLL ll llm
  have hf : ll.f = offG G i := LL2.f i ll hlli
  have gm : ll.g ∈ G := List.mem_of_getElem? hgi
  have tx := htx _ gm
  have off1 := offG_succ hgi
  have offn : offG G (i + 1) ≤ 100 := by
   have : offG G (i + 1) ≤ offG G G.length := offG_mono (by have := (List.getElem?_eq_some_iff.mp hgi).1; omega)
   have e3 : offG G G.length = ls.length := by unfold offG; rw [List.take_length,lenls]
   omega
  have hsg : ∀ c ∈ ll.g.ps.flatten,Sg c := fun c hc => by
   obtain ⟨p,hp,hc⟩ := List.mem_flatten.mp hc
   have : ∃ w,(p,w) ∈ G.flatMap linesG := by
    unfold Gp.ps at hp
    rcases List.mem_append.mp hp with hp | hp
    ·exact ⟨true,List.mem_flatMap.mpr ⟨ll.g,gm,by unfold linesG; exact List.mem_append_left _ (List.mem_map.mpr ⟨p,hp,rfl⟩)⟩⟩
    ·exact ⟨false,List.mem_flatMap.mpr ⟨ll.g,gm,by unfold linesG; exact List.mem_append_right _ (by rw [List.mem_singleton.mp hp]; simp)⟩⟩
   obtain ⟨w,hw⟩ := this
   exact ok.sg _ hw c hc
  have clen : ∀ (t : List Cell),(∀ c ∈ t,Sg c) → (cellsOf t).length ≤ 2 * t.length := by
   intro t ht
   induction t with
   | nil => simp [cellsOf]
   | cons c t ih =>
    have h1 := ih fun y hy => ht y (by simp [hy])
    have h2 := sgc_len (ht c (by simp))
    have h3 := (ht c (by simp)).1
    unfold cellsOf at h1 ⊢
    rw [List.flatMap_cons,List.length_append,List.length_cons,h2]
    rcases h3 with h3 | h3 <;> omega
  have Llen : L.length ≤ 400 := by have := congrArg List.length hview; rw [List.length_map] at this; rw [this]; exact hnew i
  have cu := clen _ hsg
  have crow9 : crow ≤ 900 := by
   have h1 := hcur.row
   have h2 := offG_succ hcur.at_
   have : offG G (gc + 1) ≤ offG G G.length := offG_mono (by have := (List.getElem?_eq_some_iff.mp hcur.at_).1; omega)
   have e3 : offG G G.length = ls.length := by unfold offG; rw [List.take_length,lenls]
   omega
  have o3' := o3
  unfold ctF at o3'
  walk_at "c"
  refine r_call5 ((sp_ctput (W := W) hcols o3 li3 sp3 hA hsg q1 q2 q3 q4 (LL2.ne ll llm).2.2 s1.symm ⟨tx,by unfold Gp.text at tx; omega,by omega,by omega,by omega,by omega,crow9⟩ (fun q => by
   rw [hf] at q ⊢
   have := hcur.only hgi q
   subst this
   have : gg = ll.g := Option.some.inj (hcur.at_.symm.trans hgi)
   subst this
   exact ⟨hcur.row,hcur.col,hwa (Nat.le_refl _)⟩)).tu rfl) rfl ?_
  rintro _ H4 ⟨rfl,new,fi',ro',co',wa',P,hf1,hf2,hc1,hc2⟩
  walk_at "r"
  rw [hf] at hf1 hf2 hc1 hc2
  have Lne : ∀ l ∈ L,∀ ll' ∈ lls,l.c ≠ ll'.c := fun l hl ll' hl' => (ne_new (LL2.at_ ll' hl').c (hLn l hl).2.2.1).symm
  have bk3 : ∀ y,H3 y = none → H2 y = none := fun y z => by
   cases h : H2 y with
   | none => rfl
   | some m =>
    by_cases q1 : y = ct
    ·rw [q1,o3] at z; cases z
    ·by_cases q2 : y = li
     ·rw [q2,li3] at z; cases z
     ·by_cases q3 : y = sp
      ·rw [q3,sp3] at z; cases z
      ·by_cases q4 : ∃ ll' ∈ lls,y = ll'.c
       ·obtain ⟨ll',h1,h2⟩ := q4
        obtain ⟨m',hm'⟩ := hcs ll' h1
        rw [h2,hm'] at z; cases z
       ·rw [kp4 _ _ h q1 q2 q3 fun ll' h1 h2 => q4 ⟨ll',h1,h2⟩] at z; cases z
  have oldL : ∀ l ∈ L,LnAt H4 l := fun l hl => by
   obtain ⟨h1,h2,h3,h4,h5⟩ := hLn l hl
   exact ⟨P.kp _ _ h1.o (ne_kd h1.o o3 rfl) (ne_kd h1.o li3 rfl) (ne_kd h1.o sp3 rfl) (ne_kd h1.o hA.c rfl),P.kp _ _ h1.cs (ne_kd h1.cs o3 rfl) h4 h5 (Lne l hl ll llm)⟩
  obtain ⟨spl',hs1,hs2⟩ := P.hsp
  refine Run.nil ⟨_,L ++ new,fi',ro',co',wa',spl',rfl,P.o,P.hli,hs1,by omega,by rw [List.map_append,hview,P.view,newV_succ hgi]; rfl,fun l hl => ?_,?_,?_,P.kp _ _ fo3 (ne_kd fo3 o3 rfl) (ne_new b2 ffo).symm (ne_new b3 ffo).symm (LL2.ne ll llm).2.1.symm,fun j ll' hj hj' => ?_,fun y m z r1 r2 r3 => ?_,fun y m z r1 r2 r3 r4 => P.kp _ _ (kp4 _ _ z r1 r2 r3 r4) r1 r2 r3 (r4 ll llm),fun ll' h => ?_,fun z => ?_,fun z => ?_,fun z => ?_⟩
  ·rcases List.mem_append.mp hl with hl | hl
   ·exact ⟨oldL l hl,(hLn l hl).2⟩
   ·obtain ⟨g1,g2⟩ := P.fr l hl
    exact ⟨P.at_ l hl,bk3 _ g1,bk3 _ g2,(ne_new li3 g2).symm,(ne_new sp3 g2).symm⟩
  ·rw [List.map_append,List.nodup_append]
   refine ⟨hda,P.nda,fun y hy z hz => ?_⟩
   obtain ⟨l,hl,rfl⟩ := List.mem_map.mp hy
   obtain ⟨l',hl',rfl⟩ := List.mem_map.mp hz
   exact ne_new (hLn l hl).1.o (P.fr l' hl').1
  ·rw [List.map_append,List.nodup_append]
   refine ⟨hdc,P.ndc,fun y hy z hz => ?_⟩
   obtain ⟨l,hl,rfl⟩ := List.mem_map.mp hy
   obtain ⟨l',hl',rfl⟩ := List.mem_map.mp hz
   exact ne_new (hLn l hl).1.cs (P.fr l' hl').2
  ·have h1 := hll j ll' (by omega) hj'
   have hm' := List.mem_of_getElem? hj'
   obtain ⟨r1,r2,r3,r4⟩ := sepLL ll' hm'
   have cc : ll'.c ≠ ll.c := ndup_ne (f := fun l : LL => l.c) LL2.ndc hj' hlli (by omega)
   exact ⟨P.kp _ _ h1.o (ne_kd h1.o o3 rfl) (ne_kd h1.o li3 rfl) (ne_kd h1.o sp3 rfl) (ne_kd h1.o hA.c rfl),P.kp _ _ h1.b (ne_kd h1.b o3 rfl) r1 r2 (LL2.nbc ll' hm' ll llm),P.kp _ _ h1.c (ne_kd h1.c o3 rfl) r3 r4 cc⟩
  ·exact P.kp _ _ (kp3 _ _ z r1 r2 r3) r1 r2 r3 (ne_new z (LL2.fr ll llm).2.2)
  ·by_cases q : ll'.c = ll.c
   ·rw [q]; exact P.hc
   ·obtain ⟨m,hm⟩ := hcs ll' h
    obtain ⟨_,_,r3,r4⟩ := sepLL ll' h
    exact ⟨m,P.kp _ _ hm (ne_kd (LL2.at_ ll' h).c (E2 _ _ b1) rfl) r3 r4 q⟩
  ·by_cases q : offG G i ≤ fst ∧ fst ≤ offG G i + ll.g.1.length
   ·obtain ⟨k,e3,e4⟩ := hf1 q
    have f0 : offG G i = 0 := by omega
    have i0 : i = 0 := by
     cases i with
     | zero => rfl
     | succ i =>
      obtain ⟨g',hg'⟩ : ∃ g',G[i]? = some g' := ⟨_,List.getElem?_eq_getElem (by have := (List.getElem?_eq_some_iff.mp hgi).1; omega)⟩
      have := offG_succ hg'
      omega
    subst i0
    have : L = [] := by
     have := congrArg List.length hview
     simp [newV] at this; exact this
    rw [e3,this,e4 (by omega)]; rfl
   ·rw [hf2 q]; exact hfi z
  ·have : ¬ (offG G i ≤ crow ∧ crow ≤ offG G i + ll.g.1.length) := fun q => by have := hcur.only hgi q; omega
   rw [(hc2 this).2.2]; exact hwa (by omega)
  ·by_cases q : offG G i ≤ crow ∧ crow ≤ offG G i + ll.g.1.length
   ·have := hcur.only hgi q
    subst this
    have : gg = ll.g := Option.some.inj (hcur.at_.symm.trans hgi)
    subst this
    have h1 := hc1 q
    have := congrArg List.length hview
    rw [List.length_map] at this
    rw [← this]; exact h1
   ·have hne : i ≠ gc := fun z2 => q (by
     subst z2
     have : gg = ll.g := Option.some.inj (hcur.at_.symm.trans hgi)
     have := hcur.row
     subst gg
     omega)
    obtain ⟨h1,h2,h3⟩ := hc2 q
    rw [h1,h2,h3]; exact hdone (by omega)
 ·rintro ρ H3 ⟨x5,L,fi,ro,co,wa,spl,rfl,o3,li3,sp3,spn,hview,hLn,hda,hdc,fo3,hll,kp3,kp4,hcs,hfi,hwa,hdone⟩
  have e5 : (lrefs lls).length = G.length := by simp [lrefs,llG]
  rw [e5] at spn hview hdone
  have gcl := (List.getElem?_eq_some_iff.mp hcur.at_).1
  have offn : offG G G.length ≤ 100 := by unfold offG; rw [List.take_length,← lenls]; omega
  exact Run.nil ⟨rfl,li,sp,L,fi,ro,co,wa,⟨o3,li3,⟨spl,sp3,by omega⟩,hview,fun l hl => (hLn l hl).1,fun l hl => ⟨bk1 _ (back E2 (hLn l hl).2.1),bk1 _ (back E2 (hLn l hl).2.2.1)⟩,fun l hl => (hLn l hl).2.2.2,hda,hdc,⟨l1,s2⟩,s1.symm⟩,hfi,(hdone gcl).1,(hdone gcl).2.1,(hdone gcl).2.2,fun y m q z => kp3 _ _ (kp1 _ _ q z) q (ne_new z l1) (ne_new z s2)⟩
end
section
variable {W : Wx} {H : Hp}
theorem sp_give {ct li sp cols fi ro co rows : Nat} {wa : Bool} {L : List Ln} (o : H ct = some (.inst 644 (ctF cols li fi ro co wa sp))) (hli : H li = some (.list (refs L))) (hL : ∀ l ∈ L,LnAt H l) (hsep : ∀ l ∈ L,l.c ≠ li) (hb : ∀ j l,ro < j → L[j]? = some l → l.wr = false ∧ ∃ k,k ≤ 7 ∧ l.cells = List.replicate k blank) (hro : ro + 1 ≤ L.length) (hn : L.length ≤ 500) :
  CallW W 3 (.ref 634) [.ref ct,.int rows] H fun x H' => x = .none ∧ ∃ n,ro + 1 ≤ n ∧ n ≤ L.length ∧ (n ≤ fi + rows ∨ n = ro + 1) ∧ (n < L.length → fi + rows ≤ n) ∧ H' li = some (.list (refs (L.take n))) ∧ ∀ y m,y ≠ li → H y = some m → H' y = some m := by
 refine in_634 _ _ ?_
 unfold cd_634
 let St : Nat → Hp → Prop := fun n H' => ro + 1 ≤ n ∧ n ≤ L.length ∧ (n < L.length → fi + rows ≤ n) ∧ H' li = some (.list (refs (L.take n))) ∧ ∀ y m,y ≠ li → H y = some m → H' y = some m
 refine Run.whl (J := fun n ρ H' => (∃ x2,ρ = [some (.ref ct),some (.int rows),x2]) ∧ St n H') (B := fun n ρ H' => (∃ x2,ρ = [some (.ref ct),some (.int rows),x2]) ∧ St n H' ∧ fi + rows < n ∧ ro + 1 < n)
  (N := fun ρ H' => ∃ n,St n H' ∧ (n ≤ fi + rows ∨ n = ro + 1)) (Z := fun _ _ => False) L.length ⟨⟨none,rfl⟩,hro,Nat.le_refl _,fun z => absurd z (Nat.lt_irrefl _),by rw [List.take_length]; exact hli,fun _ _ _ h => h⟩ ?_ ?_ ?_ (fun _ _ z => z.elim)
 ·rintro n ρ H1 ⟨⟨x2,rfl⟩,h1,h2,h3,h4,h5⟩
  have o1 := h5 _ _ (ne_kd o hli rfl) o
  have len : (refs (L.take n)).length = n := by simp [refs]; omega
  unfold ctF at o1
  walk_at "r"
  rw [len]
  by_cases q : fi + rows < n
  ·refine r_t (decide_eq_true (by omega)) ?_
   walk_at "c"
   rw [len]
   by_cases q2 : ro + 1 < n
   ·rw [decide_eq_true (by omega)]
    exact Run.nil ⟨rfl,⟨x2,rfl⟩,⟨h1,h2,h3,h4,h5⟩,q,q2⟩
   ·rw [decide_eq_false (by omega)]
    exact Run.nil ⟨rfl,n,⟨h1,h2,h3,h4,h5⟩,.inr (by omega)⟩
  ·refine r_f (decide_eq_false (by omega)) ?_
   walk_at "c"
   exact Run.nil ⟨rfl,n,⟨h1,h2,h3,h4,h5⟩,.inl (by omega)⟩
 ·rintro n ρ H1 ⟨⟨x2,rfl⟩,⟨h1,h2,h3,h4,h5⟩,q1,q2⟩
  have o1 := h5 _ _ (ne_kd o hli rfl) o
  have len : (refs (L.take n)).length = n := by simp [refs]; omega
  obtain ⟨l,hl⟩ : ∃ l,L[n - 1]? = some l := ⟨_,List.getElem?_eq_getElem (by omega)⟩
  obtain ⟨w,k,hk,cs⟩ := hb (n - 1) l (by omega) hl
  have lm := List.mem_of_getElem? hl
  have lo := h5 _ _ (ne_kd (hL l lm).o hli rfl) (hL l lm).o
  have lc := h5 _ _ (hsep l lm) (hL l lm).cs
  have ts : refs (L.take n) = refs (L.take (n - 1)) ++ [V.ref l.a] := by
   rw [show n = (n - 1) + 1 by omega,take_succ' hl,refs_app]; rfl
  rw [w] at lo
  rw [cs] at lc
  unfold lf at lo
  unfold ctF at o1
  walk_at "r"
  refine r_idx h4 (by decide) (x := .ref l.a) (by
   unfold at?
   rw [if_pos (by omega),if_pos (by omega),len,show ((-1 : Int) + (n : Nat)).toNat = n - 1 by omega,ts,List.getElem?_append_right (by simp [refs]; omega),show n - 1 - (refs (L.take (n - 1))).length = 0 by simp [refs]; omega]
   rfl) ?_
  walk_at "r"
  refine r_call1 ((sp_used (p := []) (k := k) (by rw [List.nil_append]; exact lc) (by simp; omega) (by intro t c z; simp at z)).tu rfl) rfl ?_
  rintro _ H2 ⟨c,rfl,f2,g2,E2⟩
  refine r_lst0E fun c3 H3 f3 g3 E3 => ?_
  refine r_neD (n := 2) (m := 2) (.list (E3 _ _ g2) .nil) (.list g3 .nil) (by omega) (by omega) (b := false) (by decide +kernel) ?_
  have o3 := E3 _ _ (E2 _ _ o1)
  have l3 := E3 _ _ (E2 _ _ h4)
  walk_at "r"
  refine r_mpop l3 ?_
  rw [ts] at l3
  refine r_pop l3 (by simp [refs]; omega) ?_
  walk_at "r"
  exact Run.nil ⟨n - 1,by omega,⟨_,rfl⟩,by omega,by omega,fun _ => by omega,setF_same,fun y m z hm => at_ne (E3 _ _ (E2 _ _ (h5 y m z hm))) z⟩
 ·rintro ρ H1 ⟨n,⟨h1,h2,h3,h4,h5⟩,q⟩
  exact Run.nil ⟨rfl,n,h1,h2,q,h3,h4,h5⟩
theorem sp_top {ct li sp cols fi ro co rows : Nat} {wa : Bool} {L : List Ln} (o : H ct = some (.inst 644 (ctF cols li fi ro co wa sp))) (hli : H li = some (.list (refs L))) (hn : L.length ≤ 500) :
  CallW W 1 (.ref 641) [.ref ct,.int rows] H (is (.int (if fi + rows < L.length then min ((L.length : Int) - rows) ro else max 0 (min (fi : Int) ((L.length : Int) - rows)))) H) := by
 refine in_641 _ _ ?_
 unfold cd_641
 have len : (refs L).length = L.length := by simp [refs]
 unfold ctF at o
 walk_at "r"
 rw [len]
 by_cases q : fi + rows < L.length
 ·refine r_t (decide_eq_true (by omega)) ?_
  walk_at "c"
  rw [len,if_pos q]
  exact Run.ret ⟨rfl,rfl⟩
 ·refine r_f (decide_eq_false (by omega)) ?_
  walk_at "c"
  rw [len,if_neg q]
  exact Run.ret ⟨rfl,rfl⟩
theorem top_val {fi ro rows n : Nat} (hr : 1 ≤ rows) (h1 : ro + 1 ≤ n) (h2 : n ≤ fi + rows ∨ n = ro + 1) (h3 : ro + 1 < n → fi = 0) : (if fi + rows < n then min ((n : Int) - rows) ro else max 0 (min (fi : Int) ((n : Int) - rows))) = ((ro + 1 - rows : Nat) : Int) ∧ n ≤ (ro + 1 - rows) + rows := by
 by_cases q : fi + rows < n
 ·rw [if_pos q]; omega
 ·rw [if_neg q]
  by_cases q2 : ro + 1 < n
  ·have := h3 q2; omega
  ·omega
end
structure NewL0 (n cols : Nat) (H : Hp) (ls : List Ln) (H' : Hp) : Prop where
 len : ls.length = n
 at_ : ∀ l ∈ ls,LnAt H' l
 fr : ∀ l ∈ ls,H l.a = none ∧ H l.c = none
 cs : ∀ l ∈ ls,l.cells = List.replicate cols blank ∧ l.wr = false
 nda : (ls.map (·.a)).Nodup
 ndc : (ls.map (·.c)).Nodup
section
variable {W : Wx} {H : Hp}
theorem sp_Grid_init {g : Nat} (rows cols : Nat) (hr : 1 ≤ rows ∧ rows ≤ 7) (hc : 1 ≤ cols ∧ cols ≤ 7) (e : H g = some (.inst 396 [])) : CallW W 6 (.ref 267) [.ref g,.int rows,.int cols] H fun x H' => x = .none ∧ ∃ gl ls,H gl = none ∧ H' g = some (.inst 396 [(3,.int rows),(4,.int cols),(5,.ref gl)]) ∧ H' gl = some (.list (refs ls)) ∧ NewL0 rows cols H ls H' ∧ (∀ l ∈ ls,l.c ≠ gl) ∧ ∀ y m,y ≠ g → H y = some m → H' y = some m := by
 refine in_267 _ _ _ ?_
 unfold cd_267
 walk_at "r"
 refine r_f (decide_eq_false (by omega)) ?_
 walk_at "c"
 refine r_f (decide_eq_false (by omega)) ?_
 walk_at "c"
 refine r_sattr e rfl rfl ?_
 walk_at "r"
 refine r_sattr setF_same rfl rfl ?_
 rw [setF_setF]
 have eq0 : setF H g (.inst 396 (putF 4 (.int cols) (putF 3 (.int rows) []))) = setF H g (.inst 396 [(3,.int rows),(4,.int cols)]) := rfl
 rw [eq0]
 have e1 : setF H g (.inst 396 [(3,.int rows),(4,.int cols)]) g = some (.inst 396 [(3,.int rows),(4,.int cols)]) := setF_same
 have kp1 : ∀ y m,y ≠ g → H y = some m → setF H g (.inst 396 [(3,.int rows),(4,.int cols)]) y = some m := fun y m q z => at_ne z q
 have bk1 : ∀ y,setF H g (.inst 396 [(3,.int rows),(4,.int cols)]) y = none → H y = none := fun y z => by
  unfold setF at z
  split at z
  ·cases z
  ·exact z
 generalize setF H g (.inst 396 [(3,.int rows),(4,.int cols)]) = H1 at *
 refine Run.has (by intro j hj; simp at hj; subst hj; exact ⟨_,rfl⟩) ?_
 walk_at "r"
 refine Run.lc (l := (List.range rows).map fun (i : Nat) => V.int (i : Int)) (J := fun i acc H' => ∃ ls,acc = refs ls ∧ NewLns i cols H1 ls H') (args := [.int rows]) rfl rfl ⟨[],rfl,.nil⟩ (fun i acc H' _ _ => ⟨by omega,by omega,by simp⟩) (by simp; omega) (fun i x acc H' hx hac hj => ?_) (fun acc H' hac hj a ha => ?_)
 ·obtain ⟨ls,rfl,hN⟩ := hj
  have hi : i < rows := by
   by_cases q : i < rows
   ·exact q
   ·rw [List.getElem?_eq_none (by simp; omega)] at hx; cases hx
  rw [List.getElem?_map,List.getElem?_range hi] at hx
  cases hx
  show Run W 5 _ [.int i] [none,some (.int cols)] H' _
  walk_at "c"
  refine r_call2 ((sp_newLine cols 0 (by omega)).tu rfl) rfl ?_
  rintro _ H2 ⟨l,rfl,f1,f2,hl,hcs,hw,hE⟩
  exact Run.nil ⟨ls ++ [l],by rw [refs_app]; rfl,hN.snoc f1 f2 hl hcs hw hE⟩
 ·obtain ⟨ls,rfl,hN⟩ := hj
  rw [List.length_map,List.length_range] at hN
  have o2 := hN.ext _ _ e1
  have ha0 : H1 a = none := back hN.ext ha
  have ag : a ≠ g := (ne_new e1 ha0).symm
  walk_at "r"
  refine r_sattr (at_ne o2 ag.symm) rfl rfl ?_
  have N2 := hN.ext' (Ext.new (m := .list (refs ls)) ha)
  have gn : ∀ {y m},setF H' a (.list (refs ls)) y = some m → y ≠ g → setF (setF H' a (.list (refs ls))) g (.inst 396 (putF 5 (.ref a) [(3,.int rows),(4,.int cols)])) y = some m := fun z q => at_ne z q
  refine Run.nil ⟨rfl,a,ls,bk1 _ ha0,setF_same,gn setF_same ag,⟨N2.len,fun l hl => ?_,fun l hl => ⟨bk1 _ (N2.fr l hl).1,bk1 _ (N2.fr l hl).2⟩,N2.cs,N2.nda,N2.ndc⟩,fun l hl => ne_new (hN.at_ l hl).cs ha,fun y m q z => gn (N2.ext _ _ (kp1 _ _ q z)) q⟩
  obtain ⟨f1,f2⟩ := N2.fr l hl
  exact ⟨gn (N2.at_ l hl).o (ne_new e1 f1).symm,gn (N2.at_ l hl).cs (ne_new e1 f2).symm⟩
theorem sp_newGrid (rows cols : Nat) (hr : 1 ≤ rows ∧ rows ≤ 7) (hc : 1 ≤ cols ∧ cols ≤ 7) : CallW W 7 (.ref 396) [.int rows,.int cols] H fun x H' => ∃ g gl ls,x = .ref g ∧ H g = none ∧ H gl = none ∧ H' g = some (.inst 396 [(3,.int rows),(4,.int cols),(5,.ref gl)]) ∧ H' gl = some (.list (refs ls)) ∧ NewL0 rows cols H ls H' ∧ (∀ l ∈ ls,l.c ≠ gl) ∧ Ext H H' := by
 refine call_cls (f := 267) (by decide) fun g hg => (sp_Grid_init rows cols hr hc setF_same).mono ?_
 rintro _ H' ⟨rfl,gl,ls,f1,o,l,N,ng,k⟩
 have bk : ∀ y,setF H g (.inst 396 []) y = none → H y = none := fun y z => by
  unfold setF at z
  split at z
  ·cases z
  ·exact z
 exact ⟨rfl,g,gl,ls,rfl,hg,bk _ f1,o,l,⟨N.len,N.at_,fun l hl => ⟨bk _ (N.fr l hl).1,bk _ (N.fr l hl).2⟩,N.cs,N.nda,N.ndc⟩,ng,fun y m z => k _ _ (ne_new z hg) (Ext.new hg _ _ z)⟩
theorem sp_Hist_init {h : Nat} (n : Nat) (e : H h = some (.inst 478 [])) : CallW W 1 (.ref 428) [.ref h,.int n] H fun x H' => x = .none ∧ ∃ hl,H hl = none ∧ H' h = some (.inst 478 [(6,.int n),(5,.ref hl),(7,.int 0)]) ∧ H' hl = some (.list []) ∧ ∀ y m,y ≠ h → H y = some m → H' y = some m := by
 refine in_428 _ _ ?_
 unfold cd_428
 walk_at "r"
 refine r_sattr e rfl rfl ?_
 refine r_lst0 fun hl fhl => ?_
 have n0 : hl ≠ h := fun z => by rw [z,setF_same] at fhl; cases fhl
 rw [setF_ne n0] at fhl
 walk_at "r"
 refine r_sattr (at_ne setF_same n0.symm) rfl rfl ?_
 walk_at "r"
 refine r_sattr setF_same rfl rfl ?_
 rw [setF_setF]
 exact Run.nil ⟨rfl,hl,fhl,setF_same,at_ne setF_same n0,fun y m q z => at_ne (at_ne (at_ne z q) (ne_new z fhl)) q⟩
theorem sp_newHist (n : Nat) : CallW W 2 (.ref 478) [.int n] H fun x H' => ∃ h hl,x = .ref h ∧ H h = none ∧ H hl = none ∧ H' h = some (.inst 478 [(6,.int n),(5,.ref hl),(7,.int 0)]) ∧ H' hl = some (.list []) ∧ Ext H H' := by
 refine call_cls (f := 428) (by decide) fun h hh => (sp_Hist_init n setF_same).mono ?_
 rintro _ H' ⟨rfl,hl,f1,o,l,k⟩
 have n0 : hl ≠ h := fun z => by rw [z,setF_same] at f1; cases f1
 rw [setF_ne n0] at f1
 exact ⟨rfl,h,hl,rfl,hh,f1,o,l,fun y m z => k _ _ (ne_new z hh) (Ext.new hh _ _ z)⟩
end
structure LayAt (s : Scr) (G : List Gp) (gc : Nat) (gg : Gp) : Prop where
 lv : s.lv = (G.flatMap linesG).map (fun q => padP s.cols (cellsOf q.1,q.2))
 ok : PsOk s.cols (G.flatMap linesG)
 tx : ∀ g ∈ G,g.text.length ≤ 100
 cur : CurAt G gc gg (s.hist.length + s.row) s.col s.wait
 rest : ∀ j g,gc < j → G[j]? = some g → g = ([],[])
 bl : gc + 1 < G.length → s.hist.length = 0
 hn : s.all.length ≤ 100
 new : ∀ cols,2 ≤ cols → ∀ i,(newV cols G i).length ≤ 400
def blankL (cols : Nat) : List Cell × Bool := (List.replicate cols blank,false)
def V1 (cols : Nat) (G : List Gp) (gc : Nat) (gg : Gp) : List (List Cell × Bool) := newV cols G gc ++ viewG cols (cut cols gg.text)
theorem viewG_len (cols : Nat) (g : Gp) : (viewG cols g).length = g.1.length + 1 := by unfold viewG linesG; simp
theorem newV_rest {cols gc : Nat} {G : List Gp} {gg : Gp} (hg : G[gc]? = some gg) (hr : ∀ j g,gc < j → G[j]? = some g → g = ([],[])) : ∀ k,gc + 1 + k ≤ G.length → newV cols G (gc + 1 + k) = V1 cols G gc gg ++ List.replicate k (blankL cols)
 | 0,_ => by rw [Nat.add_zero,newV_succ hg,List.replicate_zero,List.append_nil]; rfl
 | k + 1,h => by
  obtain ⟨g,hg'⟩ : ∃ g,G[gc + 1 + k]? = some g := ⟨_,List.getElem?_eq_getElem (by omega)⟩
  have := hr _ g (by omega) hg'
  subst this
  rw [show gc + 1 + (k + 1) = (gc + 1 + k) + 1 by omega,newV_succ hg',newV_rest hg hr k (by omega),List.replicate_succ',List.append_assoc]
  rfl
structure CutE (cols rows : Nat) (H H' : Hp) (ct li sp : Nat) (M : List Ln) (V : List (List Cell × Bool)) (fi ro co : Nat) (wa : Bool) : Prop where
 o : H' ct = some (.inst 644 (ctF cols li fi ro co wa sp))
 hli : H' li = some (.list (refs M))
 view : ∃ k,M.map (fun l => (l.cells,l.wr)) = V ++ List.replicate k (blankL cols) ∧ (0 < k → fi = 0)
 stop : M.length ≤ fi + rows ∨ M.length = V.length
 row : ro + 1 = V.length
 at_ : ∀ l ∈ M,LnAt H' l
 fr : ∀ l ∈ M,H l.a = none ∧ H l.c = none
 sep : ∀ l ∈ M,l.c ≠ li
 nda : (M.map (·.a)).Nodup
 ndc : (M.map (·.c)).Nodup
 len : M.length ≤ 400
 ext : Ext H H'
 fl : H li = none
section
variable {W : Wx} {H : Hp} {s : Scr}
theorem sp_cutting {G : List Gp} {gc : Nat} {gg : Gp} {rows cols : Nat} (h : Is H s) (y : LayAt s G gc gg) (hcols : 2 ≤ cols ∧ cols ≤ 7) : CallW W 10 (.ref 655) [.ref s.sc,.int rows,.int cols] H fun x H' => ∃ ct li sp M fi ro co wa,x = .ref ct ∧ CutE cols rows H H' ct li sp M (V1 cols G gc gg) fi ro co wa ∧
  co = min (cellsOf (cut cols gg.text).2).length (cols - 1) ∧ wa = ((cellsOf (cut cols gg.text).2).length == cols) := by
 refine in_655 _ _ _ ?_
 unfold cd_655
 have h1 := h.sc
 have h2 := h.cu
 have h3 := h.hi
 have h4 := h.gr
 have h5 := h.hl
 have h6 := h.gl
 unfold Scr.scF at h1
 unfold Scr.cuF at h2
 unfold Scr.hiF at h3
 unfold Scr.grF at h4
 have lh : (refs s.hist).length = s.hist.length := by simp [refs]
 have lg : (refs s.grid).length = s.grid.length := by simp [refs]
 have hb := h.rb
 have hr := h.rwb
 have hn := h.hn
 have hgn := h.gn
 walk_at "r"
 rw [lh]
 refine r_addLE h5 h6 (by omega) fun la H1 f1 g1 E1 => ?_
 have ra : refs s.hist ++ refs s.grid = refs s.all := (refs_app _ _).symm
 rw [ra] at g1
 have k5 := E1 _ _ h5
 walk_at "r"
 rw [lh,show (s.hist.length : Int) + (s.row : Int) = ((s.hist.length + s.row : Nat) : Int) by omega]
 have cls : CallW W 9 (.ref 644) [.ref la,.int cols,.int s.hist.length,.tup [.int ((s.hist.length + s.row : Nat) : Int),.int s.col,.bool s.wait]] H1 fun x H' => ∃ ct li sp L fi ro co wa,x = .ref ct ∧ CutD cols H1 H' ct li sp L (newV cols G G.length) fi ro co wa ∧ (s.hist.length = 0 → fi = 0) ∧
   ro = (newV cols G gc).length + (cut cols gg.text).1.length ∧ co = min (cellsOf (cut cols gg.text).2).length (cols - 1) ∧ wa = ((cellsOf (cut cols gg.text).2).length == cols) ∧ Ext H1 H' := by
  refine call_cls (f := 606) (by decide) fun ct hct => ?_
  have n0 : ∀ {y m},H1 y = some m → setF H1 ct (.inst 644 []) y = some m := fun z => Ext.new hct _ _ z
  refine (sp_ct_init (W := W) (la := la) (ls := s.all) h.cl hcols y.lv y.ok y.hn y.tx (y.new cols hcols.1) y.cur (n0 g1) (fun l hl => ((h.ln l hl).ext E1).ext (Ext.new hct)) setF_same).mono ?_
  rintro _ H' ⟨rfl,li,sp,L,fi,ro,co,wa,D,q1,q2,q3,q4,q5⟩
  have bk : ∀ z,setF H1 ct (.inst 644 []) z = none → H1 z = none := fun z hz => by
   unfold setF at hz
   split at hz
   ·cases hz
   ·exact hz
  exact ⟨rfl,ct,li,sp,L,fi,ro,co,wa,rfl,⟨D.o,D.hli,D.hsp,D.view,D.at_,fun l hl => ⟨bk _ (D.fr l hl).1,bk _ (D.fr l hl).2⟩,D.sep,D.nda,D.ndc,⟨bk _ D.f0.1,bk _ D.f0.2⟩,D.ne⟩,q1,q2,q3,q4,fun z m hz => q5 _ _ (ne_new hz hct) (n0 hz)⟩
 refine r_call4 (cls.tu rfl) rfl ?_
 rintro _ H2 ⟨ct,li,sp,L,fi,ro,co,wa,rfl,D,q1,q2,q3,q4,E2⟩
 have gcl := (List.getElem?_eq_some_iff.mp y.cur.at_).1
 have hv : L.map (fun l => (l.cells,l.wr)) = V1 cols G gc gg ++ List.replicate (G.length - (gc + 1)) (blankL cols) := by
  rw [D.view,← newV_rest y.cur.at_ y.rest (G.length - (gc + 1)) (by omega)]
  congr 1; omega
 have lv1 : (V1 cols G gc gg).length = ro + 1 := by unfold V1; rw [List.length_append,viewG_len,q2]; omega
 have Llen : L.length = ro + 1 + (G.length - (gc + 1)) := by have := congrArg List.length hv; simpa [lv1] using this
 have L400 : L.length ≤ 400 := by have := congrArg List.length D.view; rw [List.length_map] at this; rw [this]; exact y.new cols hcols.1 _
 have D_o := D.o
 unfold ctF at D_o
 walk_at "r"
 refine r_call2 ((sp_give (W := W) (rows := rows) D.o D.hli D.at_ (fun l hl => (D.sep l hl).1) (fun j l hj hl => by
  have := congrArg (·[j]?) hv
  simp only [List.getElem?_map,hl,Option.map_some] at this
  rw [List.getElem?_append_right (by omega),List.getElem?_replicate] at this
  split at this
  ·have := Option.some.inj this
   exact ⟨congrArg Prod.snd this,cols,hcols.2,congrArg Prod.fst this⟩
  ·cases this) (by omega) (by omega)).tu rfl) rfl ?_
 rintro _ H3 ⟨rfl,n,n1,n2,n3,n4,n5,n6⟩
 walk_at "r"
 have tm : ∀ l ∈ L.take n,l ∈ L := fun l hl => List.mem_of_mem_take hl
 have bk1 : ∀ z,H1 z = none → H z = none := fun z hz => back E1 hz
 have lt : (L.take n).length = n := by simp; omega
 refine Run.ret ⟨ct,li,sp,L.take n,fi,ro,co,wa,rfl,⟨n6 _ _ (ne_kd D.o D.hli rfl) D.o,n5,⟨n - (ro + 1),?_,fun z => ?_⟩,?_,lv1.symm,fun l hl => ?_,fun l hl => ⟨bk1 _ (D.fr l (tm l hl)).1,bk1 _ (D.fr l (tm l hl)).2⟩,fun l hl => (D.sep l (tm l hl)).1,?_,?_,by omega,fun z m hz => n6 _ _ ?_ (E2 _ _ (E1 _ _ hz)),bk1 _ D.f0.1⟩,q3,q4⟩
 ·rw [List.map_take,hv,List.take_append,lv1,List.take_of_length_le (by omega),List.take_replicate,Nat.min_eq_left (by omega)]
 ·exact q1 (y.bl (by omega))
 ·rw [lt,lv1]; exact n3
 ·have z := D.at_ l (tm l hl)
  exact ⟨n6 _ _ (ne_kd z.o D.hli rfl) z.o,n6 _ _ (D.sep l (tm l hl)).1 z.cs⟩
 ·exact (List.map_take (f := fun l : Ln => l.a)) ▸ D.nda.sublist (List.take_sublist _ _)
 ·exact (List.map_take (f := fun l : Ln => l.c)) ▸ D.ndc.sublist (List.take_sublist _ _)
 ·exact fun q => ne_new (E1 _ _ hz) D.f0.1 q
end
structure ReflR (rows cols : Nat) (H H' : Hp) (g gl h hl : Nat) (hist grid : List Ln) (V : List (List Cell × Bool)) : Prop where
 og : H' g = some (.inst 396 [(3,.int rows),(4,.int cols),(5,.ref gl)])
 ogl : H' gl = some (.list (refs grid))
 oh : H' h = some (.inst 478 [(6,.int 400),(5,.ref hl),(7,.int 0)])
 ohl : H' hl = some (.list (refs hist))
 at_ : ∀ l ∈ hist ++ grid,LnAt H' l
 fr : ∀ l ∈ hist ++ grid,H l.a = none ∧ H l.c = none
 f0 : H g = none ∧ H gl = none ∧ H h = none ∧ H hl = none
 sep : ∀ l ∈ hist ++ grid,l.c ≠ gl ∧ l.c ≠ hl
 ne : hl ≠ gl
 nda : ((hist ++ grid).map (·.a)).Nodup
 ndc : ((hist ++ grid).map (·.c)).Nodup
 view : (hist ++ grid).map (fun l => (l.cells,l.wr)) = V ++ List.replicate (rows - V.length) (blankL cols)
 lh : hist.length = V.length - rows
 lg : grid.length = rows
 ext : Ext H H'
section
variable {W : Wx} {H : Hp} {s : Scr}
theorem sp_reflowed {G : List Gp} {gc : Nat} {gg : Gp} {rows cols : Nat} (h : Is H s) (y : LayAt s G gc gg) (hcols : 2 ≤ cols ∧ cols ≤ 7) (hrows : 1 ≤ rows ∧ rows ≤ 4) : CallW W 11 (.ref 662) [.ref s.sc,.int rows,.int cols] H fun x H' => ∃ g gl h hl hist grid co wa,x = .tup [.ref g,.ref h,.tup [.int (((V1 cols G gc gg).length - 1 - ((V1 cols G gc gg).length - rows) : Nat) : Int),.int (co : Nat),.bool wa]] ∧ ReflR rows cols H H' g gl h hl hist grid (V1 cols G gc gg) ∧
  co = min (cellsOf (cut cols gg.text).2).length (cols - 1) ∧ wa = ((cellsOf (cut cols gg.text).2).length == cols) := by
 refine in_662 _ _ _ ?_
 unfold cd_662
 walk_at "r"
 refine r_call3 ((sp_cutting (rows := rows) h y hcols).tu rfl) rfl ?_
 rintro _ H1 ⟨ct,li,sp,M,fi,ro,co,wa,rfl,E,q1,q2⟩
 obtain ⟨k,hview,hk0⟩ := E.view
 have hMl : M.length = ro + 1 + k := by have := congrArg List.length hview; rw [List.length_map,List.length_append,List.length_replicate,← E.row] at this; exact this
 obtain ⟨t1,t2⟩ := top_val (fi := fi) (ro := ro) (rows := rows) (n := M.length) hrows.1 (by omega) (by rw [E.row]; exact E.stop) (fun z => hk0 (by omega))
 have o1 := E.o
 have l1 := E.hli
 have Mn := E.len
 have h1 := E.ext _ _ h.sc
 have h3 := E.ext _ _ h.hi
 unfold Scr.scF at h1
 unfold Scr.hiF at h3
 have o1' := o1
 unfold ctF at o1'
 walk_at "r"
 refine r_call2 ((sp_top (rows := rows) o1 l1 (by omega)).tu rfl) rfl ?_
 refine is_elim ?_
 rw [t1]
 generalize ht : ro + 1 - rows = t at *
 have rM : (refs M).length = M.length := by simp [refs]
 walk_at "r"
 refine r_call1 ((sp_newHist 400).tu rfl) rfl ?_
 rintro _ H2 ⟨hh,hl,rfl,fh,fhl,oh,ohl,E2⟩
 have h1b := E2 _ _ h1
 have h3b := E2 _ _ h3
 have o2 := E2 _ _ o1'
 have l2 := E2 _ _ l1
 walk_at "r"
 refine r_sattr oh rfl rfl ?_
 have self0 : ∀ m,m = MO.inst 478 [(6,.int (400 : Nat)),(5,.ref hl),(7,.int 0)] → setF H2 hh m = H2 := fun m q => by rw [q]; exact setF_self oh
 rw [self0]
 rotate_left
 ·rfl
 walk_at "r"
 refine r_slcE none (some (t : Nat)) rfl rfl l2 (by omega) (ps_take _ _) fun c3 H3 f3 g3 E3 => ?_
 have oh3 := E3 _ _ oh
 have ohl3 := E3 _ _ ohl
 have c3n : c3 ≠ hl := (ne_new ohl f3).symm
 have tl : ((refs M).take t).length = t := by simp [refs]; omega
 refine Run.fr (l := (refs M).take t) (args := [.ref c3]) (J := fun i ρ H' => (∃ x6,ρ = [some (.ref s.sc),some (.int rows),some (.int cols),some (.ref ct),some (.int (t : Nat)),some (.ref hh),x6,none,none]) ∧ H' = setF H3 hl (.list ((refs M).take i))) (Z := fun _ _ => False) rfl rfl ⟨⟨none,rfl⟩,by rw [List.take_zero]; exact (setF_self ohl3).symm⟩ (fun i ρ H' _ hj => ?_) ?_ ?_ (fun _ _ z => z.elim)
 ·obtain ⟨_,rfl⟩ := hj
  exact at_ne g3 c3n
 ·rintro i x ρ H' hx ⟨⟨x6,rfl⟩,rfl⟩
  have hi : i < t := by have := (List.getElem?_eq_some_iff.mp hx).1; omega
  rw [List.getElem?_take_of_lt hi] at hx
  obtain ⟨l,hlM⟩ : ∃ l,M[i]? = some l := ⟨_,List.getElem?_eq_getElem (by omega)⟩
  have : x = .ref l.a := by unfold refs at hx; rw [List.getElem?_map,hlM] at hx; exact (Option.some.inj hx).symm
  subst this
  have ohi := at_ne oh3 (ne_kd oh3 ohl3 rfl) (m' := .list ((refs M).take i))
  walk_at "c"
  refine r_call2 ((sp_hpush ohi setF_same (by simp [refs]; omega)).tu rfl) rfl ?_
  refine is_elim ?_
  rw [setF_setF]
  walk_at "r"
  refine Run.nil ⟨⟨_,rfl⟩,?_⟩
  rw [take_succ' hx]
 ·rintro ρ H' ⟨⟨x6,rfl⟩,rfl⟩
  rw [tl]
  have E13 := E.ext.trans (E2.trans E3)
  have nn : ∀ {z m},H3 z = some m → z ≠ hl → setF H3 hl (.list ((refs M).take t)) z = some m := fun a b => at_ne a b
  have fhl0 : H hl = none := back E.ext fhl
  have fh0 : H hh = none := back E.ext fh
  have o4 := nn (E3 _ _ o2) (ne_kd o2 ohl rfl)
  have l4 := nn (E3 _ _ l2) (ne_new l1 fhl)
  have oh4 := nn oh3 (ne_kd oh3 ohl3 rfl)
  have ohl4 : setF H3 hl (.list ((refs M).take t)) hl = some (.list ((refs M).take t)) := setF_same
  have E4 : Ext H (setF H3 hl (.list ((refs M).take t))) := E13.upd fhl0
  have M4 : ∀ l ∈ M,LnAt (setF H3 hl (.list ((refs M).take t))) l := fun l hm => by
   have z := ((E.at_ l hm).ext E2).ext E3
   exact ⟨nn z.o (ne_kd z.o ohl3 rfl),nn z.cs (ne_new (E.at_ l hm).cs fhl)⟩
  generalize setF H3 hl (.list ((refs M).take t)) = H4 at *
  walk_at "r"
  refine r_call2 ((sp_newGrid rows cols ⟨hrows.1,by omega⟩ ⟨by omega,hcols.2⟩).tu rfl) rfl ?_
  rintro _ H5 ⟨g,gl,ls,rfl,fg,fgl,og,ogl,N,Nsep,E5⟩
  have o5 := E5 _ _ o4
  have l5 := E5 _ _ l4
  have lsl := N.len
  walk_at "r"
  rw [show ((t : Nat) : Int) + (rows : Int) = ((t + rows : Nat) : Int) by omega]
  refine r_slcE (some (t : Nat)) (some ((t + rows : Nat) : Int)) rfl rfl l5 (by omega) (l' := (refs M).drop t) (by
   refine (ps_mid _ _ _).trans ?_
   rw [List.take_of_length_le (by simp [refs]; omega)]) fun c6 H6 f6 g6 E6 => ?_
  have og6 := E6 _ _ og
  have ogl6 := E6 _ _ ogl
  have c6n : c6 ≠ gl := (ne_new ogl f6).symm
  have dl : ((refs M).drop t).length = M.length - t := by simp [refs]
  have rls : (refs ls).length = rows := by simp [refs,lsl]
  let Li : Nat → List V := fun i => ((refs M).drop t).take i ++ (refs ls).drop i
  refine Run.fr (l := ((refs M).drop t).zipIdx.map fun p => .tup [.int p.2,p.1]) (args := [.ref c6]) (J := fun i ρ H' => (∃ x6 x8,ρ = [some (.ref s.sc),some (.int rows),some (.int cols),some (.ref ct),some (.int (t : Nat)),some (.ref hh),x6,some (.ref g),x8]) ∧ H' = setF H6 gl (.list (Li i))) (Z := fun _ _ => False) rfl rfl ⟨⟨x6,none,rfl⟩,?_⟩ (fun i ρ H' _ hj => ?_) ?_ ?_ (fun _ _ z => z.elim)
  ·show H6 = setF H6 gl (.list ([] ++ (refs ls).drop 0))
   rw [List.nil_append,List.drop_zero]; exact (setF_self ogl6).symm
  ·obtain ⟨_,rfl⟩ := hj
   exact ⟨(refs M).drop t,at_ne g6 c6n,rfl⟩
  ·rintro i x ρ H' hx ⟨⟨y6,y8,rfl⟩,rfl⟩
   have hi : i < M.length - t := by have := (List.getElem?_eq_some_iff.mp hx).1; simp [refs] at this; omega
   rw [List.getElem?_map,List.getElem?_zipIdx,List.getElem?_drop] at hx
   obtain ⟨l,hlM⟩ : ∃ l,M[t + i]? = some l := ⟨_,List.getElem?_eq_getElem (by omega)⟩
   have hr : (refs M)[t + i]? = some (V.ref l.a) := by unfold refs; rw [List.getElem?_map,hlM]; rfl
   rw [hr] at hx
   simp at hx
   subst hx
   have og7 := at_ne og6 (ne_kd og6 ogl6 rfl) (m' := .list (Li i))
   have a1 : setF H6 gl (.list (Li i)) gl = some (.list (Li i)) := setF_same
   have tli : (((refs M).drop t).take i).length = i := by simp [refs]; omega
   have lli : (Li i).length = rows := by show (((refs M).drop t).take i ++ (refs ls).drop i).length = _; rw [List.length_append,tli,List.length_drop,rls]; omega
   walk_at "c"
   refine r_sidx a1 (by omega) (by omega) (by omega) ?_
   refine Run.nil ⟨⟨_,_,rfl⟩,?_⟩
   rw [setF_setF]
   congr 2
   rw [show ((i : Nat) : Int).toNat = i by omega]
   show (((refs M).drop t).take i ++ (refs ls).drop i).set i _ = ((refs M).drop t).take (i + 1) ++ (refs ls).drop (i + 1)
   rw [List.set_append,if_neg (by omega),tli,Nat.sub_self,take_succ' (x := V.ref l.a) (by rw [List.getElem?_drop]; exact hr),List.append_assoc]
   congr 1
   rw [List.drop_eq_getElem_cons (show i < (refs ls).length by omega)]
   rfl
  ·rintro ρ H' ⟨⟨y6,y8,rfl⟩,rfl⟩
   have zl : (((refs M).drop t).zipIdx.map fun p => V.tup [.int p.2,p.1]).length = M.length - t := by simp [refs]
   rw [zl]
   have hLi : Li (M.length - t) = refs (M.drop t ++ ls.drop (M.length - t)) := by
    show ((refs M).drop t).take (M.length - t) ++ (refs ls).drop (M.length - t) = _
    rw [List.take_of_length_le (by omega),refs_app,refs_drop,refs_drop]
   rw [hLi]
   have n6 : ∀ {z m},H6 z = some m → z ≠ gl → setF H6 gl (.list (refs (M.drop t ++ ls.drop (M.length - t)))) z = some m := fun a b => at_ne a b
   have E46 := E5.trans E6
   have o7 := n6 (E6 _ _ o5) (ne_kd (E6 _ _ o5) ogl6 rfl)
   have l7 := n6 (E6 _ _ l5) (ne_new l4 fgl)
   walk_at "r"
   rw [rM]
   refine r_f (decide_eq_false (by omega)) ?_
   walk_at "c"
   have fgl0 : H gl = none := back E4 fgl
   have hE : Ext H (setF H6 gl (.list (refs (M.drop t ++ ls.drop (M.length - t))))) := (E4.trans E46).upd fgl0
   have vl : (V1 cols G gc gg).length = ro + 1 := E.row.symm
   have hsplit : M.take t ++ (M.drop t ++ ls.drop (M.length - t)) = M ++ ls.drop (M.length - t) := by rw [← List.append_assoc,List.take_append_drop]
   have mem : ∀ l ∈ M.take t ++ (M.drop t ++ ls.drop (M.length - t)),l ∈ M ∨ l ∈ ls := fun l hm => by
    rw [hsplit] at hm
    rcases List.mem_append.mp hm with hm | hm
    ·exact .inl hm
    ·exact .inr (List.mem_of_mem_drop hm)
   have hhl : hl ≠ gl := ne_new ohl4 fgl
   refine Run.ret ⟨g,gl,hh,hl,M.take t,M.drop t ++ ls.drop (M.length - t),co,wa,?_,⟨n6 og6 (ne_kd og6 ogl6 rfl),setF_same,n6 (E46 _ _ oh4) (ne_kd (E46 _ _ oh4) ogl6 rfl),by rw [refs_take]; exact n6 (E46 _ _ ohl4) hhl,fun l hm => ?_,fun l hm => ?_,⟨back E4 fg,fgl0,fh0,fhl0⟩,fun l hm => ?_,hhl,?_,?_,?_,?_,?_,hE⟩,q1,q2⟩
   ·rw [vl,show ro + 1 - rows = t from ht,show ((ro + 1 - 1 - t : Nat) : Int) = (ro : Int) - (t : Int) by omega]
   ·rcases mem l hm with hm | hm
    ·have z := (M4 l hm).ext E46
     exact ⟨n6 z.o (ne_kd z.o ogl6 rfl),n6 z.cs (ne_new (M4 l hm).cs fgl)⟩
    ·have z := (N.at_ l hm).ext E6
     exact ⟨n6 z.o (ne_kd z.o ogl6 rfl),n6 z.cs (Nsep l hm)⟩
   ·rcases mem l hm with hm | hm
    ·exact E.fr l hm
    ·exact ⟨back E4 (N.fr l hm).1,back E4 (N.fr l hm).2⟩
   ·rcases mem l hm with hm | hm
    ·exact ⟨ne_new (M4 l hm).cs fgl,ne_new (E.at_ l hm).cs fhl⟩
    ·exact ⟨Nsep l hm,(ne_new ohl4 (N.fr l hm).2).symm⟩
   ·rw [hsplit,List.map_append,List.nodup_append]
    refine ⟨E.nda,?_,fun a ha b hb => ?_⟩
    ·exact (List.map_drop (f := fun l : Ln => l.a)) ▸ N.nda.sublist (List.drop_sublist _ _)
    ·obtain ⟨l,hm,rfl⟩ := List.mem_map.mp ha
     obtain ⟨l',hm',rfl⟩ := List.mem_map.mp hb
     exact ne_new (M4 l hm).o (N.fr l' (List.mem_of_mem_drop hm')).1
   ·rw [hsplit,List.map_append,List.nodup_append]
    refine ⟨E.ndc,?_,fun a ha b hb => ?_⟩
    ·exact (List.map_drop (f := fun l : Ln => l.c)) ▸ N.ndc.sublist (List.drop_sublist _ _)
    ·obtain ⟨l,hm,rfl⟩ := List.mem_map.mp ha
     obtain ⟨l',hm',rfl⟩ := List.mem_map.mp hb
     exact ne_new (M4 l hm).cs (N.fr l' (List.mem_of_mem_drop hm')).2
   ·rw [hsplit,List.map_append,hview,List.append_assoc]
    congr 1
    have : (ls.drop (M.length - t)).map (fun l => (l.cells,l.wr)) = List.replicate (rows - (M.length - t)) (blankL cols) := by
     apply List.eq_replicate_iff.mpr
     refine ⟨by simp [lsl],fun b hb => ?_⟩
     obtain ⟨l,hm,rfl⟩ := List.mem_map.mp hb
     obtain ⟨c1,c2⟩ := N.cs l (List.mem_of_mem_drop hm)
     show (l.cells,l.wr) = _
     rw [c1,c2]; rfl
    rw [this,List.replicate_append_replicate,vl]
    congr 1
    omega
   ·rw [List.length_take,vl]; omega
   ·rw [List.length_append,List.length_drop,List.length_drop,lsl]; omega
end
section
variable {W : Wx} {H : Hp} {s : Scr}
theorem sp_newMargins (rows cols : Nat) : CallW W 2 (.ref 1109) [.int rows,.int cols] H fun x H' => ∃ m,x = .ref m ∧ H m = none ∧ H' = setF H m (.inst 1109 [(3,.int rows),(4,.int cols),(28,.int 0),(29,.int ((rows : Int) - 1)),(22,.int 0),(23,.int ((cols : Int) - 1))]) := by
 refine call_cls (f := 994) (R := fun x H' => ∃ m,x = .ref m ∧ H m = none ∧ H' = setF H m (.inst 1109 [(3,.int rows),(4,.int cols),(28,.int 0),(29,.int ((rows : Int) - 1)),(22,.int 0),(23,.int ((cols : Int) - 1))])) (by decide) fun m hm => ?_
 refine in_994 _ _ _ ?_
 unfold cd_994
 walk_at "r"
 refine r_sattr setF_same rfl rfl ?_
 walk_at "r"
 refine r_sattr setF_same rfl rfl ?_
 walk_at "r"
 refine r_sattr setF_same rfl rfl ?_
 walk_at "r"
 refine r_sattr setF_same rfl rfl ?_
 walk_at "r"
 refine r_sattr setF_same rfl rfl ?_
 walk_at "r"
 refine r_sattr setF_same rfl rfl ?_
 rw [setF_setF,setF_setF,setF_setF,setF_setF,setF_setF,setF_setF]
 exact Run.nil ⟨rfl,m,rfl,hm,rfl⟩
theorem sp_eighths {tb sp : Nat} {cols b : Nat} (e : H tb = some (.inst 1208 [(4,.int cols),(30,.ref sp)])) (hc : cols ≤ 7) : CallW W 1 (.ref 1134) [.ref tb,.int b] H (is .none H) := by
 refine in_1134 _ _ ?_
 unfold cd_1134
 walk_at "r"
 refine Run.fr (l := []) (args := [.int 8,.int cols,.int 8]) (J := fun i ρ H' => i = 0 ∧ H' = H) (Z := fun _ _ => False) rfl rfl ⟨rfl,rfl⟩ (fun i ρ H' _ _ => ⟨by omega,by omega,by omega,by omega,by omega,by omega,rfl⟩) (fun i x ρ H' hx => by simp at hx) ?_ (fun _ _ z => z.elim)
 rintro ρ H' ⟨_,rfl⟩
 exact Run.nil ⟨rfl,rfl⟩
theorem sp_resize {tb sp c0 cols : Nat} (e : H tb = some (.inst 1208 [(4,.int c0),(30,.ref sp)])) (es : H sp = some (.dict [])) (hc : cols ≤ 7) : CallW W 3 (.ref 1198) [.ref tb,.int cols] H fun x H' => x = .none ∧ H' tb = some (.inst 1208 [(4,.int cols),(30,.ref sp)]) ∧ ∀ y m,y ≠ tb → H y = some m → H' y = some m := by
 refine in_1198 _ _ ?_
 unfold cd_1198
 walk_at "r"
 refine r_sattr e rfl rfl ?_
 have e1 : setF H tb (.inst 1208 (putF 4 (.int cols) [(4,.int c0),(30,.ref sp)])) tb = some (.inst 1208 [(4,.int cols),(30,.ref sp)]) := setF_same
 have es1 := at_ne es (ne_kd es e rfl) (m' := .inst 1208 (putF 4 (.int cols) [(4,.int c0),(30,.ref sp)]))
 have kp : ∀ y m,y ≠ tb → H y = some m → setF H tb (.inst 1208 (putF 4 (.int cols) [(4,.int c0),(30,.ref sp)])) y = some m := fun y m q z => at_ne z q
 generalize setF H tb (.inst 1208 (putF 4 (.int cols) [(4,.int c0),(30,.ref sp)])) = H1 at *
 have told : CallW W 1 (.ref 1169) [.ref tb] H1 (newL [] H1) := by
  refine in_1169 _ ?_
  unfold cd_1169
  walk_at "r"
  refine r_sorted0E es1 fun c H' f g E => ?_
  exact Run.ret ⟨c,rfl,f,g,E⟩
 walk_at "r"
 refine r_call1 (told.tu rfl) rfl ?_
 rintro _ H2 ⟨c,rfl,f,g,E⟩
 have e2 := E _ _ e1
 refine Run.fr (l := []) (args := [.ref c]) (J := fun i ρ H' => i = 0 ∧ H' = H2 ∧ ρ = [some (.ref tb),some (.int cols),some (.int c0),none]) (Z := fun _ _ => False) rfl rfl ⟨rfl,rfl,rfl⟩ (fun i ρ H' _ hj => by rw [hj.2.1]; exact g) (fun i x ρ H' hx => by simp at hx) ?_ (fun _ _ z => z.elim)
 rintro ρ H' ⟨_,rfl,rfl⟩
 have fin : ∀ {ρ},Run W 2 [] [] ρ H' (behind fun x H' => x = .none ∧ H' tb = some (.inst 1208 [(4,.int cols),(30,.ref sp)]) ∧ ∀ y m,y ≠ tb → H y = some m → H' y = some m) := fun {ρ} => Run.nil ⟨rfl,e2,fun y m q z => E _ _ (kp y m q z)⟩
 walk_at "r"
 by_cases q : c0 < cols
 ·refine r_t (decide_eq_true (by omega)) ?_
  walk_at "c"
  refine r_call2 ((sp_eighths e2 hc).tu rfl) rfl ?_
  refine is_elim ?_
  walk_at "r"
  exact fin
 ·refine r_f (decide_eq_false (by omega)) ?_
  walk_at "c"
  exact fin
theorem sp_wol' {i : Nat} {l : Ln} (h1 : H s.sc = some (.inst 1485 s.scF)) (h2 : H s.gr = some (.inst 396 s.grF)) (h3 : H s.gl = some (.list (refs s.grid))) (hl : s.grid[i]? = some l) (ll : LnAt H l) (hn : i ≤ 900) : CallW W 2 (.ref 1242) [.ref s.sc,.int i] H (is (.int s.cols) H) := by
 refine in_1242 _ _ ?_
 unfold cd_1242
 have h4 := ll.o
 unfold Scr.scF at h1
 unfold Scr.grF at h2
 unfold lf at h4
 have gl : CallW W 1 (.ref 274) [.ref s.gr,.int i] H (is (.ref l.a) H) := by
  refine in_274 _ _ ?_
  unfold cd_274
  walk_at "r"
  refine r_idx h3 (by omega) (at_refs hl) ?_
  exact Run.ret ⟨rfl,rfl⟩
 walk_at "r"
 refine r_call2 (gl.tu rfl) rfl ?_
 refine is_elim ?_
 walk_at "r"
 refine r_inS (l := [S "wide",S "top",S "bottom"]) rfl ?_
 walk_at "r"
 exact Run.ret ⟨rfl,rfl⟩
theorem sp_place {r0 c0 : Nat} {w0 : Bool} {l : Ln} (h1 : H s.sc = some (.inst 1485 s.scF)) (h2 : H s.gr = some (.inst 396 s.grF)) (h3 : H s.gl = some (.list (refs s.grid))) (hc : H s.cu = some (.inst 976 { s with row := r0,col := c0,wait := w0 }.cuF)) (hl : s.grid[s.row]? = some l) (ll : LnAt H l) (hr : s.row < s.rows ∧ s.rows ≤ 4) (hcc : s.col < s.cols) (hw : s.wait = false) :
  CallW W 3 (.ref 1277) [.ref s.sc,.int s.row,.int s.col] H (is .none (setF H s.cu (.inst 976 s.cuF))) := by
 refine in_1277 _ _ _ ?_
 unfold cd_1277
 have h1' := h1
 unfold Scr.scF at h1'
 have hc' := hc
 unfold Scr.cuF at hc'
 walk_at "r"
 refine r_call3 ((sp_clamp _ _ _).tu rfl) rfl ?_
 refine is_elim ?_
 rw [show max (0 : Int) (min (s.row : Int) ((s.rows : Int) - 1)) = (s.row : Int) by omega]
 walk_at "r"
 refine r_sattr hc' rfl rfl ?_
 have e0 : setF H s.cu (.inst 976 (putF 11 (.int s.row) [(11,.int r0),(12,.int c0),(13,.bool w0),(25,pn s.pen),(26,.bool false),(27,.bool false)])) = setF H s.cu (.inst 976 [(11,.int s.row),(12,.int c0),(13,.bool w0),(25,pn s.pen),(26,.bool false),(27,.bool false)]) := rfl
 have nn : ∀ {m' : MO} {y m},H y = some m → (m.kd == 979) = false → setF H s.cu m' y = some m := fun z q => at_ne z (ne_kd z hc q)
 have a1 := nn (m' := .inst 976 [(11,.int s.row),(12,.int c0),(13,.bool w0),(25,pn s.pen),(26,.bool false),(27,.bool false)]) h1 rfl
 have a2 := nn (m' := .inst 976 [(11,.int s.row),(12,.int c0),(13,.bool w0),(25,pn s.pen),(26,.bool false),(27,.bool false)]) h2 rfl
 have a3 := nn (m' := .inst 976 [(11,.int s.row),(12,.int c0),(13,.bool w0),(25,pn s.pen),(26,.bool false),(27,.bool false)]) h3 rfl
 have a4 : LnAt (setF H s.cu (.inst 976 [(11,.int s.row),(12,.int c0),(13,.bool w0),(25,pn s.pen),(26,.bool false),(27,.bool false)])) l := ⟨nn ll.o rfl,nn ll.cs rfl⟩
 have a5 : setF H s.cu (.inst 976 [(11,.int s.row),(12,.int c0),(13,.bool w0),(25,pn s.pen),(26,.bool false),(27,.bool false)]) s.cu = some (.inst 976 [(11,.int s.row),(12,.int c0),(13,.bool w0),(25,pn s.pen),(26,.bool false),(27,.bool false)]) := setF_same
 have a1' := a1
 unfold Scr.scF at a1'
 rw [e0]
 walk_at "r"
 refine r_call2 ((sp_wol' (W := W) a1 a2 a3 hl a4 (by omega)).tu rfl) rfl ?_
 refine is_elim ?_
 walk_at "r"
 refine r_call3 ((sp_clamp _ _ _).tu rfl) rfl ?_
 refine is_elim ?_
 rw [show max (0 : Int) (min (s.col : Int) (max 0 ((s.cols : Int) - 1))) = (s.col : Int) by omega]
 walk_at "r"
 refine r_sattr a5 rfl rfl ?_
 rw [setF_setF]
 have a6 := nn (m' := .inst 976 (putF 12 (.int s.col) [(11,.int s.row),(12,.int c0),(13,.bool w0),(25,pn s.pen),(26,.bool false),(27,.bool false)])) h1' rfl
 walk_at "r"
 refine r_sattr setF_same rfl rfl ?_
 rw [setF_setF]
 refine Run.nil ⟨rfl,?_⟩
 unfold Scr.cuF
 rw [hw]
 rfl
end
def Scr.refit (s : Scr) (rows cols g gl h hl ma : Nat) (hist grid : List Ln) (r c : Nat) (w : Bool) : Scr := { s with hi := h,hl := hl,gr := g,gl := gl,ma := ma,rows := rows,cols := cols,hist := hist,grid := grid,row := r,col := c,wait := w }
theorem Is.refit {H0 H H' : Hp} {s : Scr} {rows cols g gl h hl ma : Nat} {hist grid : List Ln} {r c : Nat} {w : Bool} {V : List (List Cell × Bool)} (I0 : Is H0 s) (R : ReflR rows cols H0 H g gl h hl hist grid V) (hV : ∀ q ∈ V,q.1.length = cols) (hrows : 1 ≤ rows ∧ rows ≤ 4) (hcols : 2 ≤ cols ∧ cols ≤ 7) (hh : hist.length ≤ 300) (hr : r < rows) (hc : c < cols)
  (k : ∀ y m,H y = some m → y ≠ s.sc → y ≠ s.tb → y ≠ s.cu → H' y = some m) (osc : H' s.sc = some (.inst 1485 (s.refit rows cols g gl h hl ma hist grid r c w).scF)) (otb : H' s.tb = some (.inst 1208 [(4,.int cols),(30,.ref s.sp)])) (ocu : H' s.cu = some (.inst 976 (s.refit rows cols g gl h hl ma hist grid r c w).cuF)) (oma : H' ma = some (.inst 1109 (s.refit rows cols g gl h hl ma hist grid r c w).maF)) :
  Is H' (s.refit rows cols g gl h hl ma hist grid r c w) := by
 have I := I0.ext R.ext
 have n : ∀ {y m},H y = some m → (m.kd == 1488) = false → (m.kd == 1211) = false → (m.kd == 979) = false → H' y = some m := fun z a b c => k _ _ z (ne_kd z I.sc a) (ne_kd z I.tb b) (ne_kd z I.cu c)
 refine ⟨osc,n R.og rfl rfl rfl,n R.ogl rfl rfl rfl,n R.oh rfl rfl rfl,n R.ohl rfl rfl rfl,ocu,oma,n I.ch rfl rfl rfl,I.md.imp (fun x => n x rfl rfl rfl) fun ⟨x,a,b⟩ => ⟨x,n a rfl rfl rfl,n b rfl rfl rfl⟩,n I.nm rfl rfl rfl,n I.mo rfl rfl rfl,n I.st rfl rfl rfl,n I.wt rfl rfl rfl,n I.wd rfl rfl rfl,n I.mkr rfl rfl rfl,otb,n I.sp rfl rfl rfl,
  fun l hl => ⟨n (R.at_ l hl).o rfl rfl rfl,n (R.at_ l hl).cs rfl rfl rfl⟩,fun l hm => ?_,?_,R.nda,R.ndc,I.ms,fun l hm => ?_,hrows,hcols,R.lg,hh,hr,hc⟩
 ·show l.c ∉ [gl,hl,s.nm,s.wd,s.mkr]
  obtain ⟨s1,s2⟩ := R.sep l hm
  have f := (R.fr l hm).2
  simp only [List.mem_cons,List.not_mem_nil,or_false,not_or]
  exact ⟨s1,s2,(ne_new I0.nm f).symm,(ne_new I0.wd f).symm,(ne_new I0.mkr f).symm⟩
 ·show hl ∉ [gl,s.nm,s.wd,s.mkr]
  have f := R.f0.2.2.2
  simp only [List.mem_cons,List.not_mem_nil,or_false,not_or]
  exact ⟨R.ne,(ne_new I0.nm f).symm,(ne_new I0.wd f).symm,(ne_new I0.mkr f).symm⟩
 ·have : (l.cells,l.wr) ∈ V ++ List.replicate (rows - V.length) (blankL cols) := by rw [← R.view]; exact List.mem_map.mpr ⟨l,hm,rfl⟩
  show l.cells.length = cols
  rcases List.mem_append.mp this with q | q
  ·exact hV _ q
  ·have := (List.mem_replicate.mp q).2
   have e := congrArg Prod.fst this
   show l.cells.length = cols
   rw [show l.cells = List.replicate cols blank from e]; simp
section
variable {W : Wx} {H H0 : Hp} {s : Scr}
theorem sp_fit {rows cols g gl h hl : Nat} {hist grid : List Ln} {r c : Nat} {w : Bool} {V : List (List Cell × Bool)} (I0 : Is H0 s) (R : ReflR rows cols H0 H g gl h hl hist grid V) (hV : ∀ q ∈ V,q.1.length = cols) (hrows : 1 ≤ rows ∧ rows ≤ 4) (hcols : 2 ≤ cols ∧ cols ≤ 7) (hh : hist.length ≤ 300) (hr : r < rows) (hc : c < cols) (hw : w = true → c = cols - 1) :
  CallW W 5 (.ref 1496) [.ref s.sc,.int rows,.int cols,.ref g,.tup [.int r,.int c,.bool w]] (setF H s.sc (.inst 1485 (putF 33 (.ref h) s.scF))) fun x H' => x = .none ∧ ∃ s',Is H' s' ∧ Frm s H0 s' H' ∧ s'.sc = s.sc ∧ s'.rows = rows ∧ s'.cols = cols ∧ s'.pen = s.pen ∧ s'.hist = hist ∧ s'.grid = grid ∧ s'.row = r ∧ s'.col = c ∧ s'.wait = w := by
 refine in_1496 _ _ _ _ _ ?_
 unfold cd_1496
 have J0 := I0.ext R.ext
 have i1 := J0.sc
 have n : ∀ {y m},H y = some m → (m.kd == 1488) = false → setF H s.sc (.inst 1485 (putF 33 (.ref h) s.scF)) y = some m := fun z a => at_ne z (ne_kd z i1 a)
 refine Run.loc rfl (Run.loc rfl (r_sattr setF_same rfl rfl ?_))
 refine Run.loc rfl (Run.loc rfl (r_sattr setF_same rfl rfl ?_))
 refine Run.loc rfl (Run.loc rfl (r_sattr setF_same rfl rfl ?_))
 rw [setF_setF,setF_setF,setF_setF]
 have e0 : ∀ m,m = MO.inst 1485 [(3,.int rows),(4,.int cols),(31,.ref s.mo),(32,.ref s.wt),(33,.ref h),(34,.ref g),(35,.ref s.cu),(36,.ref s.ma),(37,.ref s.tb),(38,.ref s.ch),(39,.none),(40,.ref s.la),(41,.bool false)] → setF H s.sc m = setF H s.sc (.inst 1485 [(3,.int rows),(4,.int cols),(31,.ref s.mo),(32,.ref s.wt),(33,.ref h),(34,.ref g),(35,.ref s.cu),(36,.ref s.ma),(37,.ref s.tb),(38,.ref s.ch),(39,.none),(40,.ref s.la),(41,.bool false)]) := fun m q => by rw [q]
 rw [e0]
 rotate_left
 ·rfl
 generalize hH1 : setF H s.sc (.inst 1485 [(3,.int rows),(4,.int cols),(31,.ref s.mo),(32,.ref s.wt),(33,.ref h),(34,.ref g),(35,.ref s.cu),(36,.ref s.ma),(37,.ref s.tb),(38,.ref s.ch),(39,.none),(40,.ref s.la),(41,.bool false)]) = H1
 have o1 : H1 s.sc = some (.inst 1485 [(3,.int rows),(4,.int cols),(31,.ref s.mo),(32,.ref s.wt),(33,.ref h),(34,.ref g),(35,.ref s.cu),(36,.ref s.ma),(37,.ref s.tb),(38,.ref s.ch),(39,.none),(40,.ref s.la),(41,.bool false)]) := by rw [← hH1]; exact setF_same
 have k1 : ∀ y m,H y = some m → y ≠ s.sc → H1 y = some m := fun y m z q => by rw [← hH1]; exact at_ne z q
 clear hH1
 refine Run.lit (Run.loc rfl (Run.loc rfl ?_))
 refine r_call2 ((sp_newMargins rows cols).tu rfl) rfl ?_
 rintro _ _ ⟨ma,rfl,fma,rfl⟩
 refine Run.loc rfl (r_sattr (at_ne o1 (ne_new o1 fma)) rfl rfl ?_)
 generalize hH2 : setF (setF H1 ma _) s.sc _ = H2
 have nma : ma ≠ s.sc := (ne_new o1 fma).symm
 have o2 : H2 s.sc = some (.inst 1485 [(3,.int rows),(4,.int cols),(31,.ref s.mo),(32,.ref s.wt),(33,.ref h),(34,.ref g),(35,.ref s.cu),(36,.ref ma),(37,.ref s.tb),(38,.ref s.ch),(39,.none),(40,.ref s.la),(41,.bool false)]) := by rw [← hH2]; exact setF_same
 have m2 : H2 ma = some (.inst 1109 [(3,.int rows),(4,.int cols),(28,.int 0),(29,.int ((rows : Int) - 1)),(22,.int 0),(23,.int ((cols : Int) - 1))]) := by rw [← hH2]; exact at_ne setF_same nma
 have k2 : ∀ y m,H y = some m → y ≠ s.sc → H2 y = some m := fun y m z q => by rw [← hH2]; exact at_ne (at_ne (k1 y m z q) (ne_new (k1 y m z q) fma)) q
 have fmaH : H ma = none := by
  cases z : H ma with
  | none => rfl
  | some m => rw [k1 _ _ z nma] at fma; cases fma
 clear hH2
 have tb2 := k2 _ _ J0.tb (ne_kd J0.tb i1 rfl)
 have sp2 := k2 _ _ J0.sp (ne_kd J0.sp i1 rfl)
 unfold Scr.tbF at tb2
 walk_at "r"
 refine r_call2 ((sp_resize tb2 sp2 hcols.2).tu rfl) rfl ?_
 rintro _ H3 ⟨rfl,tb3,k3⟩
 obtain ⟨s2,hs2⟩ : ∃ s2,s2 = s.refit rows cols g gl h hl ma hist grid r c false := ⟨_,rfl⟩
 have o3 : H3 s.sc = some (.inst 1485 s2.scF) := by rw [k3 _ _ (ne_kd o2 tb2 rfl) o2,hs2]; rfl
 have m3 : H3 ma = some (.inst 1109 s2.maF) := by rw [k3 _ _ (ne_kd m2 tb2 rfl) m2,hs2]; rfl
 have kk : ∀ y m,H y = some m → y ≠ s.sc → y ≠ s.tb → H3 y = some m := fun y m z q1 q2 => k3 _ _ q2 (k2 _ _ z q1)
 have g3 : H3 s2.gr = some (.inst 396 s2.grF) := by rw [hs2]; exact kk _ _ R.og (ne_kd R.og i1 rfl) (ne_kd R.og J0.tb rfl)
 have gl3 : H3 s2.gl = some (.list (refs s2.grid)) := by rw [hs2]; exact kk _ _ R.ogl (ne_kd R.ogl i1 rfl) (ne_kd R.ogl J0.tb rfl)
 have cu3 : H3 s2.cu = some (.inst 976 { s2 with row := s.row,col := s.col,wait := s.wait }.cuF) := by rw [hs2]; exact kk _ _ J0.cu (ne_kd J0.cu i1 rfl) (ne_kd J0.cu J0.tb rfl)
 obtain ⟨l,hl'⟩ : ∃ l,s2.grid[s2.row]? = some l := by rw [hs2]; exact ⟨_,List.getElem?_eq_getElem (show r < grid.length by rw [R.lg]; exact hr)⟩
 have ll3 : LnAt H3 l := by
  have lm : l ∈ hist ++ grid := by rw [hs2] at hl'; exact List.mem_append_right _ (List.mem_of_getElem? hl')
  have z := R.at_ l lm
  exact ⟨kk _ _ z.o (ne_kd z.o i1 rfl) (ne_kd z.o J0.tb rfl),kk _ _ z.cs (ne_kd z.cs i1 rfl) (ne_kd z.cs J0.tb rfl)⟩
 have e1 : s2.sc = s.sc := by rw [hs2]; rfl
 have e2 : s2.row = r := by rw [hs2]; rfl
 have e3 : s2.col = c := by rw [hs2]; rfl
 have e4 : s2.rows = rows := by rw [hs2]; rfl
 have e5 : s2.cols = cols := by rw [hs2]; rfl
 have e6 : s2.cu = s.cu := by rw [hs2]; rfl
 have o3s : H3 s2.sc = some (.inst 1485 s2.scF) := by rw [e1]; exact o3
 have pl := sp_place (W := W) o3s g3 gl3 cu3 hl' ll3 (by rw [e2,e4]; omega) (by rw [e3,e5]; exact hc) (by rw [hs2]; rfl)
 rw [e1,e2,e3,e6] at pl
 have o3' := o3
 unfold Scr.scF at o3'
 walk_at "r"
 refine r_call3 (pl.tu rfl) rfl ?_
 refine is_elim ?_
 have cu3' : H3 s.cu = some (.inst 976 { s2 with row := s.row,col := s.col,wait := s.wait }.cuF) := by rw [← e6]; exact cu3
 have k4 : ∀ y m,H3 y = some m → y ≠ s.cu → setF H3 s.cu (.inst 976 s2.cuF) y = some m := fun y m z q => at_ne z q
 have o4 : setF H3 s.cu (.inst 976 s2.cuF) s.cu = some (.inst 976 s2.cuF) := setF_same
 generalize setF H3 s.cu (.inst 976 s2.cuF) = H4 at *
 have sc4 := k4 _ _ o3 (ne_kd o3 cu3' rfl)
 have tb4 := k4 _ _ tb3 (ne_kd tb3 cu3' rfl)
 have ma4 := k4 _ _ m3 (ne_kd m3 cu3' rfl)
 have K4 : ∀ y m,H y = some m → y ≠ s.sc → y ≠ s.tb → y ≠ s.cu → H4 y = some m := fun y m z q1 q2 q3 => k4 _ _ (kk y m z q1 q2) q3
 have I4 : Is H4 s2 := by
  rw [hs2] at sc4 o4 ma4 ⊢
  exact I0.refit R hV hrows hcols hh hr hc K4 sc4 tb4 o4 ma4
 have Fr : ∀ {H5 : Hp} {w' : Bool},(∀ y m,H4 y = some m → y ≠ s.cu → H5 y = some m) → Frm s H0 (s.refit rows cols g gl h hl ma hist grid r c w') H5 := fun {H5 w'} k5 => by
  refine ⟨fun y m z q => ?_,fun y hy => ?_⟩
  ·have q1 : y ≠ s.sc := fun e => q (e ▸ foot_sc s)
   have q2 : y ≠ s.cu := fun e => q (e ▸ foot_cu s)
   have q3 : y ≠ s.tb := fun e => q (by rw [e]; unfold Scr.foot; simp)
   exact k5 _ _ (K4 _ _ (R.ext _ _ z) q1 q3 q2) q2
  ·unfold Scr.foot at hy ⊢
   unfold Scr.refit Scr.all at hy
   simp only [List.mem_append,List.mem_cons,List.not_mem_nil,or_false] at hy ⊢
   rcases hy with (rfl | rfl | rfl | rfl | rfl | rfl) | hy | hy
   ·exact .inl (.inl (.inl rfl))
   ·exact .inl (.inl (.inr (.inl rfl)))
   ·exact .inl (.inl (.inr (.inr (.inl rfl))))
   ·exact .inr R.f0.1
   ·exact .inr R.f0.2.2.2
   ·exact .inl (.inl (.inr (.inr (.inr (.inr (.inr rfl))))))
   ·obtain ⟨l,hm,rfl⟩ := List.mem_map.mp hy
    exact .inr (R.fr l hm).1
   ·obtain ⟨l,hm,rfl⟩ := List.mem_map.mp hy
    exact .inr (R.fr l hm).2
 have c4 := o4
 unfold Scr.cuF at c4
 have sc4' := sc4
 unfold Scr.scF at sc4'
 rw [e6] at sc4'
 have last : ∀ {w' : Bool} {ρ : Ro} {k : List I},w' = w → ρ[0]? = some (some (.ref s.sc)) → Run W 4 [I.loc 0,.attr 35,.sattr 13] [.bool w'] ρ H4 (behind fun x H' => x = .none ∧ ∃ s',Is H' s' ∧ Frm s H0 s' H' ∧ s'.sc = s.sc ∧ s'.rows = rows ∧ s'.cols = cols ∧ s'.pen = s.pen ∧ s'.hist = hist ∧ s'.grid = grid ∧ s'.row = r ∧ s'.col = c ∧ s'.wait = w) := by
  intro w' ρ k ew hρ
  subst ew
  refine Run.loc hρ ?_
  walk_at "r1"
  refine r_sattr o4 rfl rfl ?_
  have I5 := I4.setCu s2.row s2.col w' s2.pen (by rw [e2,e4]; exact hr) (by rw [e3,e5]; exact hc)
  have es : ({ s2 with row := s2.row,col := s2.col,wait := w',pen := s2.pen } : Scr) = s.refit rows cols g gl h hl ma hist grid r c w' := by rw [hs2]; rfl
  rw [es,e6] at I5
  have em : putF 13 (.bool w') s2.cuF = (s.refit rows cols g gl h hl ma hist grid r c w').cuF := by rw [hs2]; rfl
  rw [em]
  exact Run.nil ⟨rfl,_,I5,Fr fun y m z q => at_ne z q,rfl,rfl,rfl,rfl,rfl,rfl,rfl,rfl,rfl⟩
 refine Run.pop (Run.loc rfl (Run.chk ?_))
 cases hw' : w with
 | false =>
  rw [hw'] at last
  refine r_f rfl ?_
  refine Run.lit ?_
  exact last (k := []) rfl rfl
 | true =>
  rw [hw'] at last
  have hc1 := hw hw'
  refine r_t rfl ?_
  walk_at "c"
  rw [e3]
  refine r_t (by simp) ?_
  walk_at "c"
  refine r_call1 ((show CallW W 3 (.ref 1249) [.ref s.sc] H4 (is (.int ((s2.cols : Int) - 1)) H4) by rw [← e1]; exact sp_rb I4).tu rfl) rfl ?_
  refine is_elim ?_
  refine r_eq (Run.chk ?_)
  exact last (k := []) (by rw [e5,beq_iff_eq]; omega) rfl
end
abbrev TX := List (List Cell) × List Cell
def sgn (e : Nat × Nat) : Cell := ⟨[e.1],if 19968 ≤ e.1 then 2 else 1,e.2⟩
def markX (t : List Cell) : List Cell := match t.reverse with | [] => [] | c :: r => r.reverse ++ [mkC c]
def stepX (x : TX) (e : Nat × Nat) : TX := if e.1 = 0 then (x.1 ++ [x.2],[]) else if e.1 = 769 then (x.1,markX x.2) else (x.1,x.2 ++ [sgn e])
def txOf (st : List (Nat × Nat)) : TX := st.foldl stepX ([],[])
def layT (cols : Nat) (x : TX) : TS := (x.1.flatMap (fun u => linesG (cut cols u)) ++ (cut cols x.2).1.map (fun p => (p,true)),(cut cols x.2).2)
theorem markX_snoc (t : List Cell) (c : Cell) : markX (t ++ [c]) = t ++ [mkC c] := by unfold markX; simp
theorem cutS_last (cols : Nat) (g : Gp) (c : Cell) : ∃ q,(cutS cols g c).2 = q ++ [c] ∧ (cutS cols g (mkC c)) = ((cutS cols g c).1,q ++ [mkC c]) := by
 unfold cutS
 have e : (mkC c).w = c.w := rfl
 rw [e]
 split
 ·exact ⟨g.2,rfl,rfl⟩
 ·exact ⟨[],rfl,rfl⟩
theorem lay_step (cols : Nat) (x : TX) (e : Nat × Nat) : layT cols (stepX x e) = stepT cols (layT cols x) e := by
 obtain ⟨D,t⟩ := x
 unfold stepX stepT
 split
 ·unfold layT nlT linesG
  simp [cut,List.flatMap_append]
 ·split
  ·rcases List.eq_nil_or_concat t with rfl | ⟨u,c,rfl⟩
   ·rfl
   ·rw [List.concat_eq_append]
    unfold layT
    dsimp only
    rw [markX_snoc,cut_snoc,cut_snoc]
    obtain ⟨q,h1,h2⟩ := cutS_last cols (cut cols u) c
    rw [h1,h2,mkT_snoc]
  ·unfold layT
   dsimp only
   rw [cut_snoc]
   show _ = putT cols _ (sgn e)
   generalize sgn e = c
   unfold cutS putT
   dsimp only
   by_cases q : (cellsOf (cut cols t).2).length + c.w ≤ cols
   ·rw [if_pos q,if_pos q]
   ·rw [if_neg q,if_neg q]; simp
theorem lay_fold (cols : Nat) (st : List (Nat × Nat)) : ∀ x : TX,layT cols (st.foldl stepX x) = st.foldl (stepT cols) (layT cols x) := by
 induction st with
 | nil => intro x; rfl
 | cons e st ih => intro x; rw [List.foldl_cons,List.foldl_cons,ih,lay_step]
theorem lay_of (cols : Nat) (st : List (Nat × Nat)) : layT cols (txOf st) = st.foldl (stepT cols) ([],[]) := lay_fold cols st ([],[])
structure OkG (cols : Nat) (g : Gp) : Prop where
 len : ∀ p ∈ g.ps,(cellsOf p).length ≤ cols
 go : ∀ i p,g.1[i]? = some p → p ≠ [] ∧ ∃ p',g.ps[i + 1]? = some p' ∧ ((cellsOf p).length = cols ∨ ((cellsOf p).length + 1 = cols ∧ ∃ c t,p' = c :: t ∧ c.w = 2))
theorem okG_step {cols : Nat} (hc : 2 ≤ cols) {g : Gp} {c : Cell} (h : OkG cols g) (hw : Sw c) : OkG cols (cutS cols g c) := by
 have cw : 1 ≤ c.w ∧ c.w ≤ 2 := by rcases hw with q | q <;> omega
 unfold cutS
 split
 ·rename_i hf
  refine ⟨fun p hp => ?_,fun i p hi => ?_⟩
  ·unfold Gp.ps at hp
   rcases List.mem_append.mp hp with hp | hp
   ·exact h.len p (by unfold Gp.ps; exact List.mem_append_left _ hp)
   ·rw [List.mem_singleton.mp hp,cellsOf_app,cellsOf_one,List.length_append,sgc_lenw hw]; exact hf
  ·obtain ⟨ne,p',hp',alt⟩ := h.go i p hi
   have lt : i < g.1.length := (List.getElem?_eq_some_iff.mp hi).1
   refine ⟨ne,?_⟩
   unfold Gp.ps at hp' ⊢
   dsimp only at hi ⊢
   by_cases q : i + 1 < g.1.length
   ·rw [List.getElem?_append_left q] at hp' ⊢
    exact ⟨p',hp',alt⟩
   ·have e : i + 1 = g.1.length := by omega
    rw [e,List.getElem?_append_right (Nat.le_refl _),Nat.sub_self] at hp'
    rw [e,List.getElem?_append_right (Nat.le_refl _),Nat.sub_self]
    have : g.2 = p' := Option.some.inj hp'
    refine ⟨g.2 ++ [c],rfl,?_⟩
    rcases alt with a | ⟨a,c0,t0,b,d⟩
    ·exact .inl a
    ·rw [← this] at b; exact .inr ⟨a,c0,t0 ++ [c],by rw [b]; rfl,d⟩
 ·rename_i hf
  have gl : (cellsOf g.2).length ≤ cols := h.len g.2 (by unfold Gp.ps; simp)
  refine ⟨fun p hp => ?_,fun i p hi => ?_⟩
  ·unfold Gp.ps at hp
   rcases List.mem_append.mp hp with hp | hp
   ·exact h.len p hp
   ·rw [List.mem_singleton.mp hp,cellsOf_one,sgc_lenw hw]; omega
  ·dsimp only at hi
   by_cases q : i < g.1.length
   ·rw [List.getElem?_append_left q] at hi
    obtain ⟨ne,p',hp',alt⟩ := h.go i p hi
    refine ⟨ne,p',?_,alt⟩
    unfold Gp.ps at hp' ⊢
    dsimp only
    rw [List.getElem?_append_left (by simp; omega)]; exact hp'
   ·rw [List.getElem?_append_right (by omega)] at hi
    have : i = g.1.length := by have := (List.getElem?_eq_some_iff.mp hi).1; simp at this; omega
    subst this
    rw [Nat.sub_self] at hi
    have : g.2 = p := Option.some.inj hi
    subst this
    refine ⟨fun z => by rw [z] at hf; simp [cellsOf] at hf; omega,[c],?_,?_⟩
    ·unfold Gp.ps; dsimp only; rw [List.getElem?_append_right (by simp)]; simp
    ·rcases hw with w | w
     ·exact .inl (by omega)
     ·by_cases z : (cellsOf g.2).length = cols
      ·exact .inl z
      ·exact .inr ⟨by omega,c,[],rfl,w⟩
theorem okG_cut {cols : Nat} (hc : 2 ≤ cols) (u : List Cell) (hu : ∀ c ∈ u,Sw c) : OkG cols (cut cols u) := by
 have : ∀ (v : List Cell) (g : Gp),OkG cols g → (∀ c ∈ v,Sw c) → OkG cols (v.foldl (cutS cols) g) := by
  intro v
  induction v with
  | nil => intro g h _; exact h
  | cons c v ih => intro g h hv; exact ih _ (okG_step hc h (hv c (by simp))) fun y hy => hv y (by simp [hy])
 exact this u ([],[]) ⟨by intro p hp; unfold Gp.ps at hp; simp at hp; subst hp; exact Nat.zero_le _,by intro i p hi; simp at hi⟩ hu
theorem text_cut (cols : Nat) (u : List Cell) : (cut cols u).text = u := by
 have : ∀ (v : List Cell) (g : Gp),(v.foldl (cutS cols) g).text = g.text ++ v := by
  intro v
  induction v with
  | nil => intro g; simp
  | cons c v ih =>
   intro g
   rw [List.foldl_cons,ih]
   have : (cutS cols g c).text = g.text ++ [c] := by
    unfold cutS Gp.text Gp.ps
    split <;> simp
   rw [this]; simp
 exact this u ([],[])
theorem psOk_flat {cols : Nat} : ∀ (G : List Gp),(∀ g ∈ G,OkG cols g) → (∀ g ∈ G,∀ c ∈ g.text,Sg c) → PsOk cols (G.flatMap linesG)
 | [],_,_ => ⟨by simp,by simp,by simp⟩
 | g :: G,h,hs => by
  have ih := psOk_flat G (fun x hx => h x (by simp [hx])) fun x hx => hs x (by simp [hx])
  have hg := h g (by simp)
  have pm : ∀ p ∈ linesG g,p.1 ∈ g.ps := fun p hp => by
   unfold linesG at hp; unfold Gp.ps
   rcases List.mem_append.mp hp with hp | hp
   ·obtain ⟨x,hx,rfl⟩ := List.mem_map.mp hp; exact List.mem_append_left _ hx
   ·rw [List.mem_singleton.mp hp]; simp
  rw [List.flatMap_cons]
  refine ⟨fun p hp => ?_,fun p hp c hc => ?_,fun i p hi => ?_⟩
  ·rcases List.mem_append.mp hp with hp | hp
   ·exact hg.len _ (pm p hp)
   ·exact ih.len p hp
  ·rcases List.mem_append.mp hp with hp | hp
   ·exact hs g (by simp) c (List.mem_flatten.mpr ⟨p.1,pm p hp,hc⟩)
   ·exact ih.sg p hp c hc
  ·have ll : (linesG g).length = g.1.length + 1 := by simp [linesG]
   by_cases q : i < g.1.length
   ·rw [List.getElem?_append_left (by omega)] at hi
    obtain ⟨b,hb⟩ : ∃ b,g.1[i]? = some b := ⟨_,List.getElem?_eq_getElem q⟩
    rw [linesG_go hb] at hi
    have : b = p := congrArg Prod.fst (Option.some.inj hi)
    subst this
    obtain ⟨ne,p',hp',alt⟩ := hg.go i b hb
    refine ⟨ne,?_⟩
    by_cases q2 : i + 1 < g.1.length
    ·unfold Gp.ps at hp'
     rw [List.getElem?_append_left q2] at hp'
     exact ⟨(p',true),by rw [List.getElem?_append_left (by omega)]; exact linesG_go hp',alt⟩
    ·have e : i + 1 = g.1.length := by omega
     unfold Gp.ps at hp'
     rw [List.getElem?_append_right (by omega),e,Nat.sub_self] at hp'
     have : g.2 = p' := Option.some.inj hp'
     exact ⟨(g.2,false),by rw [List.getElem?_append_left (by omega),e]; exact linesG_end,by rw [this]; exact alt⟩
   ·by_cases q2 : i = g.1.length
    ·rw [List.getElem?_append_left (by omega),q2,linesG_end] at hi
     cases hi
    ·rw [List.getElem?_append_right (by omega)] at hi
     obtain ⟨ne,p',hp',alt⟩ := ih.go _ p hi
     refine ⟨ne,p',?_,alt⟩
     rw [List.getElem?_append_right (by omega),← hp']
     congr 1; omega
def sizeL (D : List (List Cell)) : Nat := (D.map List.length).sum + D.length
structure OkX (n : Nat) (x : TX) : Prop where
 d : ∀ u ∈ x.1,∀ c ∈ u,Sg c ∧ c.cs.length ≤ n + 1
 t : ∀ c ∈ x.2,Sg c ∧ c.cs.length ≤ n + 1
 sz : sizeL x.1 + x.2.length ≤ n
theorem le_sum {l : List Nat} {a : Nat} (h : a ∈ l) : a ≤ l.sum := by
 induction l with
 | nil => cases h
 | cons b l ih =>
  rw [List.sum_cons]
  rcases List.mem_cons.mp h with rfl | h
  ·omega
  ·have := ih h; omega
theorem sizeL_app (D : List (List Cell)) (t : List Cell) : sizeL (D ++ [t]) = sizeL D + (t.length + 1) := by
 unfold sizeL; simp; omega
theorem okX_step {n : Nat} {x : TX} {e : Nat × Nat} (h : OkX n x) (he : e.1 ≠ 0 → e.1 ≠ 769 → True) : OkX (n + 1) (stepX x e) := by
 obtain ⟨h1,h2,h3⟩ := h
 have up : ∀ c : Cell,Sg c ∧ c.cs.length ≤ n + 1 → Sg c ∧ c.cs.length ≤ n + 1 + 1 := fun c hc => ⟨hc.1,by omega⟩
 unfold stepX
 split
 ·refine ⟨fun u hu c hc => ?_,by simp,by rw [sizeL_app]; simp; omega⟩
  rcases List.mem_append.mp hu with hu | hu
  ·exact up c (h1 u hu c hc)
  ·rw [List.mem_singleton.mp hu] at hc; exact up c (h2 c hc)
 ·split
  ·refine ⟨fun u hu c hc => up c (h1 u hu c hc),fun c hc => ?_,?_⟩
   ·dsimp only at hc
    rcases List.eq_nil_or_concat x.2 with e0 | ⟨u,c0,e0⟩
    ·rw [e0] at hc; simp [markX] at hc
    ·rw [List.concat_eq_append] at e0
     rw [e0,markX_snoc] at hc
     rcases List.mem_append.mp hc with hc | hc
     ·exact up c (h2 c (by rw [e0]; simp [hc]))
     ·rw [List.mem_singleton.mp hc]
      have := h2 c0 (by rw [e0]; simp)
      exact ⟨⟨this.1.1,by simp [mkC]⟩,by simp [mkC]; exact this.2⟩
   ·dsimp only
    rcases List.eq_nil_or_concat x.2 with e0 | ⟨u,c0,e0⟩
    ·rw [e0] at h3 ⊢; simp [markX] at h3 ⊢; omega
    ·rw [List.concat_eq_append] at e0
     rw [e0] at h3 ⊢
     rw [markX_snoc]
     simp at h3 ⊢; omega
  ·refine ⟨fun u hu c hc => up c (h1 u hu c hc),fun c hc => ?_,by simp; omega⟩
   rcases List.mem_append.mp hc with hc | hc
   ·exact up c (h2 c hc)
   ·rw [List.mem_singleton.mp hc]
    unfold sgn
    exact ⟨⟨by dsimp only; split <;> simp,by simp⟩,by simp⟩
theorem okX_of (st : List (Nat × Nat)) : OkX st.length (txOf st) := by
 have : ∀ (st : List (Nat × Nat)) (x : TX) (n : Nat),OkX n x → OkX (n + st.length) (st.foldl stepX x) := by
  intro st
  induction st with
  | nil => intro x n h; exact h
  | cons e st ih => intro x n h; rw [List.foldl_cons,List.length_cons,show n + (st.length + 1) = (n + 1) + st.length by omega]; exact ih _ _ (okX_step h fun _ _ => trivial)
 have := this st ([],[]) 0 ⟨by simp,by simp,by simp [sizeL]⟩
 rwa [Nat.zero_add] at this
theorem cut_len (cols : Nat) (u : List Cell) : (cut cols u).1.length ≤ u.length := by
 have : ∀ (v : List Cell) (g : Gp),(v.foldl (cutS cols) g).1.length ≤ g.1.length + v.length := by
  intro v
  induction v with
  | nil => intro g; simp
  | cons c v ih =>
   intro g
   rw [List.foldl_cons]
   refine Nat.le_trans (ih _) ?_
   unfold cutS
   split <;> simp <;> omega
 simpa [cut] using this u ([],[])
theorem lay_len (cols : Nat) (D : List (List Cell)) : (D.flatMap (fun u => linesG (cut cols u))).length ≤ sizeL D := by
 induction D with
 | nil => simp
 | cons u D ih =>
  have := cut_len cols u
  have e : sizeL (u :: D) = sizeL D + (u.length + 1) := by unfold sizeL; simp; omega
  rw [List.flatMap_cons,List.length_append,e]
  have : (linesG (cut cols u)).length = (cut cols u).1.length + 1 := by simp [linesG]
  omega
theorem layT_len {cols n : Nat} {x : TX} (h : OkX n x) : (layT cols x).1.length ≤ n := by
 have := lay_len cols x.1
 have h2 := cut_len cols x.2
 have h3 := h.sz
 unfold layT
 simp only [List.length_append,List.length_map]; omega
theorem layT_sg {cols n : Nat} {x : TX} (h : OkX n x) : ∀ c ∈ (layT cols x).2,Sg c ∧ c.cs.length ≤ n + 1 := fun c hc => by
 refine h.t c ?_
 rw [← text_cut cols x.2]
 unfold Gp.text Gp.ps
 exact List.mem_flatten.mpr ⟨_,List.mem_append_right _ (List.mem_singleton.mpr rfl),hc⟩
def grps (cols m : Nat) (x : TX) : List Gp := (x.1 ++ [x.2]).map (cut cols) ++ List.replicate m ([],[])
theorem flat_map_cut (cols : Nat) (D : List (List Cell)) : (D.map (cut cols)).flatMap linesG = D.flatMap (fun u => linesG (cut cols u)) := by
 induction D with
 | nil => rfl
 | cons u D ih => simp [ih]
theorem grps_lines (cols m : Nat) (x : TX) : (grps cols m x).flatMap linesG = (layT cols x).1 ++ [((layT cols x).2,false)] ++ List.replicate m ([],false) := by
 unfold grps layT
 rw [List.flatMap_append,flat_map_cut,List.flatMap_append]
 have e : (List.replicate m (([],[]) : Gp)).flatMap linesG = List.replicate m ([],false) := by
  induction m with
  | zero => rfl
  | succ m ih => rw [List.replicate_succ,List.flatMap_cons,ih,List.replicate_succ]; rfl
 rw [e]
 simp [linesG]
theorem lay_at {H : Hp} {s : Scr} {x : TX} {n : Nat} (h : Is H s) (g : GoodT s (layT s.cols x)) (hx : OkX n x) (hn : n ≤ 60) : LayAt s (grps s.cols (s.rows - ((layT s.cols x).1.length + 1)) x) x.1.length (cut s.cols x.2) := by
 have hcl := h.cl
 have hrw := h.rwb
 have sw : ∀ u ∈ x.1 ++ [x.2],∀ c ∈ u,Sg c := fun u hu c hc => by
  rcases List.mem_append.mp hu with hu | hu
  ·exact (hx.d u hu c hc).1
  ·rw [List.mem_singleton.mp hu] at hc; exact (hx.t c hc).1
 have hG : ∀ g ∈ grps s.cols (s.rows - ((layT s.cols x).1.length + 1)) x,OkG s.cols g ∧ ∃ u,g.text = u ∧ (u = [] ∨ u ∈ x.1 ++ [x.2]) := fun g hg => by
  unfold grps at hg
  rcases List.mem_append.mp hg with hg | hg
  ·obtain ⟨u,hu,rfl⟩ := List.mem_map.mp hg
   exact ⟨okG_cut hcl.1 u fun c hc => (sw u hu c hc).1,u,text_cut _ _,.inr hu⟩
  ·rw [(List.mem_replicate.mp hg).2]
   exact ⟨okG_cut (cols := s.cols) hcl.1 [] (by simp),[],rfl,.inl rfl⟩
 have ll := layT_len (cols := s.cols) hx
 have glen : (grps s.cols (s.rows - ((layT s.cols x).1.length + 1)) x).length = x.1.length + 1 + (s.rows - ((layT s.cols x).1.length + 1)) := by unfold grps; simp; omega
 have gat : (grps s.cols (s.rows - ((layT s.cols x).1.length + 1)) x)[x.1.length]? = some (cut s.cols x.2) := by
  unfold grps
  rw [List.getElem?_append_left (by simp),List.getElem?_map,List.getElem?_append_right (by omega),Nat.sub_self]; rfl
 have goff : offG (grps s.cols (s.rows - ((layT s.cols x).1.length + 1)) x) x.1.length = (x.1.flatMap (fun u => linesG (cut s.cols u))).length := by
  unfold offG grps
  rw [List.take_append_of_le_length (by simp),← List.map_take,List.take_left,flat_map_cut]
 have xD : x.1.length ≤ n := by have := hx.sz; unfold sizeL at this; omega
 obtain ⟨⟨lv,first,row,col,wait,plen,wf⟩,sg⟩ := g
 unfold TS.ls at lv first row col wait plen
 simp only [List.length_map] at lv first row col wait plen
 have szu : ∀ u ∈ x.1 ++ [x.2],u.length ≤ n := fun u hu => by
  have h3 := hx.sz
  rcases List.mem_append.mp hu with hu | hu
  ·have : u.length ≤ (x.1.map List.length).sum := le_sum (List.mem_map_of_mem hu)
   unfold sizeL at h3; omega
  ·rw [List.mem_singleton.mp hu]; omega
 refine ⟨?_,psOk_flat _ (fun g hg => (hG g hg).1) (fun g hg c hc => ?_),fun g hg => ?_,⟨gat,?_,?_⟩,fun j g hj hg => ?_,fun z => ?_,?_,fun cols hc i => ?_⟩
 ·rw [lv,grps_lines]
  unfold fullL
  simp only [List.map_append,List.map_map,List.map_cons,List.map_nil,List.map_replicate]
  congr 2
 ·obtain ⟨_,u,e,hu⟩ := hG g hg
  rw [e] at hc
  rcases hu with rfl | hu
  ·cases hc
  ·exact sw u hu c hc
 ·obtain ⟨_,u,e,hu⟩ := hG g hg
  rw [e]
  rcases hu with rfl | hu
  ·simp
  ·have := szu u hu; omega
 ·rw [goff,row]
  unfold layT
  simp
 ·show s.col + (if s.wait then 1 else 0) = (cellsOf (layT s.cols x).2).length
  rw [wait]
  by_cases q : (cellsOf (layT s.cols x).2).length = s.cols
  ·rw [if_pos (by rw [beq_iff_eq]; exact q)]; omega
  ·rw [if_neg (by rw [beq_iff_eq]; exact q)]; omega
 ·unfold grps at hg
  rw [List.getElem?_append_right (by simp; omega),List.getElem?_replicate] at hg
  split at hg
  ·exact (Option.some.inj hg).symm
  ·cases hg
 ·omega
 ·have := h.len
  omega
 ·have e : ∀ (Gs : List Gp),(∀ g ∈ Gs,True) → (Gs.flatMap fun g => viewG cols (cut cols g.text)).length ≤ sizeL (Gs.map Gp.text) := by
   intro Gs _
   induction Gs with
   | nil => simp
   | cons g Gs ih =>
    have i2 := ih fun _ _ => trivial
    have e2 : sizeL ((g :: Gs).map Gp.text) = sizeL (Gs.map Gp.text) + (g.text.length + 1) := by unfold sizeL; simp; omega
    rw [List.flatMap_cons,List.length_append,e2,viewG_len]
    have := cut_len cols g.text
    omega
  have e3 : (newV cols (grps s.cols (s.rows - ((layT s.cols x).1.length + 1)) x) i).length ≤ sizeL ((grps s.cols (s.rows - ((layT s.cols x).1.length + 1)) x).map Gp.text) := by
   refine Nat.le_trans (Nat.le_trans ?_ (e _ fun _ _ => trivial)) (Nat.le_refl _)
   unfold newV
   have := congrArg (fun l : List Gp => (l.flatMap fun g => viewG cols (cut cols g.text)).length) (List.take_append_drop i (grps s.cols (s.rows - ((layT s.cols x).1.length + 1)) x))
   simp only [List.flatMap_append,List.length_append] at this
   omega
  have e4 : (grps s.cols (s.rows - ((layT s.cols x).1.length + 1)) x).map Gp.text = (x.1 ++ [x.2]) ++ List.replicate (s.rows - ((layT s.cols x).1.length + 1)) [] := by
   unfold grps
   rw [List.map_append,List.map_map,List.map_replicate]
   have : (Gp.text ∘ cut s.cols) = id := by funext u; exact text_cut _ _
   rw [this,List.map_id]; rfl
  rw [e4] at e3
  have e5 : ∀ (A : List (List Cell)) (m : Nat),sizeL (A ++ List.replicate m []) = sizeL A + m := by
   intro A m; unfold sizeL; simp; omega
  rw [e5,sizeL_app] at e3
  have := hx.sz
  omega
theorem v1_full {s : Scr} {cols : Nat} {x : TX} {m : Nat} : V1 cols (grps s.cols m x) x.1.length (cut s.cols x.2) = fullL cols (layT cols x).ls := by
 unfold V1 newV fullL TS.ls layT grps viewG
 rw [text_cut]
 have e : ((x.1 ++ [x.2]).map (cut s.cols) ++ List.replicate m ([],[])).take x.1.length = x.1.map (cut s.cols) := by
  rw [List.take_append_of_le_length (by simp),← List.map_take,List.take_left]
 rw [e]
 have e2 : ∀ D : List (List Cell),(D.map (cut s.cols)).flatMap (fun g => (linesG (cut cols g.text)).map (fun q => padP cols (cellsOf q.1,q.2))) = (D.flatMap (fun u => linesG (cut cols u))).map (fun q => padP cols (cellsOf q.1,q.2)) := by
  intro D
  induction D with
  | nil => rfl
  | cons u D ih => simp only [List.map_cons,List.flatMap_cons,List.map_append,ih,text_cut]
 rw [e2]
 simp [linesG,Function.comp_def]
theorem good_refit {H H' : Hp} {s s' : Scr} {x : TX} {n rows cols g gl h hl : Nat} {hist grid : List Ln} (hx : OkX n x) (hcols : 2 ≤ cols) (R : ReflR rows cols H H' g gl h hl hist grid (fullL cols (layT cols x).ls)) (e1 : s'.rows = rows) (e2 : s'.cols = cols) (e3 : s'.hist = hist) (e4 : s'.grid = grid)
  (e5 : s'.row = (fullL cols (layT cols x).ls).length - 1 - ((fullL cols (layT cols x).ls).length - rows)) (e6 : s'.col = min (cellsOf (layT cols x).2).length (cols - 1)) (e7 : s'.wait = ((cellsOf (layT cols x).2).length == cols)) (hr : 1 ≤ rows) (hn : n ≤ 400) : GoodT s' (layT cols x) := by
 have fl : (fullL cols (layT cols x).ls).length = (layT cols x).1.length + 1 := by unfold fullL TS.ls; simp
 have sg := layT_sg (cols := cols) hx
 refine ⟨⟨?_,?_,?_,?_,?_,?_,(layT cols x).2,rfl,fun c hc => (sg c hc).1⟩,fun c hc => ⟨(sg c hc).1,?_⟩⟩
 ·unfold Scr.lv Scr.all
  rw [e3,e4,R.view,fl,e1,e2]
  unfold TS.ls
  simp only [List.length_map]
  rfl
 ·rw [e3,e1,R.lh,fl]
  unfold TS.ls; simp
 ·rw [e3,e5,R.lh,fl]
  unfold TS.ls
  simp only [List.length_map]; omega
 ·rw [e6,e2]; rfl
 ·rw [e7,e2]; rfl
 ·rw [e2]
  exact cut_le hcols x.2 fun c hc => ((hx.t c hc).1).1
 ·have := (sg c hc).2; omega
theorem pl_ne : (S "cells" = S "place") = False := by simp only [eq_iff_iff,iff_false]; decide +kernel
theorem pl_ne' : (S "place" = S "cells") = False := by simp only [eq_iff_iff,iff_false]; decide +kernel
def dkL (cl p : Nat) : List (Str × V) := [(S "cells",.ref cl),(S "place",.int (p : Int))]
structure Dk (H : Hp) (dk cl : Nat) (cs : List Nat) (p : Nat) : Prop where
 d : H dk = some (.dict (dkL cl p))
 c : H cl = some (.list (isV cs))
 n : cs.length ≤ 63
theorem Dk.ext {H H' : Hp} {dk cl p : Nat} {cs : List Nat} (h : Dk H dk cl cs p) (e : Ext H H') : Dk H' dk cl cs p := ⟨e _ _ h.d,e _ _ h.c,h.n⟩
theorem at_place (cl p : Nat) : dAt (S "place") (dkL cl p) = some (.int (p : Int)) := by unfold dAt dkL; simp [pl_ne]
theorem at_cells (cl p : Nat) : dAt (S "cells") (dkL cl p) = some (.ref cl) := by unfold dAt dkL; simp
theorem put_place (cl p q : Nat) : dPut (S "place") (.int (q : Int)) (dkL cl p) = dkL cl q := by unfold dPut dkL; simp [pl_ne]
theorem fmod_lt (v : Int) {b : Nat} (hb : 1 ≤ b) : ∃ u : Nat,u < b ∧ v.fmod (b : Int) = (u : Int) := by
 have h1 := Int.fmod_nonneg_of_pos v (show (0 : Int) < b by omega)
 have h2 := Int.fmod_lt_of_pos v (show (0 : Int) < b by omega)
 obtain ⟨u,e⟩ := Int.eq_ofNat_of_zero_le h1
 exact ⟨u,by omega,e⟩
section
variable {W : Wx} {H : Hp}
theorem sp_take {dk cl p : Nat} {cs : List Nat} {b : Nat} (h : Dk H dk cl cs p) (hb : 1 ≤ b) (hp : p ≤ 900) : CallW W 1 (.ref 1510) [.ref dk,.int b] H fun x H' => ∃ v : Nat,v < b ∧ x = .int v ∧ H' = setF H dk (.dict (dkL cl (p + 1))) := by
 refine in_1510 _ _ ?_
 unfold cd_1510
 walk_at "r"
 refine r_didx h.d (at_place _ _) ?_
 walk_at "r"
 refine r_dset h.d (by simp [dkL]) ?_
 rw [show ((p : Int) + 1) = ((p + 1 : Nat) : Int) by omega,put_place]
 have d1 : setF H dk (.dict (dkL cl (p + 1))) dk = some (.dict (dkL cl (p + 1))) := setF_same
 have c1 : setF H dk (.dict (dkL cl (p + 1))) cl = some (.list (isV cs)) := at_ne h.c (ne_kd h.c h.d rfl)
 generalize setF H dk (.dict (dkL cl (p + 1))) = H1 at *
 have hn := h.n
 have il : (isV cs).length = cs.length := by simp [isV]
 walk_at "r"
 refine r_didx d1 (at_cells _ _) ?_
 refine r_len c1 (by omega) ?_
 walk_at "r"
 rw [il]
 by_cases q : p < cs.length
 ·refine r_t (decide_eq_true (by omega)) ?_
  walk_at "c"
  refine r_didx d1 (at_cells _ _) ?_
  walk_at "r"
  refine r_idx c1 (by omega) (at_nat (x := .int (cs[p]'q : Nat)) (by simp [isV,List.getElem?_eq_getElem q])) ?_
  walk_at "r"
  refine r_mod (by omega) ?_
  obtain ⟨u,hu,e⟩ := fmod_lt ((cs[p]'q : Nat) : Int) hb
  rw [e]
  exact Run.ret ⟨u,hu,rfl,rfl⟩
 ·refine r_f (decide_eq_false (by omega)) ?_
  walk_at "c"
  refine r_mul (IntMulOk.of_right (by decide +kernel)) ?_
  walk_at "r"
  refine r_fdiv (by omega) (PyProof.noPylong_small (by decide)) ?_
  walk_at "r"
  refine r_mod (by omega) ?_
  obtain ⟨u,hu,e⟩ := fmod_lt ((p : Int) * 5 + (p : Int).fdiv 3) hb
  rw [e]
  exact Run.ret ⟨u,hu,rfl,rfl⟩
theorem sp_cuplace {c r co : Nat} {fs : List (Nat × V)} (e : H c = some (.inst 976 ((11,.int r) :: (12,.int co) :: fs))) : CallW W 1 (.ref 966) [.ref c] H (is (.tup [.int r,.int co]) H) := by
 refine in_966 _ ?_
 unfold cd_966
 walk_at "r"
 exact Run.ret ⟨rfl,rfl⟩
theorem eqv_pd (k : Nat) : PyData.eqv (pd k) (pd k) = true := by
 unfold pd
 split <;> simp [PyData.eqv,PyData.eqvAll]
theorem sp_cuEquals {s t : Scr} (e : H s.cu = some (.inst 976 s.cuF)) (e' : H t.cu = some (.inst 976 t.cuF)) (h1 : s.row = t.row) (h2 : s.col = t.col) (h3 : s.wait = t.wait) (h4 : s.pen = t.pen) : CallW W 2 (.ref 973) [.ref s.cu,.ref t.cu] H (is (.bool true) H) := by
 refine in_973 _ _ ?_
 unfold cd_973
 unfold Scr.cuF at e e'
 have hp : (pn t.pen).hand = true := by obtain ⟨a,b,c,e⟩ := pn_shape t.pen; rw [e]; rfl
 rw [h1,h2,h3,h4] at e
 walk_at "r"
 refine r_call1 ((sp_cuplace e).tu rfl) rfl ?_
 refine is_elim ?_
 walk_at "r"
 refine r_call1 ((sp_cuplace e').tu rfl) rfl ?_
 refine is_elim ?_
 refine r_neD (n := 1) (m := 1) (b := false) (.tup (.cons .int (.cons .int .nil))) (.tup (.cons .int (.cons .int .nil))) (by omega) (by omega) (by simp [PyData.eqv,PyData.eqvAll]) ?_
 walk_at "r"
 refine r_neb ?_
 walk_at "r"
 rw [bne_self_eq_false]
 refine r_f rfl ?_
 walk_at "c"
 refine r_neD (n := 1) (m := 1) (b := false) (dat_pen (n := 0) t.pen) (dat_pen (n := 0) t.pen) (by omega) (by omega) (by rw [eqv_pd]; rfl) ?_
 walk_at "r"
 refine r_eqb ?_
 walk_at "r"
 refine r_eqb ?_
 walk_at "r"
 exact Run.ret ⟨rfl,rfl⟩
theorem r_zipEq {a b : Nat} {la lb : List Ln} {k : List I} {st : List V} {ρ : Ro} {Q : Out → Prop} (ea : H a = some (.list (refs la))) (eb : H b = some (.list (refs lb))) (hv : la.map (fun l => (l.cells,l.wr)) = lb.map (fun l => (l.cells,l.wr))) (ha : ∀ l ∈ la,LnAt H l) (hb : ∀ l ∈ lb,LnAt H l) (hn : la.length ≤ 1000)
  (h : ∀ H',Ext H H' → Run W 1 k (.bool true :: st) ρ H' Q) : Run W 1 (.lc .zip 2 [none,none] [.unp 2,.sto 0,.sto 1] [.loc 0,.mth 2,.loc 1,.call 2] :: .call 1 :: k) (.ref b :: .ref a :: .raw (.builtin "all") :: st) ρ H Q := by
 have hl : la.length = lb.length := by have := congrArg List.length hv; simpa using this
 have zl : ((refs la).zipWith (fun x y => V.tup [x,y]) (refs lb)).length = la.length := by simp [refs,hl]
 refine Run.lc (l := (refs la).zipWith (fun x y => V.tup [x,y]) (refs lb)) (args := [.ref a,.ref b]) (J := fun i acc H' => acc = List.replicate i (.bool true) ∧ H' = H) rfl rfl ⟨rfl,rfl⟩ (fun i acc H' _ hj => ⟨_,_,by rw [hj.2]; exact ea,by rw [hj.2]; exact eb,rfl⟩) (by rw [zl]; exact hn) (fun i x acc H' hx hac hj => ?_) (fun acc H' hac hj c hc => ?_)
 ·obtain ⟨rfl,rfl⟩ := hj
  have hi : i < la.length := by
   by_cases q : i < la.length
   ·exact q
   ·rw [List.getElem?_eq_none (by omega)] at hx; cases hx
  have e1 := List.getElem?_eq_getElem hi
  have e2 := List.getElem?_eq_getElem (show i < lb.length by omega)
  have hx' : ((refs la).zipWith (fun x y => V.tup [x,y]) (refs lb))[i]? = some (.tup [.ref (la[i]'hi).a,.ref (lb[i]'(by omega)).a]) := by
   rw [List.getElem?_zipWith]; unfold refs; rw [List.getElem?_map,List.getElem?_map,e1,e2]; rfl
  rw [hx'] at hx
  cases hx
  have ev : ((la[i]'hi).cells,(la[i]'hi).wr) = ((lb[i]'(by omega)).cells,(lb[i]'(by omega)).wr) := by
   have := congrArg (fun l => l[i]?) hv
   simp only [List.getElem?_map,e1,e2,Option.map_some,Option.some.injEq] at this
   exact this
  have o1 := ha _ (List.getElem_mem hi)
  have o2 := hb _ (List.getElem_mem (show i < lb.length by omega))
  have o1' := o1.o
  walk_at "c"
  refine r_call2 ((sp_Line_equals o1 o2 (congrArg Prod.fst ev) (congrArg Prod.snd ev)).tu rfl) rfl ?_
  refine is_elim ?_
  exact Run.nil ⟨by rw [List.replicate_succ'],rfl⟩
 ·obtain ⟨rfl,rfl⟩ := hj
  refine r_all setF_same ?_
  exact h _ (Ext.new hc)
theorem sp_grEquals {s t : Scr} (e : H s.gr = some (.inst 396 s.grF)) (e' : H t.gr = some (.inst 396 t.grF)) (ea : H s.gl = some (.list (refs s.grid))) (eb : H t.gl = some (.list (refs t.grid))) (h1 : s.rows = t.rows) (h2 : s.cols = t.cols) (hv : s.grid.map (fun l => (l.cells,l.wr)) = t.grid.map (fun l => (l.cells,l.wr))) (ha : ∀ l ∈ s.grid,LnAt H l) (hb : ∀ l ∈ t.grid,LnAt H l) (hn : s.grid.length ≤ 1000) :
  CallW W 2 (.ref 388) [.ref s.gr,.ref t.gr] H fun x H' => x = .bool true ∧ Ext H H' := by
 refine in_388 _ _ ?_
 unfold cd_388
 unfold Scr.grF at e e'
 rw [h1,h2] at e
 walk_at "r"
 refine r_f (by simp) ?_
 walk_at "c"
 refine r_f (by simp) ?_
 walk_at "c"
 refine Run.has (by intro j hj; simp at hj) ?_
 walk_at "r"
 refine r_zipEq ea eb hv ha hb hn fun H' E => ?_
 exact Run.ret ⟨rfl,E⟩
theorem sp_hiEquals {s t : Scr} (e : H s.hi = some (.inst 478 s.hiF)) (e' : H t.hi = some (.inst 478 t.hiF)) (ea : H s.hl = some (.list (refs s.hist))) (eb : H t.hl = some (.list (refs t.hist))) (hv : s.hist.map (fun l => (l.cells,l.wr)) = t.hist.map (fun l => (l.cells,l.wr))) (ha : ∀ l ∈ s.hist,LnAt H l) (hb : ∀ l ∈ t.hist,LnAt H l) (hn : s.hist.length ≤ 1000) :
  CallW W 3 (.ref 475) [.ref s.hi,.ref t.hi] H fun x H' => x = .bool true ∧ Ext H H' := by
 have hl : s.hist.length = t.hist.length := by have := congrArg List.length hv; simpa using this
 have l1 : (refs s.hist).length = s.hist.length := by simp [refs]
 have l2 : (refs t.hist).length = t.hist.length := by simp [refs]
 have inner : CallW W 2 (.ref 487) [.ref s.hl,.ref t.hl] H fun x H' => x = .bool true ∧ Ext H H' := by
  refine in_487 _ _ ?_
  unfold cd_487
  walk_at "r"
  refine r_f (by rw [l1,l2,hl]; simp) ?_
  walk_at "c"
  refine Run.has (by intro j hj; simp at hj) ?_
  walk_at "r"
  refine r_zipEq ea eb hv ha hb hn fun H' E => ?_
  exact Run.ret ⟨rfl,E⟩
 refine in_475 _ _ ?_
 unfold cd_475
 unfold Scr.hiF at e e'
 walk_at "r"
 refine r_call2 (inner.tu rfl) rfl ?_
 rintro _ H' ⟨rfl,E⟩
 exact Run.ret ⟨rfl,E⟩
end
def Kp (a : Nat) (H H' : Hp) : Prop := ∀ y m,y ≠ a → H y = some m → H' y = some m
theorem Kp.of {a : Nat} {H H' : Hp} (e : Ext H H') : Kp a H H' := fun y m _ z => e y m z
theorem Kp.trans {a : Nat} {H H' H'' : Hp} (k : Kp a H H') (k' : Kp a H' H'') : Kp a H H'' := fun y m q z => k' y m q (k y m q z)
theorem Kp.bk {a : Nat} {H H' : Hp} {m : MO} (k : Kp a H H') (o : H' a = some m) {y : Nat} (h : H' y = none) : H y = none := by
 cases z : H y with
 | none => rfl
 | some v =>
  by_cases q : y = a
  ·rw [q,o] at h; cases h
  ·rw [k _ _ q z] at h; cases h
theorem Kp.ext {a : Nat} {H H' : Hp} {m : MO} (k : Kp a (setF H a m) H') (ha : H a = none) : Ext H H' := fun y v z => k y v (ne_new z ha) (Ext.new ha _ _ z)
section
variable {W : Wx} {H : Hp}
theorem r_sattrK {d : Nat} {k : List I} {st : List V} {ρ : Ro} {Q : Out → Prop} {a C f : Nat} {fs : List (Nat × V)} {v : V} (e : H a = some (.inst C fs)) (hf : okF C f = true) (hl : Nat.ble fs.length 100 = true) (h : ∀ H',H' a = some (.inst C (putF f v fs)) → Kp a H H' → Run W d k st ρ H' Q) : Run W d (.sattr f :: k) (.ref a :: v :: st) ρ H Q :=
 r_sattr e hf hl (h _ setF_same fun _ _ q z => at_ne z q)
theorem r_dct0E {d : Nat} {k : List I} {st : List V} {ρ : Ro} {Q : Out → Prop} (h : ∀ c H',H c = none → H' c = some (.dict []) → Ext H H' → Run W d k (.ref c :: st) ρ H' Q) : Run W d (.dct 0 :: k) st ρ H Q := Run.dct0 fun c hc => h c _ hc setF_same (Ext.new hc)
theorem onL_step : ∀ {i : Nat} {x : V},([.str (S "send_receive"),.str (S "autowrap"),.str (S "autorepeat"),.str (S "show_cursor"),.str (S "num_lock")] : List V)[i]? = some x → i < 5 ∧ ∃ s,x = .str s ∧ dPut s (.bool true) (onL.take i) = onL.take (i + 1)
 | 0,_,h => by cases h; exact ⟨by omega,_,rfl,by kernel_rfl⟩
 | 1,_,h => by cases h; exact ⟨by omega,_,rfl,by kernel_rfl⟩
 | 2,_,h => by cases h; exact ⟨by omega,_,rfl,by kernel_rfl⟩
 | 3,_,h => by cases h; exact ⟨by omega,_,rfl,by kernel_rfl⟩
 | 4,_,h => by cases h; exact ⟨by omega,_,rfl,by kernel_rfl⟩
 | n + 5,_,h => by simp at h
theorem sp_newModes : CallW W 2 (.ref 792) [] H fun x H' => ∃ m st kp,x = .ref m ∧ H m = none ∧ H st = none ∧ H kp = none ∧ H' m = some (.inst 792 [(18,.ref st),(19,.ref kp)]) ∧ H' st = some (.dict onL) ∧ H' kp = some (.dict []) ∧ Ext H H' := by
 refine call_cls (f := 775) (R := fun x H' => ∃ m st kp,x = .ref m ∧ H m = none ∧ H st = none ∧ H kp = none ∧ H' m = some (.inst 792 [(18,.ref st),(19,.ref kp)]) ∧ H' st = some (.dict onL) ∧ H' kp = some (.dict []) ∧ Ext H H') (by decide) fun m hm => ?_
 refine in_775 _ ?_
 unfold cd_775
 obtain ⟨H0,e0⟩ : ∃ H0,H0 = setF H m (.inst 792 []) := ⟨_,rfl⟩
 rw [← e0]
 have o0 : H0 m = some (.inst 792 []) := by rw [e0]; exact setF_same
 have x0 : Ext H H0 := by rw [e0]; exact Ext.new hm
 clear e0
 refine r_dct0E fun st H1 f1 g1 E1 => ?_
 have o1 := E1 _ _ o0
 walk_at "r"
 refine r_sattrK o1 rfl rfl fun H2 o2 k2 => ?_
 have g2 := k2 _ _ (ne_new o0 f1).symm g1
 refine r_dct0E fun kp H3 f3 g3 E3 => ?_
 have o3 := E3 _ _ o2
 have s3 := E3 _ _ g2
 walk_at "r"
 refine r_sattrK o3 rfl rfl fun H4 o4 k4 => ?_
 have s4 := k4 _ _ (ne_new o0 f1).symm s3
 have g4 := k4 _ _ (ne_new o2 f3).symm g3
 have x4 : Ext H H4 := fun y v z => k4 _ _ (ne_new z hm) (E3 _ _ (k2 _ _ (ne_new z hm) (E1 _ _ (x0 _ _ z))))
 have f3' : H kp = none := by
  refine back x0 (back E1 ?_)
  exact k2.bk o2 f3
 have f1' := back x0 f1
 have sk : st ≠ kp := ne_new g2 f3
 clear f1 f3 o1 o2 o3 g1 g2 g3 s3 k2 k4 E1 E3 x0 o0
 have o4' : H4 m = some (.inst 792 [(18,.ref st),(19,.ref kp)]) := o4
 clear o4
 walk_at "r"
 refine Run.fr (l := [.str (S "send_receive"),.str (S "autowrap"),.str (S "autorepeat"),.str (S "show_cursor"),.str (S "num_lock")]) (args := [.tup [.str (S "send_receive"),.str (S "autowrap"),.str (S "autorepeat"),.str (S "show_cursor"),.str (S "num_lock")]])
  (J := fun i ρ H' => (∃ w,ρ = [some (.ref m),w]) ∧ H' m = some (.inst 792 [(18,.ref st),(19,.ref kp)]) ∧ H' st = some (.dict (onL.take i)) ∧ H' kp = some (.dict []) ∧ Ext H H') (Z := fun _ _ => False) rfl rfl ⟨⟨_,rfl⟩,o4',s4,g4,x4⟩ (fun i ρ H' _ _ => rfl) (fun i x ρ H' hx hj => ?_) ?_ (fun _ _ z => z.elim)
 ·obtain ⟨⟨w,rfl⟩,a1,a2,a3,a4⟩ := hj
  obtain ⟨hi,s,rfl,hp⟩ := onL_step hx
  walk_at "c"
  refine r_dset a2 (by simp [onL]; omega) ?_
  rw [hp]
  exact Run.nil ⟨⟨_,rfl⟩,at_ne a1 (ne_kd a1 a2 rfl),setF_same,at_ne a3 sk.symm,a4.upd f1'⟩
 ·rintro ρ H' ⟨⟨w,rfl⟩,a1,a2,a3,a4⟩
  exact Run.nil ⟨rfl,m,st,kp,rfl,hm,f1',f3',a1,a2,a3,a4⟩
theorem sp_check {a : Nat} {L : List (Nat × Nat)} (e : H a = some (.list (L.map fun p => .tup [.int (p.1 : Nat),.int (p.2 : Nat)]))) (hL : L.length ≤ 1) (h : ∀ p ∈ L,p.1 ≤ p.2) : CallW W 1 (.ref 685) [.ref a] H (is .none H) := by
 refine in_685 _ ?_
 unfold cd_685
 walk_at "r"
 refine Run.fr (l := (L.map fun p => V.tup [.int (p.1 : Nat),.int (p.2 : Nat)]).zipIdx.map fun p => .tup [.int p.2,p.1]) (args := [.ref a]) (J := fun i ρ H' => H' = H ∧ ρ.length = 5 ∧ (i = 0 → ρ[1]? = some (some (.int (-1))))) (Z := fun _ _ => False) rfl rfl ⟨rfl,rfl,fun _ => rfl⟩ (fun i ρ H' _ hj => ⟨_,by rw [hj.1]; exact e,rfl⟩) (fun i x ρ H' hx hj => ?_) ?_ (fun _ _ z => z.elim)
 ·obtain ⟨rfl,hl,hr⟩ := hj
  rcases L with _ | ⟨p,_ | ⟨p',L⟩⟩
  ·simp at hx
  ·rcases i with _ | i
   ·have hp := h p (by simp)
    simp at hx
    subst hx
    have hr0 := hr rfl
    obtain ⟨r0,r1,r2,r3,r4,rfl⟩ : ∃ r0 r1 r2 r3 r4,ρ = [r0,r1,r2,r3,r4] := by
     match ρ,hl with
     | [r0,r1,r2,r3,r4],_ => exact ⟨_,_,_,_,_,rfl⟩
    simp at hr0
    subst hr0
    walk_at "c"
    rw [show decide ((p.1 : Int) ≤ (p.2 : Int)) = true from decide_eq_true (by omega)]
    refine r_f rfl ?_
    walk_at "c"
    exact Run.nil ⟨rfl,rfl,by simp⟩
   ·simp at hx
  ·simp at hL
 ·rintro ρ H' ⟨rfl,_,_⟩
  exact Run.nil ⟨rfl,rfl⟩
theorem sp_newWidths {a1 a2 a3 : Nat} (e1 : H a1 = some (.list [.tup [.int 19968,.int 20223]])) (e2 : H a2 = some (.list [.tup [.int 768,.int 879]])) (e3 : H a3 = some (.list [])) :
  CallW W 3 (.ref 716) [.ref a1,.ref a2,.ref a3] H fun x H' => ∃ w c1 c2 c3,x = .ref w ∧ H w = none ∧ H c1 = none ∧ H c2 = none ∧ H c3 = none ∧ H' w = some (.inst 716 [(15,.ref c1),(16,.ref c2),(17,.ref c3)]) ∧ H' c1 = some (.list [.tup [.int 19968,.int 20223]]) ∧ H' c2 = some (.list [.tup [.int 768,.int 879]]) ∧ Ext H H' := by
 refine call_cls (f := 699) (R := fun x H' => ∃ w c1 c2 c3,x = .ref w ∧ H w = none ∧ H c1 = none ∧ H c2 = none ∧ H c3 = none ∧ H' w = some (.inst 716 [(15,.ref c1),(16,.ref c2),(17,.ref c3)]) ∧ H' c1 = some (.list [.tup [.int 19968,.int 20223]]) ∧ H' c2 = some (.list [.tup [.int 768,.int 879]]) ∧ Ext H H') (by decide) fun m hm => ?_
 refine in_699 _ _ _ _ ?_
 unfold cd_699
 obtain ⟨H0,e0⟩ : ∃ H0,H0 = setF H m (.inst 716 []) := ⟨_,rfl⟩
 rw [← e0]
 have o0 : H0 m = some (.inst 716 []) := by rw [e0]; exact setF_same
 have x0 : Ext H H0 := by rw [e0]; exact Ext.new hm
 have e1 := x0 _ _ e1
 have e2 := x0 _ _ e2
 have e3 := x0 _ _ e3
 clear e0
 walk_at "r"
 refine r_listE e1 (by simp) fun c1 H1 f1 g1 E1 => ?_
 walk_at "r"
 refine r_sattrK (E1 _ _ o0) rfl rfl fun H2 o2 k2 => ?_
 have g12 := k2 _ _ (ne_new o0 f1).symm g1
 have K2 : Kp m H0 H2 := (Kp.of E1).trans k2
 have e2 := K2 _ _ (ne_kd e2 o0 rfl) e2
 have e3 := K2 _ _ (ne_kd e3 o0 rfl) e3
 walk_at "r"
 refine r_listE e2 (by simp) fun c2 H3 f3 g3 E3 => ?_
 walk_at "r"
 refine r_sattrK (E3 _ _ o2) rfl rfl fun H4 o4 k4 => ?_
 have g32 := k4 _ _ (ne_new o2 f3).symm g3
 have K4 : Kp m H2 H4 := (Kp.of E3).trans k4
 have e3 := K4 _ _ (ne_kd e3 o2 rfl) e3
 walk_at "r"
 refine r_listE e3 (by simp) fun c3 H5 f5 g5 E5 => ?_
 walk_at "r"
 refine r_sattrK (E5 _ _ o4) rfl rfl fun H6 o6 k6 => ?_
 have K6 : Kp m H4 H6 := (Kp.of E5).trans k6
 have g52 := k6 _ _ (ne_new o4 f5).symm g5
 have g13 := K4 _ _ (ne_new o0 f1).symm g12
 have g14 := K6 _ _ (ne_new o0 f1).symm g13
 have g34 := K6 _ _ (ne_new o2 f3).symm g32
 have X : Ext H H6 := fun y v z => K6 _ _ (ne_new z hm) (K4 _ _ (ne_new z hm) (K2 _ _ (ne_new z hm) (x0 _ _ z)))
 have n1 := back x0 f1
 have n2 := back x0 (K2.bk o2 f3)
 have n3 := back x0 (K2.bk o2 (K4.bk o4 f5))
 have o6' : H6 m = some (.inst 716 [(15,.ref c1),(16,.ref c2),(17,.ref c3)]) := o6
 clear o6 e1 e2 e3 K2 K4 K6 k2 k4 k6 E1 E3 E5 f1 f3 f5 g1 g3 g5 g12 g13 g32 o2 o4 o0 x0
 walk_at "r"
 refine Run.fr (l := [.ref c1,.ref c2,.ref c3]) (args := [.tup [.ref c1,.ref c2,.ref c3]]) (J := fun i ρ H' => H' = H6 ∧ ∃ w,ρ = [some (.ref m),some (.ref a1),some (.ref a2),some (.ref a3),w]) (Z := fun _ _ => False) rfl rfl ⟨rfl,_,rfl⟩ (fun i ρ H' _ _ => rfl) (fun i x ρ H' hx hj => ?_) ?_ (fun _ _ z => z.elim)
 ·obtain ⟨rfl,w,rfl⟩ := hj
  obtain ⟨c,rfl,hc⟩ : ∃ c,x = .ref c ∧ CallW W 1 (.ref 685) [.ref c] H' (is .none H') := by
   match i,hx with
   | 0,hx => cases hx; exact ⟨_,rfl,sp_check (L := [(19968,20223)]) g14 (by simp) (by simp)⟩
   | 1,hx => cases hx; exact ⟨_,rfl,sp_check (L := [(768,879)]) g34 (by simp) (by simp)⟩
   | 2,hx => cases hx; exact ⟨_,rfl,sp_check (L := []) g52 (by simp) (by simp)⟩
   | n + 3,hx => simp at hx
  walk_at "c"
  refine r_call1 (hc.tu rfl) rfl ?_
  refine is_elim ?_
  walk_at "r"
  exact Run.nil ⟨rfl,_,rfl⟩
 ·rintro ρ H' ⟨rfl,w,rfl⟩
  exact Run.nil ⟨rfl,m,c1,c2,c3,rfl,hm,n1,n2,n3,o6',g14,g34,X⟩
theorem sp_newCursor : CallW W 2 (.ref 976) [] H fun x H' => ∃ c,x = .ref c ∧ H c = none ∧ H' c = some (.inst 976 [(11,.int 0),(12,.int 0),(13,.bool false),(25,pn 0),(26,.bool false),(27,.bool false)]) ∧ Ext H H' := by
 refine call_cls (f := 945) (R := fun x H' => ∃ c,x = .ref c ∧ H c = none ∧ H' c = some (.inst 976 [(11,.int 0),(12,.int 0),(13,.bool false),(25,pn 0),(26,.bool false),(27,.bool false)]) ∧ Ext H H') (by decide) fun m hm => ?_
 refine in_945 _ ?_
 unfold cd_945
 walk_at "r"
 refine r_sattr setF_same rfl rfl ?_
 walk_at "r"
 refine r_sattr setF_same rfl rfl ?_
 walk_at "r"
 refine r_sattr setF_same rfl rfl ?_
 walk_at "r"
 refine r_sattr setF_same rfl rfl ?_
 walk_at "r"
 refine r_sattr setF_same rfl rfl ?_
 walk_at "r"
 refine r_sattr setF_same rfl rfl ?_
 rw [setF_setF,setF_setF,setF_setF,setF_setF,setF_setF,setF_setF]
 exact Run.nil ⟨rfl,m,rfl,hm,setF_same,Ext.new hm⟩
theorem sp_newTabs {cols : Nat} (hc : cols ≤ 7) : CallW W 3 (.ref 1208) [.int cols] H fun x H' => ∃ t sp,x = .ref t ∧ H t = none ∧ H sp = none ∧ H' t = some (.inst 1208 [(4,.int cols),(30,.ref sp)]) ∧ H' sp = some (.dict []) ∧ Ext H H' := by
 refine call_cls (f := 1127) (R := fun x H' => ∃ t sp,x = .ref t ∧ H t = none ∧ H sp = none ∧ H' t = some (.inst 1208 [(4,.int cols),(30,.ref sp)]) ∧ H' sp = some (.dict []) ∧ Ext H H') (by decide) fun m hm => ?_
 refine in_1127 _ _ ?_
 unfold cd_1127
 obtain ⟨H0,e0⟩ : ∃ H0,H0 = setF H m (.inst 1208 []) := ⟨_,rfl⟩
 rw [← e0]
 have o0 : H0 m = some (.inst 1208 []) := by rw [e0]; exact setF_same
 have x0 : Ext H H0 := by rw [e0]; exact Ext.new hm
 clear e0
 walk_at "r"
 refine r_sattrK o0 rfl rfl fun H1 o1 k1 => ?_
 refine r_dct0E fun sp H2 f2 g2 E2 => ?_
 walk_at "r"
 refine r_sattrK (E2 _ _ o1) rfl rfl fun H3 o3 k3 => ?_
 have g3 := k3 _ _ (ne_new o1 f2).symm g2
 have o3' : H3 m = some (.inst 1208 [(4,.int cols),(30,.ref sp)]) := o3
 walk_at "r"
 refine r_call2 ((sp_eighths (b := 0) o3' hc).tu rfl) rfl ?_
 refine is_elim ?_
 walk_at "r"
 exact Run.nil ⟨rfl,m,sp,rfl,hm,back x0 (k1.bk o1 f2),o3',g3,fun y v z => k3 _ _ (ne_new z hm) (E2 _ _ (k1 _ _ (ne_new z hm) (x0 _ _ z)))⟩
theorem sp_newCharsets : CallW W 3 (.ref 920) [] H fun x H' => ∃ c md nm,x = .ref c ∧ H c = none ∧ H md = none ∧ H nm = none ∧ H' c = some (.inst 920 [(20,.ref md),(21,.ref nm),(22,.int 0),(23,.int 2),(24,.none)]) ∧ H' md = some (.dict []) ∧ H' nm = some (.list nmL) ∧ Ext H H' := by
 refine call_cls (f := 846) (R := fun x H' => ∃ c md nm,x = .ref c ∧ H c = none ∧ H md = none ∧ H nm = none ∧ H' c = some (.inst 920 [(20,.ref md),(21,.ref nm),(22,.int 0),(23,.int 2),(24,.none)]) ∧ H' md = some (.dict []) ∧ H' nm = some (.list nmL) ∧ Ext H H') (by decide) fun m hm => ?_
 refine in_846 _ ?_
 unfold cd_846
 obtain ⟨H0,e0⟩ : ∃ H0,H0 = setF H m (.inst 920 []) := ⟨_,rfl⟩
 rw [← e0]
 have o0 : H0 m = some (.inst 920 []) := by rw [e0]; exact setF_same
 have x0 : Ext H H0 := by rw [e0]; exact Ext.new hm
 clear e0
 walk_at "r"
 refine r_dct0E fun md H2 f2 g2 E2 => ?_
 walk_at "r"
 refine r_sattrK (E2 _ _ o0) rfl rfl fun H3 o3 k3 => ?_
 have g3 := k3 _ _ (ne_new o0 f2).symm g2
 have o3' : H3 m = some (.inst 920 [(20,.ref md)]) := o3
 have rs : CallW W 1 (.ref 860) [.ref m] H3 fun x H' => x = .none ∧ ∃ nm,H3 nm = none ∧ H' m = some (.inst 920 [(20,.ref md),(21,.ref nm),(22,.int 0),(23,.int 2),(24,.none)]) ∧ H' nm = some (.list nmL) ∧ Kp m H3 H' := by
  refine in_860 _ ?_
  unfold cd_860
  walk_at "r"
  refine r_lst4 fun nm f4 => ?_
  walk_at "r"
  have n0 := ne_new o3' f4
  refine r_sattr (at_ne o3' n0) rfl rfl ?_
  walk_at "r"
  refine r_sattr setF_same rfl rfl ?_
  walk_at "r"
  refine r_sattr setF_same rfl rfl ?_
  walk_at "r"
  refine r_sattr setF_same rfl rfl ?_
  rw [setF_setF,setF_setF,setF_setF]
  exact Run.nil ⟨rfl,nm,f4,setF_same,at_ne setF_same n0.symm,fun y v q z => at_ne (Ext.new f4 _ _ z) q⟩
 walk_at "r"
 refine r_call1 (rs.tu rfl) rfl ?_
 rintro _ H4 ⟨rfl,nm,f4,o4,g4,k4⟩
 walk_at "r"
 exact Run.nil ⟨rfl,m,md,nm,rfl,hm,back x0 f2,back x0 (back E2 (k3.bk o3 f4)),o4,k4 _ _ (ne_new o0 f2).symm g3,g4,fun y v z => k4 _ _ (ne_new z hm) (k3 _ _ (ne_new z hm) (E2 _ _ (x0 _ _ z)))⟩
end
section
variable {W : Wx} {H : Hp}
structure NewS (H H' : Hp) (sc mo wt hi rows cols : Nat) (g gl cu ma tb sp ch md nm la : Nat) (ls : List Ln) : Prop where
 osc : H' sc = some (.inst 1485 [(3,.int rows),(4,.int cols),(31,.ref mo),(32,.ref wt),(33,.ref hi),(34,.ref g),(35,.ref cu),(36,.ref ma),(37,.ref tb),(38,.ref ch),(39,.none),(40,.ref la),(41,.bool false)])
 og : H' g = some (.inst 396 [(3,.int rows),(4,.int cols),(5,.ref gl)])
 ogl : H' gl = some (.list (refs ls))
 ocu : H' cu = some (.inst 976 [(11,.int 0),(12,.int 0),(13,.bool false),(25,pn 0),(26,.bool false),(27,.bool false)])
 oma : H' ma = some (.inst 1109 [(3,.int rows),(4,.int cols),(28,.int 0),(29,.int ((rows : Int) - 1)),(22,.int 0),(23,.int ((cols : Int) - 1))])
 otb : H' tb = some (.inst 1208 [(4,.int cols),(30,.ref sp)])
 osp : H' sp = some (.dict [])
 och : H' ch = some (.inst 920 [(20,.ref md),(21,.ref nm),(22,.int 0),(23,.int 2),(24,.none)])
 omd : H' md = some (.dict [])
 onm : H' nm = some (.list nmL)
 ons : NewL0 rows cols H ls H'
 cg : ∀ l ∈ ls,l.c ≠ gl
 cn : ∀ l ∈ ls,l.c ≠ nm
 ms : md ≠ sp
 fr : H g = none ∧ H gl = none ∧ H cu = none ∧ H tb = none ∧ H md = none ∧ H nm = none
 kp : Kp sc H H'
theorem sp_Screen_init {sc mo wt hi rows cols : Nat} (e : H sc = some (.inst 1485 [])) (hr : 1 ≤ rows ∧ rows ≤ 7) (hc : 1 ≤ cols ∧ cols ≤ 7) :
  CallW W 8 (.ref 1228) [.ref sc,.int rows,.int cols,.ref mo,.ref wt,.ref hi] H fun x H' => x = .none ∧ ∃ g gl cu ma tb sp ch md nm la ls,NewS H H' sc mo wt hi rows cols g gl cu ma tb sp ch md nm la ls := by
 refine in_1228 _ _ _ _ _ _ ?_
 unfold cd_1228
 walk_at "r"
 refine r_sattr e rfl rfl ?_
 walk_at "r"
 refine r_sattr setF_same rfl rfl ?_
 walk_at "r"
 refine r_sattr setF_same rfl rfl ?_
 walk_at "r"
 refine r_sattr setF_same rfl rfl ?_
 walk_at "r"
 refine r_sattr setF_same rfl rfl ?_
 rw [setF_setF,setF_setF,setF_setF,setF_setF]
 obtain ⟨H1,e1⟩ : ∃ H1,H1 = setF H sc (.inst 1485 [(3,.int rows),(4,.int cols),(31,.ref mo),(32,.ref wt),(33,.ref hi)]) := ⟨_,rfl⟩
 refine (show setF H sc (.inst 1485 (putF 33 (.ref hi) (putF 32 (.ref wt) (putF 31 (.ref mo) (putF 4 (.int cols) (putF 3 (.int rows) [])))))) = H1 from e1.symm) ▸ ?_
 have o1 : H1 sc = some (.inst 1485 [(3,.int rows),(4,.int cols),(31,.ref mo),(32,.ref wt),(33,.ref hi)]) := by rw [e1]; exact setF_same
 have k1 : Kp sc H H1 := by rw [e1]; exact fun y v q z => at_ne z q
 clear e1
 walk_at "r"
 refine r_call2 ((sp_newGrid rows cols hr hc).tu rfl) rfl ?_
 rintro _ H2 ⟨g,gl,ls,rfl,fg,fgl,og,ogl,N,ncg,E2⟩
 walk_at "r"
 have b1 : ∀ y,H1 y = none → H y = none := fun y => k1.bk o1
 have ng1 := ne_new o1 fg
 have ngl1 := ne_new o1 fgl
 refine r_sattrK (E2 _ _ o1) rfl rfl fun H3 o3 k3 => ?_
 have q2 : Kp sc H1 H3 := (Kp.of E2).trans k3
 have b3 : ∀ y,H3 y = none → H1 y = none := fun y => q2.bk o3
 have lsn : ∀ l ∈ ls,l.a ≠ sc ∧ l.c ≠ sc := fun l hl => ⟨(ne_new o1 (N.fr l hl).1).symm,(ne_new o1 (N.fr l hl).2).symm⟩
 walk_at "r"
 refine r_call0 (sp_newCursor.tu rfl) rfl ?_
 rintro _ H4 ⟨cu,rfl,fcu,ocu,E4⟩
 walk_at "r"
 have ncu := ne_new o3 fcu
 refine r_sattrK (E4 _ _ o3) rfl rfl fun H5 o5 k5 => ?_
 have q4 : Kp sc H3 H5 := (Kp.of E4).trans k5
 have b5 : ∀ y,H5 y = none → H3 y = none := fun y => q4.bk o5
 walk_at "r"
 refine r_call2 ((sp_newMargins rows cols).tu rfl) rfl ?_
 rintro _ H6 ⟨ma,rfl,fma,rfl⟩
 have E6 : Ext H5 _ := Ext.new (m := .inst 1109 [(3,.int rows),(4,.int cols),(28,.int 0),(29,.int ((rows : Int) - 1)),(22,.int 0),(23,.int ((cols : Int) - 1))]) fma
 have oma : setF H5 ma (.inst 1109 [(3,.int rows),(4,.int cols),(28,.int 0),(29,.int ((rows : Int) - 1)),(22,.int 0),(23,.int ((cols : Int) - 1))]) ma = _ := setF_same
 generalize setF H5 ma (.inst 1109 [(3,.int rows),(4,.int cols),(28,.int 0),(29,.int ((rows : Int) - 1)),(22,.int 0),(23,.int ((cols : Int) - 1))]) = H6 at *
 walk_at "r"
 have nma := ne_new o5 fma
 refine r_sattrK (E6 _ _ o5) rfl rfl fun H7 o7 k7 => ?_
 have q6 : Kp sc H5 H7 := (Kp.of E6).trans k7
 have b7 : ∀ y,H7 y = none → H5 y = none := fun y => q6.bk o7
 walk_at "r"
 refine r_call1 ((sp_newTabs (cols := cols) (by omega)).tu rfl) rfl ?_
 rintro _ H8 ⟨tb,sp,rfl,ftb,fsp,otb,osp,E8⟩
 walk_at "r"
 have ntb := ne_new o7 ftb
 have nsp := ne_new o7 fsp
 refine r_sattrK (E8 _ _ o7) rfl rfl fun H9 o9 k9 => ?_
 have q8 : Kp sc H7 H9 := (Kp.of E8).trans k9
 have b9 : ∀ y,H9 y = none → H7 y = none := fun y => q8.bk o9
 have otb9 := k9 _ _ ntb.symm otb
 have osp9 := k9 _ _ nsp.symm osp
 walk_at "r"
 refine r_call0 (sp_newCharsets.tu rfl) rfl ?_
 rintro _ HA ⟨ch,md,nm,rfl,fch,fmd,fnm,och,omd,onm,EA⟩
 walk_at "r"
 have nch := ne_new o9 fch
 have nmd := ne_new o9 fmd
 have nnm := ne_new o9 fnm
 have mdsp := (ne_new osp9 fmd).symm
 refine r_sattrK (EA _ _ o9) rfl rfl fun HB oB kB => ?_
 have qA : Kp sc H9 HB := (Kp.of EA).trans kB
 walk_at "r"
 refine r_sattrK oB rfl rfl fun HC oC kC => ?_
 refine r_lst0E fun la HD fla gla ED => ?_
 walk_at "r"
 refine r_sattrK (ED _ _ oC) rfl rfl fun HE oE kE => ?_
 walk_at "r"
 refine r_sattrK oE rfl rfl fun HF oF kF => ?_
 have qF : Kp sc HB HF := ((kC.trans (Kp.of ED)).trans kE).trans kF
 have qFA : Kp sc HA HF := kB.trans qF
 have qF9 : Kp sc H9 HF := qA.trans qF
 have qF7 := q8.trans qF9
 have qF6 := k7.trans qF7
 have qF5 := q6.trans qF7
 have qF4 := k5.trans qF5
 have qF3 := q4.trans qF5
 have qF2 := k3.trans qF3
 have c39 : ∀ l ∈ ls,l.c ≠ nm := fun l hl => by
  have z := q8 _ _ (lsn l hl).2 (q6 _ _ (lsn l hl).2 (q4 _ _ (lsn l hl).2 (k3 _ _ (lsn l hl).2 (N.at_ l hl).cs)))
  exact ne_new z fnm
 refine Run.nil ⟨rfl,g,gl,cu,ma,tb,sp,ch,md,nm,la,ls,oF,qF2 _ _ ng1.symm og,qF2 _ _ ngl1.symm ogl,qF4 _ _ ncu.symm ocu,qF6 _ _ nma.symm oma,qF9 _ _ ntb.symm otb9,qF9 _ _ nsp.symm osp9,qFA _ _ nch.symm och,qFA _ _ nmd.symm omd,qFA _ _ nnm.symm onm,
  ⟨N.len,fun l hl => ⟨qF2 _ _ (lsn l hl).1 (N.at_ l hl).o,qF2 _ _ (lsn l hl).2 (N.at_ l hl).cs⟩,fun l hl => ⟨b1 _ (N.fr l hl).1,b1 _ (N.fr l hl).2⟩,N.cs,N.nda,N.ndc⟩,ncg,c39,mdsp,
  ⟨b1 _ fg,b1 _ fgl,b1 _ (b3 _ fcu),b1 _ (b3 _ (b5 _ (b7 _ ftb))),b1 _ (b3 _ (b5 _ (b7 _ (b9 _ fmd)))),b1 _ (b3 _ (b5 _ (b7 _ (b9 _ fnm))))⟩,k1.trans (q2.trans qF3)⟩
structure NewScr (H : Hp) (rows cols : Nat) (s : Scr) (H' : Hp) : Prop where
 is_ : Is H' s
 erows : s.rows = rows
 ecols : s.cols = cols
 hist : s.hist = []
 grid : s.grid.length = rows ∧ ∀ l ∈ s.grid,l.cells = List.replicate cols blank ∧ l.wr = false
 cur : s.row = 0 ∧ s.col = 0 ∧ s.wait = false ∧ s.pen = 0
 new : ∀ a ∈ s.foot,H a = none
 ext : Ext H H'
theorem sp_newScreen {rows cols : Nat} (hr : 1 ≤ rows ∧ rows ≤ 4) (hc : 2 ≤ cols ∧ cols ≤ 7) :
  CallW W 10 (.ref 1517) [.int rows,.int cols] H fun x H' => ∃ s,x = .ref s.sc ∧ NewScr H rows cols s H' := by
 refine in_1517 _ _ ?_
 unfold cd_1517
 walk_at "r"
 refine r_call0 (sp_newModes.tu rfl) rfl ?_
 rintro _ H1 ⟨mo,st,kp,rfl,fmo,fst,fkp,omo,ost,okp,E1⟩
 walk_at "r"
 refine r_lst1E fun a1 H2 f1 g1 E2 => ?_
 walk_at "r"
 refine r_lst1E fun a2 H3 f2 g2 E3 => ?_
 refine r_lst0E fun a3 H4 f3 g3 E4 => ?_
 refine r_call3 ((sp_newWidths (E4 _ _ (E3 _ _ g1)) (E4 _ _ g2) g3).tu rfl) rfl ?_
 rintro _ H5 ⟨wt,c1,c2,c3,rfl,fwt,fc1,fc2,fc3,owt,oc1,oc2,E5⟩
 walk_at "r"
 refine r_call1 ((sp_newHist 400).tu rfl) rfl ?_
 rintro _ H6 ⟨hi,hl,rfl,fhi,fhl,ohi,ohl,E6⟩
 have X1 : Ext H1 H6 := (E2.trans (E3.trans (E4.trans E5))).trans E6
 have X0 : Ext H H6 := E1.trans X1
 have sci : CallW W 9 (.ref 1485) [.int rows,.int cols,.ref mo,.ref wt,.ref hi] H6 fun x H' => ∃ sc g gl cu ma tb sp ch md nm la ls,x = .ref sc ∧ H6 sc = none ∧ NewS (setF H6 sc (.inst 1485 [])) H' sc mo wt hi rows cols g gl cu ma tb sp ch md nm la ls := by
  refine call_cls (f := 1228) (R := fun x H' => ∃ sc g gl cu ma tb sp ch md nm la ls,x = .ref sc ∧ H6 sc = none ∧ NewS (setF H6 sc (.inst 1485 [])) H' sc mo wt hi rows cols g gl cu ma tb sp ch md nm la ls) (by decide) fun sc hsc => (sp_Screen_init setF_same (by omega) (by omega)).mono ?_
  rintro _ H' ⟨rfl,g,gl,cu,ma,tb,sp,ch,md,nm,la,ls,N⟩
  exact ⟨rfl,sc,g,gl,cu,ma,tb,sp,ch,md,nm,la,ls,rfl,hsc,N⟩
 refine r_call5 (sci.tu rfl) rfl ?_
 rintro _ H7 ⟨sc,g,gl,cu,ma,tb,sp,ch,md,nm,la,ls,rfl,fsc,N⟩
 have X7 : Ext H6 H7 := N.kp.ext fsc
 have bk6 : ∀ y,setF H6 sc (.inst 1485 []) y = none → H6 y = none := fun y => back (Ext.new fsc)
 have bk0 : ∀ y,H6 y = none → H y = none := fun y => back X0
 obtain ⟨fg,fgl,fcu,ftb,fmd,fnm⟩ := N.fr
 have ohi7 := X7 _ _ ohi
 have ohl7 := X7 _ _ ohl
 refine Run.ret ⟨⟨sc,g,gl,hi,hl,cu,ma,ch,md,nm,mo,st,kp,wt,c1,c2,c3,tb,sp,la,rows,cols,[],ls,0,0,false,0⟩,rfl,⟨N.osc,N.og,N.ogl,ohi7,ohl7,N.ocu,N.oma,N.och,.inl N.omd,N.onm,X7 _ _ (X1 _ _ omo),X7 _ _ (X1 _ _ ost),X7 _ _ (E6 _ _ owt),X7 _ _ (E6 _ _ oc1),X7 _ _ (E6 _ _ oc2),N.otb,N.osp,N.ons.at_,fun l hl => ?_,?_,N.ons.nda,N.ons.ndc,⟨?_,N.ms⟩,fun l hl => ?_,hr,hc,N.ons.len,by simp,by dsimp only; omega,by dsimp only; omega⟩,rfl,rfl,rfl,⟨N.ons.len,N.ons.cs⟩,⟨rfl,rfl,rfl,rfl⟩,?_,X0.trans X7⟩
 ·have f6 := bk6 _ (N.ons.fr l hl).2
  simp only [List.mem_cons,List.not_mem_nil,or_false,not_or]
  exact ⟨N.cg l hl,(ne_new ohl f6).symm,N.cn l hl,(ne_new (E6 _ _ oc1) f6).symm,(ne_new (E6 _ _ oc2) f6).symm⟩
 ·simp only [List.mem_cons,List.not_mem_nil,or_false,not_or]
  exact ⟨ne_new ohl (bk6 _ fgl),ne_new ohl (bk6 _ fnm),(ne_new oc1 fhl).symm,(ne_new oc2 fhl).symm⟩
 ·exact (ne_new (X1 _ _ ost) (bk6 _ fmd)).symm
 ·have := (N.ons.cs l hl).1
  rw [this]; simp
 ·intro a ha
  unfold Scr.foot Scr.all at ha
  simp only [List.nil_append,List.mem_append,List.mem_cons,List.not_mem_nil,or_false,List.mem_map] at ha
  rcases ha with (rfl | rfl | rfl | rfl | rfl | rfl) | ⟨l,hl,rfl⟩ | ⟨l,hl,rfl⟩
  ·exact bk0 _ fsc
  ·exact bk0 _ (bk6 _ fcu)
  ·exact bk0 _ (bk6 _ fmd)
  ·exact bk0 _ (bk6 _ fg)
  ·exact back (E1.trans (E2.trans (E3.trans (E4.trans E5)))) fhl
  ·exact bk0 _ (bk6 _ ftb)
  ·exact bk0 _ (bk6 _ (N.ons.fr l hl).1)
  ·exact bk0 _ (bk6 _ (N.ons.fr l hl).2)
end
theorem good0 {H H' : Hp} {rows cols : Nat} {s : Scr} (N : NewScr H rows cols s H') : GoodT s ([],[]) := by
 have hcl := N.is_.cl
 have hrw := N.is_.rwb
 obtain ⟨g1,g2⟩ := N.grid
 obtain ⟨c1,c2,c3,c4⟩ := N.cur
 refine ⟨⟨?_,?_,?_,?_,?_,?_,[],rfl,by simp⟩,by simp⟩
 ·have e : s.lv = List.replicate s.rows (List.replicate s.cols blank,false) := by
   unfold Scr.lv Scr.all
   rw [N.hist,List.nil_append]
   refine List.eq_replicate_iff.mpr ⟨by simp [g1,N.erows],fun q hq => ?_⟩
   obtain ⟨l,hl,rfl⟩ := List.mem_map.mp hq
   rw [(g2 l hl).1,(g2 l hl).2,N.ecols]
  rw [e]
  unfold fullL TS.ls padP
  simp only [List.map_nil,List.nil_append,List.map_cons,List.length_nil,cellsOf,List.flatMap_nil,Nat.sub_zero,Nat.zero_add,List.cons_append]
  rw [show s.rows = (s.rows - 1) + 1 by omega,List.replicate_succ]
  simp
 ·rw [N.hist]; simp [TS.ls]; omega
 ·rw [N.hist,c1]; simp [TS.ls]
 ·rw [c2]; simp [TS.ls,cellsOf]
 ·rw [c3]; simp [TS.ls,cellsOf]; omega
 ·simp [TS.ls,cellsOf]
def stV (st : List (Nat × Nat)) : List V := st.map fun e => .tup [.int (e.1 : Nat),pn e.2]
def OkC (e : Nat × Nat) : Prop := e.1 = 0 ∨ e.1 = 769 ∨ (97 ≤ e.1 ∧ e.1 ≤ 122) ∨ (19968 ≤ e.1 ∧ e.1 ≤ 20000)
def penL (st : List (Nat × Nat)) : Nat := (st.getLast?.map (·.2)).getD 0
structure Oth (m : MO) : Prop where
 i : ∀ C fs,MO.inst C fs ≠ m
 d : MO.dict [] ≠ m
 o : MO.dict onL ≠ m
 l : ∀ x ls,MO.list (refs (x :: ls)) ≠ m
 n : MO.list nmL ≠ m
 w : MO.list [.tup [.int 19968,.int 20223]] ≠ m
 k : MO.list [.tup [.int 768,.int 879]] ≠ m
theorem oth_dk (cl p : Nat) : Oth (.dict (dkL cl p)) := by
 refine ⟨fun _ _ h => ?_,fun h => ?_,fun h => ?_,fun _ _ h => ?_,fun h => ?_,fun h => ?_,fun h => ?_⟩
 ·cases h
 ·cases h
 ·unfold onL dkL at h
  injection h with h
  have := congrArg List.length h
  simp at this
 ·cases h
 ·cases h
 ·cases h
 ·cases h
theorem pn_tup (k : Nat) : ∃ l,pn k = .tup l := by obtain ⟨a,b,c,e⟩ := pn_shape k; exact ⟨_,e⟩
theorem oth_st (st : List (Nat × Nat)) : Oth (.list (stV st)) := by
 refine ⟨fun _ _ h => ?_,fun h => ?_,fun h => ?_,fun x ls h => ?_,fun h => ?_,fun h => ?_,fun h => ?_⟩
 ·cases h
 ·cases h
 ·cases h
 all_goals cases st with
 | nil => simp [stV,refs,nmL] at h
 | cons e st => obtain ⟨l,hl⟩ := pn_tup e.2; simp [stV,refs,nmL,hl] at h
theorem Is.keep {H H' : Hp} {s : Scr} {b : Nat} {m0 : MO} (h : Is H s) (hb : b ∉ s.foot) (h0 : H b = some m0) (ho : Oth m0) (k : ∀ a m,H a = some m → a ≠ b → H' a = some m) : Is H' s := by
 have n : ∀ {a m},H a = some m → m ≠ m0 → H' a = some m := fun {a m} x q => k a m x fun z => by subst z; rw [x] at h0; cases h0; exact q rfl
 have f : ∀ {a m},H a = some m → a ∈ s.foot → H' a = some m := fun {a m} x q => k a m x fun z => hb (z ▸ q)
 have fa : ∀ l ∈ s.all,l.a ∈ s.foot := fun l hl => by
  unfold Scr.foot; exact List.mem_append_right _ (List.mem_append_left _ (List.mem_map_of_mem hl))
 have fc : ∀ l ∈ s.all,l.c ∈ s.foot := fun l hl => by
  unfold Scr.foot; exact List.mem_append_right _ (List.mem_append_right _ (List.mem_map_of_mem hl))
 have gl : MO.list (refs s.grid) ≠ m0 := by
  have := h.gn
  have hr := h.rwb
  cases q : s.grid with
  | nil => rw [q] at this; simp at this; omega
  | cons x ls => exact ho.l x ls
 exact ⟨f h.sc (by simp [Scr.foot]),f h.gr (by simp [Scr.foot]),n h.gl gl,n h.hi (ho.i _ _),f h.hl (by simp [Scr.foot]),f h.cu (by simp [Scr.foot]),n h.ma (ho.i _ _),n h.ch (ho.i _ _),h.md.imp (fun x => n x ho.d) fun ⟨x,a,b⟩ => ⟨x,f a (by simp [Scr.foot]),n b ho.d⟩,n h.nm ho.n,n h.mo (ho.i _ _),n h.st ho.o,n h.wt (ho.i _ _),n h.wd ho.w,n h.mkr ho.k,f h.tb (by simp [Scr.foot]),n h.sp ho.d,
  fun l hl => ⟨f (h.ln l hl).o (fa l hl),f (h.ln l hl).cs (fc l hl)⟩,h.sep,h.hs,h.nda,h.ndc,h.ms,h.wid,h.rwb,h.cl,h.gn,h.hn,h.rb,h.cb⟩
theorem Frm.out {s s' : Scr} {H H' : Hp} (f : Frm s H s' H') {a : Nat} {m : MO} (h : H a = some m) (ha : a ∉ s.foot) : H' a = some m ∧ a ∉ s'.foot := ⟨f.keep a m h ha,fun z => by
 rcases f.new a z with q | q
 ·exact ha q
 ·rw [q] at h; cases h⟩
structure Lw (H : Hp) (s : Scr) (dk cl sm : Nat) (cs : List Nat) (p : Nat) (st : List (Nat × Nat)) : Prop where
 is_ : Is H s
 good : GoodT s (layT s.cols (txOf st))
 deck : Dk H dk cl cs p
 stm : H sm = some (.list (stV st))
 out : dk ∉ s.foot ∧ cl ∉ s.foot ∧ sm ∉ s.foot
 ne : sm ≠ cl
 pen : s.pen = penL st
 ok : ∀ e ∈ st,OkC e
theorem Lw.ext {H H' : Hp} {s : Scr} {dk cl sm p : Nat} {cs : List Nat} {st : List (Nat × Nat)} (h : Lw H s dk cl sm cs p st) (e : Ext H H') : Lw H' s dk cl sm cs p st := ⟨h.is_.ext e,h.good,h.deck.ext e,e _ _ h.stm,h.out,h.ne,h.pen,h.ok⟩
theorem Lw.take {H : Hp} {s : Scr} {dk cl sm p : Nat} {cs : List Nat} {st : List (Nat × Nat)} (h : Lw H s dk cl sm cs p st) (q : Nat) : Lw (setF H dk (.dict (dkL cl q))) s dk cl sm cs q st :=
 ⟨h.is_.keep h.out.1 h.deck.d (oth_dk _ _) fun a m x z => at_ne x z,h.good,⟨setF_same,at_ne h.deck.c (ne_kd h.deck.c h.deck.d rfl),h.deck.n⟩,at_ne h.stm (ne_kd h.stm h.deck.d rfl),h.out,h.ne,h.pen,h.ok⟩
theorem txOf_snoc (st : List (Nat × Nat)) (e : Nat × Nat) : txOf (st ++ [e]) = stepX (txOf st) e := by unfold txOf; rw [List.foldl_append]; rfl
theorem Good.hist_le {H : Hp} {s : Scr} {st : TS} {n : Nat} (g : GoodT s st) (h : Is H s) (hn : st.1.length ≤ n) : s.hist.length ≤ n := by
 have := g.g.first
 have := h.rwb
 unfold TS.ls at *
 simp only [List.length_map] at *
 omega
section
variable {W : Wx} {H : Hp} {s : Scr}
theorem sp_writes {st : List (Nat × Nat)} (I0 : Is H s) (g : GoodT s (layT s.cols (txOf st))) (e : Nat × Nat) (he : OkC e) (hn : st.length ≤ 60) :
  CallW W 13 (.ref 1524) [.ref s.sc,.int (e.1 : Nat),pn e.2] H fun x H' => x = .none ∧ ∃ s',Is H' s' ∧ Frm s H s' H' ∧ s'.sc = s.sc ∧ s'.rows = s.rows ∧ s'.cols = s.cols ∧ s'.pen = penL (st ++ [e]) ∧ GoodT s' (layT s.cols (txOf (st ++ [e]))) := by
 have ox := okX_of st
 have hl := layT_len (cols := s.cols) ox
 refine (sp_written I0 g he (fun c hc => by have := (layT_sg ox c hc).2; omega) (by have := Good.hist_le g I0 hl; omega)).mono ?_
 rintro x H' ⟨rfl,s',I',F,e1,e2,e3,e4,g'⟩
 refine ⟨rfl,s',I',F,e1,e2,e3,e4.trans (by simp [penL]),?_⟩
 rw [txOf_snoc,lay_step]
 exact g'
theorem Lw.wrote {H H' : Hp} {s s' : Scr} {dk cl sm p : Nat} {cs : List Nat} {st : List (Nat × Nat)} {e : Nat × Nat} (h : Lw H s dk cl sm cs p st) (he : OkC e) (I' : Is H' s') (F : Frm s H s' H') (e3 : s'.cols = s.cols) (e4 : s'.pen = penL (st ++ [e])) (g : GoodT s' (layT s.cols (txOf (st ++ [e])))) :
  H' sm = some (.list (stV st)) ∧ Lw (setF H' sm (.list (stV st ++ [.tup [.int (e.1 : Nat),pn e.2]]))) s' dk cl sm cs p (st ++ [e]) := by
 obtain ⟨o1,o2,o3⟩ := h.out
 obtain ⟨a1,b1⟩ := F.out h.deck.d o1
 obtain ⟨a2,b2⟩ := F.out h.deck.c o2
 obtain ⟨a3,b3⟩ := F.out h.stm o3
 have ev : stV st ++ [.tup [.int (e.1 : Nat),pn e.2]] = stV (st ++ [e]) := by simp [stV]
 refine ⟨a3,?_⟩
 rw [ev]
 refine ⟨I'.keep b3 a3 (oth_st _) fun a m x z => at_ne x z,by rw [e3]; exact g,⟨at_ne a1 (ne_kd a1 a3 rfl),at_ne a2 h.ne.symm,h.deck.n⟩,setF_same,⟨b1,b2,b3⟩,h.ne,e4,fun x hx => ?_⟩
 rcases List.mem_append.mp hx with hx | hx
 ·exact h.ok x hx
 ·rw [List.mem_singleton.mp hx]; exact he
theorem fdiv_nat (a b : Nat) : (a : Int).fdiv (b : Int) = ((a / b : Nat) : Int) := by
 rw [Int.fdiv_eq_ediv_of_nonneg _ (by omega)]; rfl
theorem fmod_nat (a b : Nat) : (a : Int).fmod (b : Int) = ((a % b : Nat) : Int) := by
 rw [Int.fmod_eq_emod_of_nonneg _ (by omega)]; rfl
theorem sp_group {dk cl sm p : Nat} {cs : List Nat} {st : List (Nat × Nat)} (L : Lw H s dk cl sm cs p st) (hp : p ≤ 800) (hn : st.length ≤ 50) :
  CallW W 14 (.ref 1531) [.ref dk,.ref s.sc,.ref sm] H fun x H' => x = .none ∧ ∃ s' st' p',Lw H' s' dk cl sm cs p' st' ∧ s'.sc = s.sc ∧ s'.rows = s.rows ∧ s'.cols = s.cols ∧ p' ≤ p + 8 ∧ st'.length ≤ st.length + 7 := by
 refine in_1531 _ _ _ ?_
 unfold cd_1531
 walk_at "r"
 refine r_call2 ((sp_take (b := 7) L.deck (by omega) (by omega)).tu rfl) rfl ?_
 rintro _ _ ⟨v,hv,rfl,rfl⟩
 have L1 := L.take (p + 1)
 walk_at "r"
 refine Run.fr (l := (List.range (1 + (v : Int)).toNat).map fun (i : Nat) => V.int (i : Int)) (args := [.int (1 + (v : Int))])
  (J := fun i ρ H' => ∃ s' st',(∃ a b c d e,ρ = [some (.ref dk),some (.ref s.sc),some (.ref sm),a,b,c,d,e]) ∧ Lw H' s' dk cl sm cs (p + 1 + i) st' ∧ s'.sc = s.sc ∧ s'.rows = s.rows ∧ s'.cols = s.cols ∧ st'.length = st.length + i) (Z := fun _ _ => False) rfl rfl ⟨s,st,⟨_,_,_,_,_,rfl⟩,L1,rfl,rfl,rfl,rfl⟩ (fun i ρ H' _ _ => ⟨by omega,by omega,rfl⟩) (fun i x ρ H' hx hj => ?_) ?_ (fun _ _ z => z.elim)
 ·obtain ⟨s',st',⟨a,b,c,d,e,rfl⟩,L2,q1,q2,q3,q4⟩ := hj
  have hi : i < 7 := by
   by_cases q : i < (1 + (v : Int)).toNat
   ·omega
   ·rw [List.getElem?_eq_none (by simp; omega)] at hx; cases hx
  walk_at "c"
  refine r_call2 ((sp_take (b := 24) L2.deck (by omega) (by omega)).tu rfl) rfl ?_
  rintro _ _ ⟨u,hu,rfl,rfl⟩
  have L3 := L2.take (p + 1 + i + 1)
  generalize setF H' dk (.dict (dkL cl (p + 1 + i + 1))) = H3 at *
  walk_at "r"
  refine r_mod (by omega) ?_
  walk_at "r"
  refine r_fdiv (by omega) (PyProof.noPylong_small (by decide)) ?_
  rw [show (u : Int).fmod 8 = ((u % 8 : Nat) : Int) from fmod_nat u 8,show (u : Int).fdiv 8 = ((u / 8 : Nat) : Int) from fdiv_nat u 8]
  refine r_idxT (x := pn (u / 8)) (by simp; omega) (at_nat ?_) ?_
  ·have : u / 8 = 0 ∨ u / 8 = 1 ∨ u / 8 = 2 := by omega
   rcases this with q | q | q <;> rw [q] <;> rfl
  walk_at "r"
  have fin : ∀ code : Nat,OkC (code,u / 8) → Run W 13 [.call 3,.pop,.loc 2,.mth 41,.loc 7,.loc 6,.tup 2,.call 2,.pop] [pn (u / 8),.int (code : Nat),.ref s.sc,.raw (.ref 1524)] [some (.ref dk),some (.ref s.sc),some (.ref sm),some x,some (.int u),some (.int ((u % 8 : Nat) : Int)),some (pn (u / 8)),some (.int (code : Nat))] H3
    (fun o => match o with
     | .nxt [] ρ' H' => ∃ s' st',(∃ a b c d e,ρ' = [some (.ref dk),some (.ref s.sc),some (.ref sm),a,b,c,d,e]) ∧ Lw H' s' dk cl sm cs (p + 1 + (i + 1)) st' ∧ s'.sc = s.sc ∧ s'.rows = s.rows ∧ s'.cols = s.cols ∧ st'.length = st.length + (i + 1)
     | .ret v H' => False
     | _ => False) := fun code hcode => by
   refine r_call3 ((show CallW W 13 (.ref 1524) [.ref s.sc,.int code,pn (u / 8)] H3 _ by rw [← q1]; exact sp_writes L3.is_ L3.good (code,u / 8) hcode (by omega)).tu rfl) rfl ?_
   rintro _ H4 ⟨rfl,s4,I4,F4,e1,e2,e3,e4,g4⟩
   obtain ⟨sm4,L4⟩ := L3.wrote hcode I4 F4 e3 e4 g4
   walk_at "r"
   refine r_mapp sm4 ?_
   walk_at "r"
   refine r_append sm4 (by simp [stV]; omega) ?_
   walk_at "r"
   exact Run.nil ⟨s4,st' ++ [(code,u / 8)],⟨_,_,_,_,_,rfl⟩,L4,e1.trans q1,e2.trans q2,e3.trans q3,by simp; omega⟩
  have sml : (stV st').length ≤ 1000000 := by simp [stV]; omega
  have ml : ∀ n : Nat,97 ≤ 97 + n % 26 ∧ 97 + n % 26 ≤ 122 := fun n => by omega
  by_cases k1 : u % 8 < 4
  ·refine r_t (decide_eq_true (by omega)) ?_
   walk_at "c"
   refine r_len L3.stm sml ?_
   walk_at "r"
   refine r_mod (by omega) ?_
   rw [show ((stV st').length : Int).fmod 26 = (((stV st').length % 26 : Nat) : Int) from fmod_nat _ 26]
   walk_at "r"
   rw [show (97 : Int) + (((stV st').length % 26 : Nat) : Int) = ((97 + (stV st').length % 26 : Nat) : Int) by omega]
   walk_at "r"
   exact fin (97 + (stV st').length % 26) (.inr (.inr (.inl (by dsimp only; omega))))
  ·refine r_f (decide_eq_false (by omega)) ?_
   walk_at "c"
   by_cases k2 : u % 8 < 6
   ·refine r_t (decide_eq_true (by omega)) ?_
    walk_at "c"
    refine r_len L3.stm sml ?_
    walk_at "r"
    refine r_mod (by omega) ?_
    rw [show ((stV st').length : Int).fmod 26 = (((stV st').length % 26 : Nat) : Int) from fmod_nat _ 26]
    walk_at "r"
    rw [show (19968 : Int) + (((stV st').length % 26 : Nat) : Int) = ((19968 + (stV st').length % 26 : Nat) : Int) by omega]
    walk_at "r"
    exact fin (19968 + (stV st').length % 26) (.inr (.inr (.inr (by dsimp only; omega))))
   ·refine r_f (decide_eq_false (by omega)) ?_
    walk_at "c"
    by_cases k3 : u % 8 = 6
    ·refine r_t (by simp; omega) ?_
     walk_at "c"
     exact fin 769 (.inr (.inl rfl))
    ·refine r_f (by simp; omega) ?_
     walk_at "c"
     exact fin 0 (.inl rfl)
 ·rintro ρ H' ⟨s',st',⟨a,b,c,d,e,rfl⟩,L2,q1,q2,q3,q4⟩
  rw [List.length_map,List.length_range] at L2 q4
  exact Run.nil ⟨rfl,s',st',_,L2,q1,q2,q3,by omega,by omega⟩
end
def c3 (c : Cell) : V := .tup [.tup (isV c.cs),.int (c.w : Int),pn c.k]
def d3 (c : Cell) : PyData := .tuple [.tuple (isD c.cs),.int (c.w : Int),pd c.k]
theorem dat_c3 {H : Hp} {n : Nat} (c : Cell) : Dat H (n + 2) (c3 c) (d3 c) := .tup (.cons (.tup (dat_ints _)) (.cons .int (.cons (dat_pen _) .nil)))
theorem dat_c3s {H : Hp} {n : Nat} : ∀ l : List Cell,DatAll H (n + 2) (l.map c3) (l.map d3)
 | [] => .nil
 | c :: l => .cons (dat_c3 c) (dat_c3s l)
theorem eqv_nil (l : List PyData) : PyData.eqv (.list l) (.list []) = l.isEmpty := by cases l <;> simp [PyData.eqv,PyData.eqvAll]
theorem at_last (l : List V) (x : V) : at? (l ++ [x]) (-1) = some x := by
 unfold at?
 rw [if_pos (by decide),if_pos (by simp; omega),show (-1 + ((l ++ [x]).length : Int)).toNat = l.length by simp; omega]
 simp
structure Txs (H0 H : Hp) (t : Nat) (ds : List Nat) (la : Nat) (x : TX) : Prop where
 top : H t = some (.list (ds.map V.ref ++ [.ref la]))
 d : ds.length = x.1.length
 at_ : ∀ (j a : Nat) (u : List Cell),ds[j]? = some a → x.1[j]? = some u → H a = some (.list (u.map c3))
 l : H la = some (.list (x.2.map c3))
 ne : t ∉ ds ∧ la ∉ ds ∧ t ≠ la
 new : H0 t = none ∧ H0 la = none
 ext : Ext H0 H
theorem Txs.get {H0 H : Hp} {t la : Nat} {ds : List Nat} {x : TX} (h : Txs H0 H t ds la x) {j a : Nat} (ha : ds[j]? = some a) : ∃ u : List Cell,H a = some (.list (u.map c3)) := by
 obtain ⟨lt,_⟩ := List.getElem?_eq_some_iff.mp ha
 have := h.d
 exact ⟨x.1[j]'(by omega),h.at_ j a _ ha (List.getElem?_eq_getElem _)⟩
theorem mem_at {α : Type} {l : List α} {a : α} {j : Nat} (h : l[j]? = some a) : a ∈ l := List.mem_of_getElem? h
theorem Txs.push {H0 H H1 : Hp} {t la c : Nat} {ds : List Nat} {x : TX} (h : Txs H0 H t ds la x) (hc : H c = none) (e : H1 c = some (.list [])) (E : Ext H H1) : Txs H0 (setF H1 t (.list (ds.map V.ref ++ [.ref la] ++ [.ref c]))) t (ds ++ [la]) c (x.1 ++ [x.2],[]) := by
 have tc : t ≠ c := ne_new h.top hc
 have lc : la ≠ c := ne_new h.l hc
 refine ⟨by rw [setF_same]; simp,by simp [h.d],fun j a u ha hu => ?_,at_ne e tc.symm,⟨?_,?_,tc⟩,⟨h.new.1,back h.ext hc⟩,(h.ext.trans E).upd h.new.1⟩
 ·have hd := h.d
  by_cases q : j < ds.length
  ·rw [List.getElem?_append_left q] at ha
   rw [List.getElem?_append_left (by omega)] at hu
   refine at_ne (E _ _ (h.at_ j a u ha hu)) fun z => h.ne.1 (z ▸ mem_at ha)
  ·rw [List.getElem?_append_right (by omega)] at ha hu
   have : j - ds.length = 0 := by
    obtain ⟨lt,_⟩ := List.getElem?_eq_some_iff.mp ha
    simp at lt; omega
   rw [this] at ha; rw [show j - x.1.length = 0 by omega] at hu
   simp at ha hu
   subst ha hu
   exact at_ne (E _ _ h.l) h.ne.2.2.symm
 ·intro z
  rcases List.mem_append.mp z with z | z
  ·exact h.ne.1 z
  ·exact h.ne.2.2 (List.mem_singleton.mp z)
 ·intro z
  rcases List.mem_append.mp z with z | z
  ·obtain ⟨j,hj⟩ := List.getElem?_of_mem z
   obtain ⟨u,hu⟩ := h.get hj
   rw [hc] at hu; cases hu
  ·exact lc (List.mem_singleton.mp z).symm
theorem Txs.set {H0 H : Hp} {t la : Nat} {ds : List Nat} {x : TX} (h : Txs H0 H t ds la x) (u : List Cell) : Txs H0 (setF H la (.list (u.map c3))) t ds la (x.1,u) :=
 ⟨at_ne h.top h.ne.2.2,h.d,fun j a v ha hv => at_ne (h.at_ j a v ha hv) fun z => h.ne.2.1 (z ▸ mem_at ha),setF_same,h.ne,h.new,h.ext.upd h.new.2⟩
section
variable {W : Wx} {H : Hp}
theorem sp_texts {sm : Nat} {st : List (Nat × Nat)} (hsm : H sm = some (.list (stV st))) (hn : st.length ≤ 60) (hok : ∀ e ∈ st,OkC e) :
  CallW W 1 (.ref 1538) [.ref sm] H fun x H' => ∃ t ds la,x = .ref t ∧ Txs H H' t ds la (txOf st) := by
 refine in_1538 _ ?_
 unfold cd_1538
 refine r_lst0E fun la H1 f1 g1 E1 => ?_
 refine r_lst1E fun t H2 f2 g2 E2 => ?_
 walk_at "r"
 have lt : la ≠ t := ne_new g1 f2
 have T0 : Txs H H2 t [] la (txOf (st.take 0)) := ⟨g2,rfl,by simp,E2 _ _ g1,⟨by simp,by simp,lt.symm⟩,⟨back E1 f2,f1⟩,E1.trans E2⟩
 refine Run.fr (l := stV st) (args := [.ref sm]) (J := fun i ρ H' => ∃ ds la,(∃ a b c d e,ρ = [some (.ref sm),some (.ref t),a,b,c,d,e]) ∧ Txs H H' t ds la (txOf (st.take i))) (Z := fun _ _ => False) rfl rfl ⟨[],la,⟨_,_,_,_,_,rfl⟩,T0⟩ (fun i ρ H' _ hj => ?_) (fun i x ρ H' hx hj => ?_) ?_ (fun _ _ z => z.elim)
 ·obtain ⟨ds,la,_,T⟩ := hj
  exact T.ext _ _ hsm
 ·obtain ⟨ds,la,⟨a,b,c,d,e,rfl⟩,T⟩ := hj
  have hi : i < st.length := by
   by_cases q : i < st.length
   ·exact q
   ·rw [List.getElem?_eq_none (by simp [stV]; omega)] at hx; cases hx
  have ei := List.getElem?_eq_getElem hi
  have hx' : x = .tup [.int ((st[i]'hi).1 : Nat),pn (st[i]'hi).2] := by
   unfold stV at hx; rw [List.getElem?_map,ei] at hx; cases hx; rfl
  have et : txOf (st.take (i + 1)) = stepX (txOf (st.take i)) (st[i]'hi) := by
   rw [take_succ' ei]; exact txOf_snoc _ _
  have ho := hok _ (List.getElem_mem hi)
  have ox := okX_of (st.take i)
  have ol : (st.take i).length ≤ 60 := by simp; omega
  rw [et]
  generalize st[i]'hi = ev at *
  generalize txOf (st.take i) = tx at *
  have osz := ox.sz
  unfold sizeL at osz
  subst hx'
  have top := T.top
  have tl : (ds.map V.ref ++ [V.ref la]).length ≤ 1000000 := by have := T.d; simp; omega
  have hla := T.l
  walk_at "c"
  unfold stepX
  by_cases k1 : ev.1 = 0
  ·rw [if_pos k1]
   refine r_t (by simp; omega) ?_
   walk_at "c"
   refine r_mapp top ?_
   refine r_lst0E fun cn H4 f4 g4 E4 => ?_
   refine r_append (E4 _ _ top) tl ?_
   walk_at "r"
   exact Run.nil ⟨_,_,⟨_,_,_,_,_,rfl⟩,T.push f4 g4 E4⟩
  ·rw [if_neg k1]
   refine r_f (by simp; omega) ?_
   walk_at "c"
   by_cases k2 : ev.1 = 769
   ·rw [if_pos k2]
    refine r_f (by simp; omega) ?_
    walk_at "c"
    refine r_idx top (by omega) (at_last _ _) ?_
    refine r_lst0E fun cn H4 f4 g4 E4 => ?_
    have T4 : Txs H H4 t ds la tx := ⟨E4 _ _ top,T.d,fun j a u h1 h2 => E4 _ _ (T.at_ j a u h1 h2),E4 _ _ hla,T.ne,T.new,T.ext.trans E4⟩
    have hla4 := T4.l
    rcases List.eq_nil_or_concat tx.2 with e0 | ⟨u,c0,e0⟩
    ·refine r_neD (n := 3) (m := 1) (b := false) (.list hla4 (dat_c3s _)) (.list g4 .nil) (by omega) (by omega) (by rw [eqv_nil,e0]; rfl) ?_
     walk_at "r"
     refine Run.nil ⟨ds,la,⟨_,_,_,_,_,rfl⟩,?_⟩
     rw [e0]
     have := T4
     rw [show tx = (tx.1,tx.2) from rfl,e0] at this
     exact this
    ·rw [List.concat_eq_append] at e0
     refine r_neD (n := 3) (m := 1) (b := true) (.list hla4 (dat_c3s _)) (.list g4 .nil) (by omega) (by omega) (by rw [eqv_nil,e0]; simp) ?_
     walk_at "r"
     refine r_idx T4.top (by omega) (at_last _ _) ?_
     refine r_mpop hla4 ?_
     rw [e0,List.map_append] at hla4
     refine r_pop (l := u.map c3) (x := c3 c0) hla4 (by have := congrArg List.length e0; simp at this ⊢; omega) ?_
     have T5 := T4.set u
     unfold c3
     walk_at "r"
     refine r_idx T5.top (by omega) (at_last _ _) ?_
     refine r_mapp T5.l ?_
     walk_at "r"
     have cl := (ox.t c0 (by rw [e0]; simp)).2
     refine r_addT (by simp [isV]; omega) ?_
     walk_at "r"
     refine r_append T5.l (by have := congrArg List.length e0; simp at this ⊢; omega) ?_
     walk_at "r"
     refine Run.nil ⟨ds,la,⟨_,_,_,_,_,rfl⟩,?_⟩
     have T6 := T5.set (u ++ [mkC c0])
     rw [e0,markX_snoc]
     have eq : (u ++ [mkC c0]).map c3 = u.map c3 ++ [.tup [.tup (isV c0.cs ++ [.int (ev.1 : Nat)]),.int c0.w,pn c0.k]] := by
      rw [k2]; simp [c3,mkC,isV]
     rw [eq] at T6
     exact T6
   ·rw [if_neg k2]
    refine r_t (by simp; omega) ?_
    walk_at "c"
    refine r_idx top (by omega) (at_last _ _) ?_
    refine r_mapp hla ?_
    walk_at "r"
    have T6 := T.set (tx.2 ++ [sgn ev])
    have eq : (tx.2 ++ [sgn ev]).map c3 = tx.2.map c3 ++ [.tup [.tup [.int (ev.1 : Nat)],.int ((if 19968 ≤ ev.1 then 2 else 1 : Nat) : Int),pn ev.2]] := by simp [c3,sgn,isV]
    rw [eq] at T6
    by_cases k3 : 19968 ≤ ev.1
    ·refine r_t (decide_eq_true (by omega)) ?_
     walk_at "c"
     refine r_append hla (by simp; omega) ?_
     walk_at "r"
     rw [if_pos k3] at T6
     exact Run.nil ⟨ds,la,⟨_,_,_,_,_,rfl⟩,T6⟩
    ·refine r_f (decide_eq_false (by omega)) ?_
     walk_at "c"
     refine r_append hla (by simp; omega) ?_
     walk_at "r"
     rw [if_neg k3] at T6
     exact Run.nil ⟨ds,la,⟨_,_,_,_,_,rfl⟩,T6⟩
 ·rintro ρ H' ⟨ds,la,⟨a,b,c,d,e,rfl⟩,T⟩
  rw [show (stV st).length = st.length by simp [stV],List.take_length] at T
  walk_at "r"
  exact Run.ret ⟨t,ds,la,rfl,T⟩
end
def qv (l : Ln) : List Cell × Bool := (l.cells,l.wr)
def cq (q : List Cell × Bool) : List Cell × Bool := (cellsOf q.1,q.2)
def viewU (cols : Nat) (us : List (List Cell)) : List (List Cell × Bool) := us.flatMap fun u => (linesG (cut cols u)).map cq
structure LqAt (H : Hp) (l : Ln) : Prop where
 o : H l.a = some (.list [.ref l.c,.bool l.wr,.str (S "single")])
 cs : H l.c = some (.list (l.cells.map Cell.v))
theorem LqAt.ext {H H' : Hp} {l : Ln} (h : LqAt H l) (e : Ext H H') : LqAt H' l := ⟨e _ _ h.o,e _ _ h.cs⟩
structure Ld (H0 H : Hp) (ln : Nat) (ls : List Ln) : Prop where
 top : H ln = some (.list (refs ls))
 at_ : ∀ l ∈ ls,LqAt H l
 na : (ls.map (·.a)).Nodup
 nc : (ls.map (·.c)).Nodup
 ac : ∀ l ∈ ls,∀ m ∈ ls,l.a ≠ m.c
 nl : ∀ l ∈ ls,l.a ≠ ln ∧ l.c ≠ ln
 new : H0 ln = none ∧ ∀ l ∈ ls,H0 l.a = none ∧ H0 l.c = none
 ext : Ext H0 H
theorem Ld.push {H0 H H1 H2 : Hp} {ln a c : Nat} {ls : List Ln} (h : Ld H0 H ln ls) (hc : H c = none) (e1 : H1 c = some (.list [])) (E1 : Ext H H1) (ha : H1 a = none) (e2 : H2 a = some (.list [.ref c,.bool false,.str (S "single")])) (E2 : Ext H1 H2) :
  Ld H0 (setF H2 ln (.list (refs ls ++ [.ref a]))) ln (ls ++ [⟨a,c,[],false⟩]) := by
 have ha0 : H a = none := back E1 ha
 have aln : a ≠ ln := (ne_new h.top ha0).symm
 have cln : c ≠ ln := (ne_new h.top hc).symm
 have ca : c ≠ a := ne_new e1 ha
 have oa : ∀ l ∈ ls,l.a ≠ a ∧ l.a ≠ c ∧ l.c ≠ a ∧ l.c ≠ c := fun l hl => ⟨ne_new (h.at_ l hl).o ha0,ne_new (h.at_ l hl).o hc,ne_new (h.at_ l hl).cs ha0,ne_new (h.at_ l hl).cs hc⟩
 have E := E1.trans E2
 refine ⟨by rw [setF_same]; simp [refs],fun l hl => ?_,?_,?_,fun l hl m hm => ?_,fun l hl => ?_,⟨h.new.1,fun l hl => ?_⟩,(h.ext.trans E).upd h.new.1⟩
 ·rcases List.mem_append.mp hl with hl | hl
  ·exact ⟨at_ne (E _ _ (h.at_ l hl).o) (h.nl l hl).1,at_ne (E _ _ (h.at_ l hl).cs) (h.nl l hl).2⟩
  ·rw [List.mem_singleton.mp hl]; exact ⟨at_ne e2 aln,at_ne (E2 _ _ e1) cln⟩
 ·rw [List.map_append,List.nodup_append]
  refine ⟨h.na,by simp,fun x hx y hy => ?_⟩
  obtain ⟨z,hz,rfl⟩ := List.mem_map.mp hx
  simp only [List.map_cons,List.map_nil,List.mem_singleton] at hy
  subst hy
  exact (oa z hz).1
 ·rw [List.map_append,List.nodup_append]
  refine ⟨h.nc,by simp,fun x hx y hy => ?_⟩
  obtain ⟨z,hz,rfl⟩ := List.mem_map.mp hx
  simp only [List.map_cons,List.map_nil,List.mem_singleton] at hy
  subst hy
  exact (oa z hz).2.2.2
 ·rcases List.mem_append.mp hl with hl | hl <;> rcases List.mem_append.mp hm with hm | hm
  ·exact h.ac l hl m hm
  ·rw [List.mem_singleton.mp hm]; exact (oa l hl).2.1
  ·rw [List.mem_singleton.mp hl]; exact (oa m hm).2.2.1.symm
  ·rw [List.mem_singleton.mp hl,List.mem_singleton.mp hm]; exact ca.symm
 ·rcases List.mem_append.mp hl with hl | hl
  ·exact h.nl l hl
  ·rw [List.mem_singleton.mp hl]; exact ⟨aln,cln⟩
 ·rcases List.mem_append.mp hl with hl | hl
  ·exact h.new.2 l hl
  ·rw [List.mem_singleton.mp hl]; exact ⟨back h.ext ha0,back h.ext hc⟩
theorem Ld.upd {H0 H H' : Hp} {ln i : Nat} {ls : List Ln} {l : Ln} {cs : List Cell} {w : Bool} (h : Ld H0 H ln ls) (hi : ls[i]? = some l) (k : ∀ y m,H y = some m → y ≠ l.a → y ≠ l.c → H' y = some m) (hl : LqAt H' { l with cells := cs,wr := w }) (x : Ext H0 H') :
  Ld H0 H' ln (ls.set i { l with cells := cs,wr := w }) := by
 have ea : (ls.set i { l with cells := cs,wr := w }).map (·.a) = ls.map (·.a) := map_set_same hi rfl
 have ec : (ls.set i { l with cells := cs,wr := w }).map (·.c) = ls.map (·.c) := map_set_same hi rfl
 have er : refs (ls.set i { l with cells := cs,wr := w }) = refs ls := map_set_same hi rfl
 have hm := List.mem_of_getElem? hi
 have mm : ∀ y ∈ ls.set i { l with cells := cs,wr := w },∃ z ∈ ls,y.a = z.a ∧ y.c = z.c := fun y hy => by
  rcases mem_set hy with rfl | ⟨j,_,hj⟩
  ·exact ⟨l,hm,rfl,rfl⟩
  ·exact ⟨y,mem_at hj,rfl,rfl⟩
 refine ⟨by rw [er]; exact k _ _ h.top (h.nl l hm).1.symm (h.nl l hm).2.symm,fun y hy => ?_,by rw [ea]; exact h.na,by rw [ec]; exact h.nc,fun y hy z hz => ?_,fun y hy => ?_,⟨h.new.1,fun y hy => ?_⟩,x⟩
 ·rcases mem_set hy with rfl | ⟨j,ji,hj⟩
  ·exact hl
  ·have hy' := mem_at hj
   exact ⟨k _ _ (h.at_ y hy').o (ndup_ne (f := fun x : Ln => x.a) h.na hj hi ji) (h.ac y hy' l hm),k _ _ (h.at_ y hy').cs (h.ac l hm y hy').symm (ndup_ne (f := fun x : Ln => x.c) h.nc hj hi ji)⟩
 ·obtain ⟨y',h1,e1,_⟩ := mm y hy
  obtain ⟨z',h2,_,e2⟩ := mm z hz
  rw [e1,e2]; exact h.ac _ h1 _ h2
 ·obtain ⟨y',h1,e1,e2⟩ := mm y hy
  rw [e1,e2]; exact h.nl _ h1
 ·obtain ⟨y',h1,e1,e2⟩ := mm y hy
  rw [e1,e2]; exact h.new.2 _ h1
theorem Ld.cells {H0 H : Hp} {ln i : Nat} {ls : List Ln} {l : Ln} (h : Ld H0 H ln ls) (hi : ls[i]? = some l) (cs : List Cell) : Ld H0 (setF H l.c (.list (cs.map Cell.v))) ln (ls.set i { l with cells := cs }) :=
 have hm := List.mem_of_getElem? hi
 h.upd (w := l.wr) hi (fun y m x _ q => at_ne x q) ⟨at_ne (h.at_ l hm).o (h.ac l hm l hm),setF_same⟩ (h.ext.upd (h.new.2 l hm).2)
theorem Ld.wr {H0 H : Hp} {ln i : Nat} {ls : List Ln} {l : Ln} (h : Ld H0 H ln ls) (hi : ls[i]? = some l) (w : Bool) : Ld H0 (setF H l.a (.list [.ref l.c,.bool w,.str (S "single")])) ln (ls.set i { l with wr := w }) :=
 have hm := List.mem_of_getElem? hi
 h.upd (cs := l.cells) hi (fun y m x q _ => at_ne x q) ⟨setF_same,at_ne (h.at_ l hm).cs (h.ac l hm l hm).symm⟩ (h.ext.upd (h.new.2 l hm).1)
theorem Ld.mono {H0 H H' : Hp} {ln : Nat} {ls : List Ln} (h : Ld H0 H ln ls) (e : Ext H H') : Ld H0 H' ln ls := ⟨e _ _ h.top,fun l hl => (h.at_ l hl).ext e,h.na,h.nc,h.ac,h.nl,h.new,h.ext.trans e⟩
theorem set_last {α : Type} (bs : List α) (l l' : α) : (bs ++ [l]).set bs.length l' = bs ++ [l'] := by simp
theorem at_end {α : Type} (bs : List α) (l : α) : (bs ++ [l])[bs.length]? = some l := by simp
theorem sgc_take {c : Cell} (hc : Sg c) : ([c.v,(half c.k).v] : List V).take c.w = (sgc c).map Cell.v := by
 unfold sgc
 rcases hc.1 with q | q <;> rw [q] <;> rfl
theorem linesG_len (g : Gp) : (linesG g).length = g.1.length + 1 := by simp [linesG]
section
variable {W : Wx} {H : Hp}
def LaidJ (H : Hp) (tx cols ln : Nat) (A : List (List Cell × Bool)) (u : List Cell) (j : Nat) (ρ : Ro) (H' : Hp) : Prop :=
 ∃ bs l,(∃ b c d e f g,ρ = [some (.ref tx),some (.int (cols : Nat)),some (.ref ln),b,c,d,e,f,g]) ∧ Ld H H' ln (bs ++ [l]) ∧ bs.map qv = A ++ (cut cols (u.take j)).1.map (fun p => (cellsOf p,true)) ∧ l.cells = cellsOf (cut cols (u.take j)).2 ∧ l.wr = false
theorem laid_step {tx cols ln : Nat} {A : List (List Cell × Bool)} {u : List Cell} {j : Nat} {ρ : Ro} {H' : Hp} {c : Cell} (hcols : 2 ≤ cols ∧ cols ≤ 7) (hA : A.length ≤ 200) (hu : u.length ≤ 100) (hs : ∀ c ∈ u,Sg c) (hj : u[j]? = some c) (J : LaidJ H tx cols ln A u j ρ H') :
  Run W 0 ([.unp 3,.sto 4,.sto 5,.sto 6] ++ [.lit (.raw (.builtin "len")),.loc 2,.lit (.int (1)),.neg,.idx,.lit (.int (0)),.idx,.call 1,.loc 5,.bin .Add,.loc 1,.cmp .Gt,.chk,.ite [.lit (.bool true),.loc 2,.lit (.int (1)),.neg,.idx,.lit (.int (1)),.sidx,.loc 2,.mth 41,.lst 0,.lit (.bool false),.lit (.str (S "single")),.lst 3,.call 2,.pop] [],.loc 2,.lit (.int (1)),.neg,.idx,.lit (.int (0)),.idx,.mth 42,.loc 4,.loc 5,.loc 6,.lit (.bool false),.tup 4,.tup 0,.lit (.int (0)),.loc 6,.lit (.bool false),.tup 4,.lst 2,.lit (.none),.loc 5,.slc,.call 2,.pop]) [c3 c] ρ H'
   (fun o => match o with | .nxt [] ρ' H' => LaidJ H tx cols ln A u (j + 1) ρ' H' | .ret v H' => False | _ => False) := by
 obtain ⟨bs,l,⟨b,c',d,e,f,g,rfl⟩,L,q1,q2,q3⟩ := J
 have hc : Sg c := hs c (List.mem_of_getElem? hj)
 have ec : cut cols (u.take (j + 1)) = cutS cols (cut cols (u.take j)) c := by rw [take_succ' hj]; exact cut_snoc _ _ _
 have cl : (cellsOf (cut cols (u.take j)).2).length ≤ cols := cut_le hcols.1 _ fun c hc => (hs c (List.mem_of_mem_take hc)).1
 have c1 := cut_len cols (u.take j)
 have hb : bs.length ≤ 300 := by have := congrArg List.length q1; simp at this c1; omega
 have cw : 1 ≤ c.w ∧ c.w ≤ 2 := by rcases hc.1 with q | q <;> omega
 have lm : l ∈ bs ++ [l] := by simp
 have o := (L.at_ l lm).o
 have ocs := (L.at_ l lm).cs
 have rf : refs (bs ++ [l]) = refs bs ++ [.ref l.a] := by rw [refs_app]; rfl
 have top := L.top
 rw [rf] at top
 have lcl : (l.cells.map Cell.v).length ≤ 1000000 := by rw [q2]; simp; omega
 unfold c3
 walk_at "c"
 refine r_idx top (by omega) (at_last _ _) ?_
 walk_at "r"
 refine r_idx o (by omega) (x := .ref l.c) rfl ?_
 refine r_len ocs lcl ?_
 walk_at "r"
 have tail : ∀ {ρ : Ro} {H1 : Hp} {bs : List Ln} {l : Ln} {b c' : Option V},ρ = [some (.ref tx),some (.int (cols : Nat)),some (.ref ln),b,some (.tup (isV c.cs)),some (.int (c.w : Nat)),some (pn c.k),c',g] → Ld H H1 ln (bs ++ [l]) → bs.length ≤ 301 → bs.map qv = A ++ (cutS cols (cut cols (u.take j)) c).1.map (fun p => (cellsOf p,true)) → l.cells ++ sgc c = cellsOf (cutS cols (cut cols (u.take j)) c).2 → l.cells.length ≤ cols → l.wr = false →
   Run W 0 [.loc 2,.lit (.int (1)),.neg,.idx,.lit (.int (0)),.idx,.mth 42,.loc 4,.loc 5,.loc 6,.lit (.bool false),.tup 4,.tup 0,.lit (.int (0)),.loc 6,.lit (.bool false),.tup 4,.lst 2,.lit (.none),.loc 5,.slc,.call 2,.pop] [] ρ H1 (fun o => match o with | .nxt [] ρ' H' => LaidJ H tx cols ln A u (j + 1) ρ' H' | .ret v H' => False | _ => False) := by
  intro ρ H1 bs l b c' hρ L hb q1 q2 q4 q3
  subst hρ
  have lm : l ∈ bs ++ [l] := by simp
  have o := (L.at_ l lm).o
  have ocs := (L.at_ l lm).cs
  have top := L.top
  rw [show refs (bs ++ [l]) = refs bs ++ [.ref l.a] by rw [refs_app]; rfl] at top
  walk_at "r"
  refine r_idx top (by omega) (at_last _ _) ?_
  walk_at "r"
  refine r_idx o (by omega) (x := .ref l.c) rfl ?_
  refine r_mext ocs ?_
  walk_at "r"
  refine r_lst2E fun n1 H2 f2 g2 E2 => ?_
  walk_at "r"
  refine r_slcE none (some (c.w : Int)) rfl rfl g2 (by simp) (l' := (sgc c).map Cell.v) (by rw [ps_take]; exact sgc_take hc) fun n2 H3 f3 g3 E3 => ?_
  have L3 := L.mono (E2.trans E3)
  refine r_extend ((L3.at_ l lm).cs) g3 (by have := sgc_len hc; simp; omega) ?_
  walk_at "r"
  have L4 := L3.cells (at_end bs l) (l.cells ++ sgc c)
  rw [set_last,List.map_append] at L4
  refine Run.nil ⟨bs,_,⟨_,_,_,_,_,_,rfl⟩,L4,?_,?_,?_⟩
  ·rw [ec]; exact q1
  ·rw [ec]; exact q2
  ·exact q3
 by_cases k : (cellsOf (cut cols (u.take j)).2).length + c.w ≤ cols
 ·have e1 : cutS cols (cut cols (u.take j)) c = ((cut cols (u.take j)).1,(cut cols (u.take j)).2 ++ [c]) := by unfold cutS; rw [if_pos k]
  refine r_f (decide_eq_false (by rw [List.length_map,q2]; omega)) ?_
  simp only [List.nil_append]
  refine tail rfl L (by omega) ?_ ?_ (by rw [q2]; exact cl) q3
  ·rw [e1]; exact q1
  ·rw [e1,cellsOf_app,cellsOf_one,q2]
 ·have e1 : cutS cols (cut cols (u.take j)) c = ((cut cols (u.take j)).1 ++ [(cut cols (u.take j)).2],[c]) := by unfold cutS; rw [if_neg k]
  refine r_t (decide_eq_true (by rw [List.length_map,q2]; omega)) ?_
  walk_at "c"
  refine r_idx top (by omega) (at_last _ _) ?_
  walk_at "r"
  refine r_sidx o (by omega) (by simp) (by simp) ?_
  have L1 := L.wr (at_end bs l) true
  rw [set_last] at L1
  have e3 : ([V.ref l.c,.bool l.wr,.str (S "single")] : List V).set (1 : Int).toNat (.bool true) = [.ref l.c,.bool true,.str (S "single")] := rfl
  rw [e3]
  generalize setF H' l.a (.list [.ref l.c,.bool true,.str (S "single")]) = H1 at *
  have top1 := L1.top
  walk_at "r"
  refine r_mapp top1 ?_
  refine r_lst0E fun nc H2 f2 g2 E2 => ?_
  walk_at "r"
  refine r_lst3E fun na H3 f3 g3 E3 => ?_
  refine r_append (E3 _ _ (E2 _ _ top1)) (by simp [refs]; omega) ?_
  have L4 := L1.push f2 g2 E2 f3 g3 E3
  refine Run.pop ?_
  refine tail rfl L4 (by simp; omega) ?_ ?_ (by simp) rfl
  ·rw [e1,List.map_append,q1,List.map_append]
   simp [qv,q2]
  ·rw [e1,cellsOf_one]; rfl
end
theorem viewU_snoc (cols : Nat) (us : List (List Cell)) (u : List Cell) : viewU cols (us ++ [u]) = viewU cols us ++ (linesG (cut cols u)).map cq := by simp [viewU]
theorem lines_cq (g : Gp) : (linesG g).map cq = g.1.map (fun p => (cellsOf p,true)) ++ [(cellsOf g.2,false)] := by simp [linesG,cq,Function.comp_def]
theorem viewU_len (cols : Nat) (us : List (List Cell)) : (viewU cols us).length ≤ sizeL us := by
 have := lay_len cols us
 unfold viewU
 have e : (us.flatMap fun u => (linesG (cut cols u)).map cq) = (us.flatMap fun u => linesG (cut cols u)).map cq := by rw [List.map_flatMap]
 rw [e,List.length_map]; exact this
theorem viewU_le {cols : Nat} (hc : 2 ≤ cols) (us : List (List Cell)) (hs : ∀ u ∈ us,∀ c ∈ u,Sg c) : ∀ q ∈ viewU cols us,q.1.length ≤ cols := fun q hq => by
 unfold viewU at hq
 obtain ⟨u,hu,hq⟩ := List.mem_flatMap.mp hq
 obtain ⟨p,hp,rfl⟩ := List.mem_map.mp hq
 have := (okG_cut hc u fun c hc => (hs u hu c hc).1).len
 unfold linesG at hp
 rcases List.mem_append.mp hp with hp | hp
 ·obtain ⟨z,hz,rfl⟩ := List.mem_map.mp hp
  exact this _ (List.mem_append_left _ hz)
 ·rw [List.mem_singleton.mp hp]
  exact this _ (List.mem_append_right _ (by simp))
theorem drop_cons {α : Type} {l : List α} {i : Nat} {x : α} (h : l[i]? = some x) : l.drop i = x :: l.drop (i + 1) := by
 obtain ⟨lt,rfl⟩ := List.getElem?_eq_some_iff.mp h
 exact List.drop_eq_getElem_cons lt
theorem pad_step {α : Type} {f : α → α} {V : List α} {i : Nat} {x : α} (h : V[i]? = some x) : ((V.take i).map f ++ V.drop i).set i (f x) = (V.take (i + 1)).map f ++ V.drop (i + 1) := by
 rw [drop_cons h,take_succ' h,List.map_append,List.append_assoc]
 obtain ⟨lt,_⟩ := List.getElem?_eq_some_iff.mp h
 have e : ((V.take i).map f).length = i := by simp; omega
 rw [List.set_append,if_neg (by omega),e,Nat.sub_self]; rfl
section
variable {W : Wx} {H : Hp}
theorem sp_laid {t cols : Nat} {as : List Nat} {D : List (List Cell)} {v : List Cell} (e : H t = some (.list (as.map V.ref))) (hl : as.length = (D ++ [v]).length) (hU : ∀ (i a : Nat) (u : List Cell),as[i]? = some a → (D ++ [v])[i]? = some u → H a = some (.list (u.map c3)))
  (hcols : 2 ≤ cols ∧ cols ≤ 7) (hs : ∀ u ∈ D ++ [v],∀ c ∈ u,Sg c) (hn : sizeL (D ++ [v]) ≤ 100) :
  CallW W 1 (.ref 1545) [.ref t,.int cols] H fun x H' => ∃ ln ls,x = .tup [.ref ln,.int ((cellsOf (cut cols v).2).length : Nat)] ∧ Ld H H' ln ls ∧ ls.map qv = (viewU cols (D ++ [v])).map (padP cols) := by
 refine in_1545 _ _ ?_
 unfold cd_1545
 refine r_lst0E fun ln H1 f1 g1 E1 => ?_
 walk_at "r"
 have L0 : Ld H H1 ln [] := ⟨g1,by simp,by simp,by simp,by simp,by simp,⟨f1,by simp⟩,E1⟩
 have lenU : ∀ {u},u ∈ D ++ [v] → u.length ≤ 100 := fun {u} hu => by
  have : u.length ≤ ((D ++ [v]).map List.length).sum := le_sum (List.mem_map_of_mem hu)
  unfold sizeL at hn; omega
 have vl : ∀ us,(∃ r,us ++ r = D ++ [v]) → (viewU cols us).length ≤ 100 := fun us ⟨r,hr⟩ => by
  have := viewU_len cols us
  have : sizeL us ≤ sizeL (D ++ [v]) := by rw [← hr]; unfold sizeL; simp; omega
  omega
 refine Run.fr (l := as.map V.ref) (args := [.ref t]) (J := fun i ρ H' => ∃ ls,(∃ b c d e f g,ρ = [some (.ref t),some (.int (cols : Nat)),some (.ref ln),b,c,d,e,f,g]) ∧ Ld H H' ln ls ∧ ls.map qv = viewU cols ((D ++ [v]).take i)) (Z := fun _ _ => False) rfl rfl ⟨[],⟨_,_,_,_,_,_,rfl⟩,L0,rfl⟩ (fun i ρ H' _ hj => ?_) (fun i x ρ H' hx hj => ?_) ?_ (fun _ _ z => z.elim)
 ·obtain ⟨ls,_,L,_⟩ := hj
  exact L.ext _ _ e
 ·obtain ⟨ls,⟨b,c,d,e0,f,g,rfl⟩,L,q⟩ := hj
  have hi : i < as.length := by
   by_cases z : i < as.length
   ·exact z
   ·rw [List.getElem?_eq_none (by simp; omega)] at hx; cases hx
  have ea := List.getElem?_eq_getElem hi
  have eu := List.getElem?_eq_getElem (show i < (D ++ [v]).length by omega)
  have hx' : x = .ref (as[i]'hi) := by rw [List.getElem?_map,ea] at hx; cases hx; rfl
  have ou := hU _ _ _ ea eu
  have hum : (D ++ [v])[i]'(by omega) ∈ D ++ [v] := List.getElem_mem _
  have et := take_succ' eu
  rw [et,viewU_snoc]
  have vi := vl ((D ++ [v]).take i) ⟨_,List.take_append_drop i _⟩
  generalize (D ++ [v])[i]'(by omega) = u at *
  generalize as[i]'hi = a at *
  subst hx'
  have top := L.top
  have ul := lenU hum
  have us := hs u hum
  walk_at "c"
  refine r_mapp top ?_
  refine r_lst0E fun nc H2 f2 g2 E2 => ?_
  walk_at "r"
  refine r_lst3E fun na H3 f3 g3 E3 => ?_
  have hls := congrArg List.length q
  rw [List.length_map] at hls
  refine r_append (E3 _ _ (E2 _ _ top)) (by simp [refs]; omega) ?_
  have L4 := L.push f2 g2 E2 f3 g3 E3
  generalize setF H3 ln (.list (refs ls ++ [.ref na])) = H4 at *
  walk_at "r"
  refine Run.fr (l := u.map c3) (args := [.ref a]) (J := LaidJ H t cols ln (viewU cols ((D ++ [v]).take i)) u) (Z := fun _ _ => False) rfl rfl ⟨ls,_,⟨_,_,_,_,_,_,rfl⟩,L4,by rw [q]; simp [cut],rfl,rfl⟩ (fun j ρ H' _ hj => ?_) (fun j x ρ H' hx hj => ?_) ?_ (fun _ _ z => z.elim)
  ·obtain ⟨bs,l,_,L,_⟩ := hj
   exact L.ext _ _ ou
  ·obtain ⟨c,hc,rfl⟩ : ∃ c,u[j]? = some c ∧ c3 c = x := by
    rw [List.getElem?_map] at hx
    cases z : u[j]? with
    | none => rw [z] at hx; cases hx
    | some c => rw [z] at hx; cases hx; exact ⟨c,rfl,rfl⟩
   exact laid_step hcols (by omega) ul us hc hj
  ·rintro ρ H' ⟨bs,l,hρ,L,q1,q2,q3⟩
   rw [List.length_map,List.take_length] at q1 q2
   refine Run.nil ⟨bs ++ [l],hρ,L,?_⟩
   rw [lines_cq,List.map_append,q1]
   simp [qv,q2,q3]
 ·rintro ρ H' ⟨ls,⟨b,c,d,e0,f,g,rfl⟩,L,q⟩
  rw [List.length_map,hl,List.take_length] at q
  have hls := congrArg List.length q
  rw [List.length_map] at hls
  have vle := vl (D ++ [v]) ⟨[],by simp⟩
  have vw := viewU_le hcols.1 (D ++ [v]) hs
  obtain ⟨bs,l,rfl,q2⟩ : ∃ bs l,ls = bs ++ [l] ∧ l.cells = cellsOf (cut cols v).2 := by
   rw [viewU_snoc,lines_cq,← List.append_assoc] at q
   rcases List.eq_nil_or_concat ls with rfl | ⟨bs,l,rfl⟩
   ·have := congrArg List.length q; simp at this
   ·rw [List.concat_eq_append] at q ⊢
    refine ⟨bs,l,rfl,?_⟩
    rw [List.map_append] at q
    have := List.append_inj_right' q rfl
    simp [qv] at this
    exact this.1
  have lm : l ∈ bs ++ [l] := by simp
  have o := (L.at_ l lm).o
  have ocs := (L.at_ l lm).cs
  have top := L.top
  have rf : refs (bs ++ [l]) = refs bs ++ [.ref l.a] := by rw [refs_app]; rfl
  rw [rf] at top
  have cl := cut_le hcols.1 v fun c hc => (hs v (by simp) c hc).1
  walk_at "r"
  refine r_idx top (by omega) (at_last _ _) ?_
  walk_at "r"
  refine r_idx o (by omega) (x := .ref l.c) rfl ?_
  refine r_len ocs (by rw [q2]; simp; omega) ?_
  have ef : ((l.cells.map Cell.v).length : Int) = (((cellsOf (cut cols v).2).length : Nat) : Int) := by rw [List.length_map,q2]
  rw [ef]
  walk_at "r"
  refine Run.fr (l := refs (bs ++ [l])) (args := [.ref ln]) (J := fun i ρ H' => ∃ ls',(∃ b c d e g,ρ = [some (.ref t),some (.int (cols : Nat)),some (.ref ln),b,c,d,e,some (.int ((cellsOf (cut cols v).2).length : Nat)),g]) ∧ Ld H H' ln ls' ∧ refs ls' = refs (bs ++ [l]) ∧ ls'.map qv = ((viewU cols (D ++ [v])).take i).map (padP cols) ++ (viewU cols (D ++ [v])).drop i) (Z := fun _ _ => False) rfl rfl ⟨_,⟨_,_,_,_,_,rfl⟩,L,rfl,by rw [q]; simp⟩ (fun i ρ H' _ hj => ?_) (fun i x ρ H' hx hj => ?_) ?_ (fun _ _ z => z.elim)
  ·obtain ⟨ls',_,L',er,_⟩ := hj
   rw [← er]; exact L'.top
  ·obtain ⟨ls',⟨b,c,d,e1,g,rfl⟩,L',er,q'⟩ := hj
   have hlr : ls'.length = (bs ++ [l]).length := by have := congrArg List.length er; simpa [refs] using this
   have hi : i < ls'.length := by
    by_cases z : i < ls'.length
    ·exact z
    ·rw [List.getElem?_eq_none (by rw [← er]; simp [refs]; omega)] at hx; cases hx
   have ea := List.getElem?_eq_getElem hi
   have eu := List.getElem?_eq_getElem (show i < (viewU cols (D ++ [v])).length by omega)
   have hx' : x = .ref (ls'[i]'hi).a := by rw [← er] at hx; unfold refs at hx; rw [List.getElem?_map,ea] at hx; cases hx; rfl
   have hum := vw _ (List.getElem_mem (show i < (viewU cols (D ++ [v])).length by omega))
   have hst := pad_step (f := padP cols) eu
   have hv : qv (ls'[i]'hi) = (viewU cols (D ++ [v]))[i]'(by omega) := by
    have := congrArg (fun z => z[i]?) q'
    simp only [List.getElem?_map,ea,Option.map_some] at this
    rw [drop_cons eu,List.getElem?_append_right (by simp; omega)] at this
    simp at this
    rw [show i - min i (viewU cols (D ++ [v])).length = 0 by omega] at this
    simp at this
    rw [eu] at this
    exact Option.some.inj this
   rw [← hv] at hst hum
   have ml := List.getElem_mem hi
   generalize ls'[i]'hi = m at *
   subst hx'
   have o' := (L'.at_ m ml).o
   have oc' := (L'.at_ m ml).cs
   have mc : m.cells.length ≤ cols := hum
   walk_at "c"
   refine r_idx o' (by omega) (x := .ref m.c) rfl ?_
   refine r_mext oc' ?_
   walk_at "r"
   refine r_lst1E fun n1 H2 f2 g2 E2 => ?_
   walk_at "r"
   refine r_idx (E2 _ _ o') (by omega) (x := .ref m.c) rfl ?_
   refine r_len (E2 _ _ oc') (by simp; omega) ?_
   walk_at "r"
   refine r_mulLE g2 (by rw [List.length_map]; omega) fun n2 H3 f3 g3 E3 => ?_
   have L3 := L'.mono (E2.trans E3)
   refine r_extend ((L3.at_ m ml).cs) g3 (by simp; omega) ?_
   walk_at "r"
   have L4 := L3.cells ea (padP cols (qv m)).1
   have ev : (padP cols (qv m)).1.map Cell.v = m.cells.map Cell.v ++ List.replicate ((cols : Int) - ((m.cells.map Cell.v).length : Int)).toNat (V.tup [.tup [],.int 1,.tup [.int 0,.int (-1),.int (-1),.int (-1),.int 0],.bool false]) := by
    unfold padP qv
    dsimp only
    rw [List.map_append,List.map_replicate,List.length_map,show ((cols : Int) - (m.cells.length : Int)).toNat = cols - m.cells.length by omega]
    rfl
   rw [ev] at L4
   refine Run.nil ⟨_,⟨_,_,_,_,_,rfl⟩,L4,(map_set_same (f := fun l : Ln => V.ref l.a) (y := { m with cells := (padP cols (qv m)).1 }) ea rfl).trans er,?_⟩
   rw [← hst,← q',List.map_set]; rfl
  ·rintro ρ H' ⟨ls',⟨b,c,d,e1,g,rfl⟩,L',er,q'⟩
   rw [show (refs (bs ++ [l])).length = (viewU cols (D ++ [v])).length by rw [← hls]; simp [refs],List.take_length,List.drop_length,List.append_nil] at q'
   walk_at "r"
   exact Run.ret ⟨ln,ls',rfl,L',q'⟩
end
mutual
theorem Dat.ext {H H' : Hp} (E : Ext H H') : ∀ {n : Nat} {x : V} {e : PyData},Dat H n x e → Dat H' n x e
 | _,_,_,.none => .none
 | _,_,_,.bool => .bool
 | _,_,_,.int => .int
 | _,_,_,.str h => .str h
 | _,_,_,.tup h => .tup (DatAll.ext E h)
 | _,_,_,.list e h => .list (E _ _ e) (DatAll.ext E h)
theorem DatAll.ext {H H' : Hp} (E : Ext H H') : ∀ {n : Nat} {l : List V} {ds : List PyData},DatAll H n l ds → DatAll H' n l ds
 | _,_,_,.nil => .nil
 | _,_,_,.cons h t => .cons (Dat.ext E h) (DatAll.ext E t)
end
theorem DatAll.app {H : Hp} {n : Nat} {m : List V} {es : List PyData} (k : DatAll H n m es) : ∀ {l : List V} {ds : List PyData},DatAll H n l ds → DatAll H n (l ++ m) (ds ++ es)
 | _,_,.nil => k
 | _,_,.cons h t => .cons h (DatAll.app k t)
theorem DatAll.snoc {H : Hp} {n : Nat} {l : List V} {ds : List PyData} {x : V} {d : PyData} (h : DatAll H n l ds) (k : Dat H n x d) : DatAll H n (l ++ [x]) (ds ++ [d]) := DatAll.app (.cons k .nil) h
def dV (q : List Cell × Bool) : PyData := .list [.list (q.1.map Cell.d),.bool q.2,.str (S "single")]
theorem dat_q {H : Hp} {a c : Nat} {cells : List Cell} {w : Bool} {n : Nat} (e : H a = some (.list [.ref c,.bool w,.str (S "single")])) (e' : H c = some (.list (cells.map Cell.v))) : Dat H (n + 4) (.ref a) (dV (cells,w)) :=
 .list e (.cons (.list e' (dat_cells _)) (.cons .bool (.cons (.str strOk_single) .nil)))
theorem dat_lqs {H : Hp} {n : Nat} : ∀ ls : List Ln,(∀ l ∈ ls,LqAt H l) → DatAll H (n + 4) (refs ls) ((ls.map qv).map dV)
 | [],_ => .nil
 | l :: ls,h => .cons (dat_q (h l (by simp)).o (h l (by simp)).cs) (dat_lqs ls fun m hm => h m (by simp [hm]))
theorem viewU_lay (cols : Nat) (x : TX) : (viewU cols (x.1 ++ [x.2])).map (padP cols) = fullL cols (layT cols x).ls := by
 unfold fullL TS.ls layT
 rw [viewU_snoc,lines_cq]
 unfold viewU
 congr 1
 dsimp only
 rw [List.map_append,List.map_map,List.append_assoc,List.map_flatMap]
 rfl
section
variable {W : Wx} {H : Hp}
theorem sp_seen {a : Nat} {ls : List Ln} (e : H a = some (.list (refs ls))) (h : ∀ l ∈ ls,LnAt H l) (hn : ls.length ≤ 500) (hw : ∀ l ∈ ls,l.cells.length ≤ 500) :
  CallW W 1 (.ref 1550) [.ref a] H fun x H' => Ext H H' ∧ Dat H' 5 x (.list ((ls.map qv).map dV)) := by
 refine in_1550 _ ?_
 unfold cd_1550
 refine Run.has (by intro j hj; simp at hj) ?_
 walk_at "r"
 have il : (refs ls).length = ls.length := by simp [refs]
 refine Run.lc (l := refs ls) (args := [.ref a]) (J := fun i acc H' => Ext H H' ∧ DatAll H' 4 acc (((ls.take i).map qv).map dV)) rfl rfl ⟨.rfl,.nil⟩ (fun i acc H' _ hj => hj.1 _ _ e) (by omega) (fun i x acc H' hx hac hj => ?_) (fun acc H' hac hj c hc => ?_)
 ·obtain ⟨E,D⟩ := hj
  obtain ⟨l,hl,rfl⟩ : ∃ l,ls[i]? = some l ∧ V.ref l.a = x := by
   unfold refs at hx
   rw [List.getElem?_map] at hx
   cases z : ls[i]? with
   | none => rw [z] at hx; cases hx
   | some l => rw [z] at hx; cases hx; exact ⟨l,rfl,rfl⟩
  have hm := List.mem_of_getElem? hl
  have o := E _ _ (h l hm).o
  have oc := E _ _ (h l hm).cs
  have ow := hw l hm
  unfold lf at o
  walk_at "c"
  refine r_listE oc (by simp; omega) fun c1 H2 f2 g2 E2 => ?_
  have o2 := E2 _ _ o
  walk_at "r"
  refine r_lst3E fun c3 H3 f3 g3 E3 => ?_
  refine Run.nil ⟨E.trans (E2.trans E3),?_⟩
  rw [take_succ' hl,List.map_append,List.map_append]
  exact (D.ext (E2.trans E3)).snoc (dat_q g3 (E3 _ _ g2))
 ·obtain ⟨E,D⟩ := hj
  rw [il,List.take_length] at D
  exact Run.ret ⟨E.trans (Ext.new hc),.list setF_same (D.ext (Ext.new hc))⟩
theorem sp_is_so {s : Scr} {sm : Nat} {st : List (Nat × Nat)} (I0 : Is H s) (g : GoodT s (layT s.cols (txOf st))) (hsm : H sm = some (.list (stV st))) (hn : st.length ≤ 60) (hok : ∀ e ∈ st,OkC e) :
  CallW W 3 (.ref 1555) [.ref s.sc,.ref sm,.int s.rows,.int s.cols] H fun x H' => x = .bool true ∧ Ext H H' := by
 refine in_1555 _ _ _ _ ?_
 unfold cd_1555
 have ox := okX_of st
 have hcl := I0.cl
 have hrw := I0.rwb
 walk_at "r"
 refine r_call1 ((sp_texts hsm hn hok).tu rfl) rfl ?_
 rintro _ H1 ⟨t,ds,la,rfl,T⟩
 walk_at "r"
 have sgs : ∀ u ∈ (txOf st).1 ++ [(txOf st).2],∀ c ∈ u,Sg c := fun u hu c hc => by
  rcases List.mem_append.mp hu with hu | hu
  ·exact (ox.d u hu c hc).1
  ·rw [List.mem_singleton.mp hu] at hc; exact (ox.t c hc).1
 have td := T.d
 have osz := ox.sz
 have szl : sizeL ((txOf st).1 ++ [(txOf st).2]) ≤ 100 := by rw [sizeL_app]; omega
 refine r_call2 ((sp_laid (as := ds ++ [la]) (D := (txOf st).1) (v := (txOf st).2) (by rw [T.top]; simp) (by simp; omega) (fun i a u ha hu => ?_) hcl sgs szl).tu rfl) rfl ?_
 ·by_cases q : i < ds.length
  ·rw [List.getElem?_append_left q] at ha
   rw [List.getElem?_append_left (by omega)] at hu
   exact T.at_ i a u ha hu
  ·rw [List.getElem?_append_right (by omega)] at ha hu
   have : i - ds.length = 0 := by
    obtain ⟨lt,_⟩ := List.getElem?_eq_some_iff.mp ha
    simp at lt; omega
   rw [this] at ha; rw [show i - (txOf st).1.length = 0 by omega] at hu
   simp at ha hu
   subst ha hu
   exact T.l
 rintro _ H2 ⟨ln,ls,rfl,L,hv⟩
 have E2 : Ext H H2 := T.ext.trans L.ext
 have vlen := viewU_len s.cols ((txOf st).1 ++ [(txOf st).2])
 have lsl : ls.length = (viewU s.cols ((txOf st).1 ++ [(txOf st).2])).length := by have := congrArg List.length hv; simpa using this
 rw [viewU_lay] at hv
 have farE : ((cellsOf (cut s.cols (txOf st).2).2).length : Int) = (((layT s.cols (txOf st)).ls.2.length : Nat) : Int) := rfl
 rw [farE]
 generalize layT s.cols (txOf st) = la' at *
 obtain ⟨⟨lv,first,row,col,wait,plen,wf⟩,_⟩ := g
 rw [← hv] at lv
 have nl : ls.length = la'.ls.1.length + 1 := by have := congrArg List.length hv; simpa [fullL] using this
 have I2 := I0.ext E2
 have h1 := I2.sc
 have h2 := I2.gr
 have h3 := I2.hi
 have h4 := I2.cu
 unfold Scr.scF at h1
 unfold Scr.grF at h2
 unfold Scr.hiF at h3
 unfold Scr.cuF at h4
 have top := L.top
 have hm : ls.length ≤ 100 := by omega
 have il : (refs ls).length = ls.length := by simp [refs]
 have fi : s.hist.length = ls.length - s.rows := by omega
 have ghl : s.hist.map qv = (ls.map qv).take s.hist.length := by
  have : s.lv.take s.hist.length = s.hist.map qv := by unfold Scr.lv Scr.all; rw [List.map_append,List.take_append_of_le_length (by simp),List.take_of_length_le (by simp)]; rfl
  rw [← this,lv,List.take_append_of_le_length (by simp; omega)]
 have ggl : s.grid.map qv = (ls.map qv).drop s.hist.length ++ List.replicate (s.rows - ls.length) (List.replicate s.cols blank,false) := by
  have : s.lv.drop s.hist.length = s.grid.map qv := by unfold Scr.lv Scr.all; rw [List.map_append,List.drop_append_of_le_length (by simp),List.drop_of_length_le (by simp),List.nil_append]; rfl
  rw [← this,lv,List.drop_append_of_le_length (by simp; omega),nl]
 walk_at "r"
 rw [il,show max (0 : Int) ((ls.length : Int) - (s.rows : Int)) = ((s.hist.length : Nat) : Int) by omega]
 refine r_slcE (some (s.hist.length : Int)) none rfl rfl top (by omega) (l' := refs (ls.drop s.hist.length)) (by rw [ps_drop,refs_drop]) fun c3 H3 f3 g3 E3 => ?_
 refine Run.has (by intro j hj; simp at hj; subst hj; exact ⟨_,rfl⟩) ?_
 have top3 := E3 _ _ top
 walk_at "r"
 rw [il]
 refine Run.lc (l := (List.range ((s.rows : Int) - (ls.length : Int)).toNat).map fun (i : Nat) => V.int (i : Int)) (args := [.int ((s.rows : Int) - (ls.length : Int))]) (J := fun i acc H' => Ext H3 H' ∧ DatAll H' 4 acc ((List.replicate i (List.replicate s.cols blank,false)).map dV)) rfl rfl ⟨.rfl,.nil⟩ (fun i acc H' _ hj => ⟨by omega,by omega,rfl⟩) (by simp; omega) (fun i x acc H' hx hac hj => ?_) (fun acc H' hac hj c hc => ?_)
 ·obtain ⟨E,D⟩ := hj
  show Run W 2 _ _ [none,some (.int (s.cols : Nat))] H' _
  walk_at "c"
  refine r_lst1E fun c4 H4 f4 g4 E4 => ?_
  walk_at "r"
  refine r_mulLE g4 (by omega) fun c5 H5 f5 g5 E5 => ?_
  walk_at "r"
  refine r_lst3E fun c6 H6 f6 g6 E6 => ?_
  refine Run.nil ⟨E.trans (E4.trans (E5.trans E6)),?_⟩
  rw [List.replicate_succ',List.map_append]
  refine (D.ext (E4.trans (E5.trans E6))).snoc (dat_q g6 (E6 _ _ ?_))
  rw [g5,List.map_replicate,Int.toNat_natCast]; rfl
 obtain ⟨E,D⟩ := hj
 rw [List.length_map,List.length_range] at D
 have rpl : ((s.rows : Int) - (ls.length : Int)).toNat = s.rows - ls.length := by omega
 rw [rpl] at D
 have E7 : Ext H' (setF H' c (.list acc)) := Ext.new hc
 have g7 : setF H' c (.list acc) c = some (.list acc) := setF_same
 have D7 := D.ext E7
 generalize setF H' c (.list acc) = H7 at *
 have accl : acc.length = s.rows - ls.length := by rw [hac]; simp
 refine r_addLE (E7 _ _ (E _ _ g3)) g7 (by simp [refs]; omega) fun c8 H8 f8 g8 E8 => ?_
 have E38 : Ext H3 H8 := E.trans (E7.trans E8)
 have E28 : Ext H2 H8 := E3.trans E38
 have lq8 : ∀ l ∈ ls,LqAt H8 l := fun l hl => (L.at_ l hl).ext E28
 have due : Dat H8 5 (.ref c8) (.list ((s.grid.map qv).map dV)) := by
  refine .list g8 ?_
  rw [ggl,List.map_append]
  refine DatAll.app (D7.ext E8) ?_
  have := dat_lqs (n := 0) (ls.drop s.hist.length) fun l hl => lq8 l (List.mem_of_mem_drop hl)
  rwa [List.map_drop] at this
 have I8 := I2.ext E28
 have h1 := E28 _ _ h1
 have h2 := E28 _ _ h2
 have h3 := E28 _ _ h3
 have top8 := E28 _ _ top
 walk_at "r"
 refine r_neD (n := 1) (m := 1) (b := false) (.tup (.cons .int (.cons .int (.cons .int (.cons .int .nil))))) (.tup (.cons .int (.cons .int (.cons .int (.cons .int .nil))))) (by omega) (by omega) (Dat.eqv_self (H := H8) (n := 1) (x := .tup [.int s.rows,.int s.cols,.int s.rows,.int s.cols]) (.tup (.cons .int (.cons .int (.cons .int (.cons .int .nil)))))) ?_
 walk_at "r"
 have hh := I8.hn
 refine r_call1 ((sp_seen I8.hl (fun l hl => I8.ln l (List.mem_append_left _ hl)) (by omega) (fun l hl => by rw [I8.wid l (List.mem_append_left _ hl)]; omega)).tu rfl) rfl ?_
 rintro xs H9 ⟨E9,D9⟩
 walk_at "r"
 refine r_slcE none (some (s.hist.length : Int)) rfl rfl (E9 _ _ top8) (by omega) (l' := refs (ls.take s.hist.length)) (by rw [ps_take,refs_take]) fun cA HA fA gA EA => ?_
 have DA : Dat HA 5 (.ref cA) (.list ((s.hist.map qv).map dV)) := by
  refine .list gA ?_
  rw [ghl]
  have := dat_lqs (H := HA) (n := 0) (ls.take s.hist.length) fun l hl => (lq8 l (List.mem_of_mem_take hl)).ext (E9.trans EA)
  rwa [List.map_take] at this
 refine r_neD (b := false) (D9.ext EA) DA (by omega) (by omega) (by rw [DA.eqv_self]; rfl) ?_
 have E8A := E9.trans EA
 have h1 := E8A _ _ h1
 have h2 := E8A _ _ h2
 have h3 := E8A _ _ h3
 have topA := E8A _ _ top8
 walk_at "r"
 have IA := I8.ext E8A
 refine r_call1 ((sp_seen IA.gl (fun l hl => IA.ln l (List.mem_append_right _ hl)) (by have := IA.gn; omega) (fun l hl => by rw [IA.wid l (List.mem_append_right _ hl)]; omega)).tu rfl) rfl ?_
 rintro xs2 HB ⟨EB,DB⟩
 walk_at "r"
 refine r_neD (b := false) DB (due.ext (E8A.trans EB)) (by omega) (by omega) (by rw [DB.eqv_self]; rfl) ?_
 have h1 := EB _ _ h1
 have h4 := EB _ _ (E8A _ _ (E28 _ _ h4))
 have topB := EB _ _ topA
 walk_at "r"
 rw [il]
 have v1 : V.tup [.int ((ls.length : Int) - 1 - (s.hist.length : Nat)),.int (min (((la'.ls.2.length : Nat) : Int)) ((s.cols : Int) - 1)),.bool (((la'.ls.2.length : Nat) : Int) == (s.cols : Int))] = .tup [.int s.row,.int s.col,.bool s.wait] := by
  rw [ofInt_beq,← wait,show (ls.length : Int) - 1 - (s.hist.length : Nat) = (s.row : Int) by omega,show min (((la'.ls.2.length : Nat) : Int)) ((s.cols : Int) - 1) = (s.col : Int) by omega]
 rw [v1]
 refine r_eqD (n := 1) (m := 1) (b := true) (.tup (.cons .int (.cons .int (.cons .bool .nil)))) (.tup (.cons .int (.cons .int (.cons .bool .nil)))) (by omega) (by omega) (Dat.eqv_self (H := HB) (n := 1) (x := .tup [.int s.row,.int s.col,.bool s.wait]) (.tup (.cons .int (.cons .int (.cons .bool .nil))))) ?_
 exact Run.ret ⟨rfl,E2.trans (E28.trans (E8A.trans EB))⟩
end
section
variable {W : Wx} {H : Hp}
theorem Lw.refit {H0 H' : Hp} {s s' : Scr} {dk cl sm p : Nat} {cs : List Nat} {st : List (Nat × Nat)} (h : Lw H0 s dk cl sm cs p st) (I' : Is H' s') (F : Frm s H0 s' H') (e4 : s'.pen = s.pen) (g : GoodT s' (layT s'.cols (txOf st))) : Lw H' s' dk cl sm cs p st := by
 obtain ⟨o1,o2,o3⟩ := h.out
 obtain ⟨a1,b1⟩ := F.out h.deck.d o1
 obtain ⟨a2,b2⟩ := F.out h.deck.c o2
 obtain ⟨a3,b3⟩ := F.out h.stm o3
 exact ⟨I',g,⟨a1,a2,h.deck.n⟩,a3,⟨b1,b2,b3⟩,h.ne,e4.trans h.pen,h.ok⟩
theorem pad_len {cols : Nat} (hc : 2 ≤ cols) {st : List (Nat × Nat)} : ∀ q ∈ fullL cols (layT cols (txOf st)).ls,q.1.length = cols := fun q hq => by
 have ox := okX_of st
 rw [← viewU_lay] at hq
 obtain ⟨z,hz,rfl⟩ := List.mem_map.mp hq
 have := viewU_le hc _ (fun u hu c hc => by
  rcases List.mem_append.mp hu with hu | hu
  ·exact (ox.d u hu c hc).1
  ·rw [List.mem_singleton.mp hu] at hc; exact (ox.t c hc).1) z hz
 unfold padP; simp; omega
theorem r_takes {dk cl p : Nat} {cs : List Nat} {k : List I} {Q : Out → Prop} {x0 x2 x3 : Option V} {ρ : Ro} (L : Dk H dk cl cs p) (hp : p ≤ 800) (h : ∀ r c : Nat,1 ≤ r ∧ r ≤ 4 → 2 ≤ c ∧ c ≤ 7 → Run W 14 k [] (x0 :: some (.ref dk) :: some (.int (r : Nat)) :: some (.int (c : Nat)) :: ρ) (setF H dk (.dict (dkL cl (p + 2)))) Q) :
  Run W 14 (.lit (.int (1)) :: .lit (.raw (.ref 1510)) :: .loc 1 :: .lit (.int (4)) :: .call 2 :: .bin .Add :: .lit (.int (2)) :: .lit (.raw (.ref 1510)) :: .loc 1 :: .lit (.int (6)) :: .call 2 :: .bin .Add :: .tup 2 :: .unp 2 :: .sto 2 :: .sto 3 :: k) [] (x0 :: some (.ref dk) :: x2 :: x3 :: ρ) H Q := by
 walk_at "r"
 refine r_call2 ((sp_take (b := 4) L (by omega) (by omega)).tu rfl) rfl ?_
 rintro _ _ ⟨u,hu,rfl,rfl⟩
 have L1 : Dk (setF H dk (.dict (dkL cl (p + 1)))) dk cl cs (p + 1) := ⟨setF_same,at_ne L.c (ne_kd L.c L.d rfl),L.n⟩
 walk_at "r"
 refine r_call2 ((sp_take (b := 6) L1 (by omega) (by omega)).tu rfl) rfl ?_
 rintro _ _ ⟨v,hv,rfl,rfl⟩
 rw [setF_setF]
 have := h (1 + u) (2 + v) (by omega) (by omega)
 refine r_add ?_
 refine r_tup2 (r_unp2 ?_)
 rw [show (1 : Int) + (u : Int) = ((1 + u : Nat) : Int) by omega,show (2 : Int) + (v : Int) = ((2 + v : Nat) : Int) by omega]
 refine Run.sto (by simp) ?_
 refine Run.sto (by simp) ?_
 exact this
theorem r_check {s : Scr} {dk cl sm p : Nat} {cs : List Nat} {st : List (Nat × Nat)} {k : List I} {Q : Out → Prop} {x0 : Option V} {ρ : Ro} (L : Lw H s dk cl sm cs p st) (hn : st.length ≤ 60) (h : ∀ H',Lw H' s dk cl sm cs p st → Run W 14 k [] (x0 :: some (.ref dk) :: some (.int s.rows) :: some (.int s.cols) :: some (.ref s.sc) :: some (.ref sm) :: ρ) H' Q) :
  Run W 14 (.lit (.raw (.ref 1555)) :: .loc 4 :: .loc 5 :: .loc 2 :: .loc 3 :: .call 4 :: .chk :: .notb :: .ite [.lit (.bool false),.ret] [] :: k) [] (x0 :: some (.ref dk) :: some (.int s.rows) :: some (.int s.cols) :: some (.ref s.sc) :: some (.ref sm) :: ρ) H Q := by
 walk_at "r"
 refine r_call4 ((sp_is_so L.is_ L.good L.stm hn L.ok).tu rfl) rfl ?_
 rintro _ H' ⟨rfl,E⟩
 refine Run.chk (Run.notb (r_f rfl ?_))
 exact h _ (L.ext E)
theorem r_refit {s : Scr} {dk cl sm p rows cols : Nat} {cs : List Nat} {st : List (Nat × Nat)} {k : List I} {Q : Out → Prop} {x0 x6 x7 x8 x9 : Option V} {ρ : Ro} (L : Lw H s dk cl sm cs p st) (hn : st.length ≤ 60) (hr : 1 ≤ rows ∧ rows ≤ 4) (hc : 2 ≤ cols ∧ cols ≤ 7) (h : ∀ H' s' x7 x8 x9,Lw H' s' dk cl sm cs p st → s'.sc = s.sc → s'.rows = rows → s'.cols = cols → Run W 14 k [] (x0 :: some (.ref dk) :: some (.int rows) :: some (.int cols) :: some (.ref s.sc) :: some (.ref sm) :: x6 :: x7 :: x8 :: x9 :: ρ) H' Q) :
  Run W 14 (.lit (.raw (.ref 662)) :: .loc 4 :: .loc 2 :: .loc 3 :: .call 3 :: .unp 3 :: .sto 7 :: .sto 8 :: .sto 9 :: .loc 8 :: .loc 4 :: .sattr 33 :: .lit (.raw (.ref 1496)) :: .loc 4 :: .loc 2 :: .loc 3 :: .loc 7 :: .loc 9 :: .call 5 :: .pop :: k) [] (x0 :: some (.ref dk) :: some (.int rows) :: some (.int cols) :: some (.ref s.sc) :: some (.ref sm) :: x6 :: x7 :: x8 :: x9 :: ρ) H Q := by
 have ox := okX_of st
 have y := lay_at L.is_ L.good ox (by omega)
 walk_at "r"
 refine r_call3 ((sp_reflowed (rows := rows) L.is_ y hc hr).tu rfl) rfl ?_
 rintro _ H1 ⟨g,gl,hh,hl,hist,grid,co,wa,rfl,R,q1,q2⟩
 rw [text_cut] at q1 q2
 rw [v1_full] at R ⊢
 have fl : (fullL cols (layT cols (txOf st)).ls).length = (layT cols (txOf st)).1.length + 1 := by unfold fullL TS.ls; simp
 have ll := layT_len (cols := cols) ox
 have lh := R.lh
 refine Run.unp (l := [.ref g,.ref hh,_]) rfl ?_
 refine Run.sto (by simp) (Run.sto (by simp) (Run.sto (by simp) ?_))
 refine Run.loc rfl (Run.loc rfl (r_sattr (R.ext _ _ L.is_.sc) rfl rfl ?_))
 refine Run.lit (Run.loc rfl (Run.loc rfl (Run.loc rfl (Run.loc rfl (Run.loc rfl ?_)))))
 have cl' := cut_le hc.1 (txOf st).2 fun c hc => ((ox.t c hc).1).1
 refine r_call5 ((sp_fit (W := W) (r := (fullL cols (layT cols (txOf st)).ls).length - 1 - ((fullL cols (layT cols (txOf st)).ls).length - rows)) (c := co) (w := wa) L.is_ R (pad_len hc.1) hr hc (by omega) (by omega) (by omega) (fun z => by rw [q2,beq_iff_eq] at z; omega)).tu rfl) rfl ?_
 rintro _ H2 ⟨rfl,s',I',F,e1,e2,e3,e4,e5,e6,e7,e8,e9⟩
 refine Run.pop ?_
 have gr := good_refit (s := s) (s' := s') ox hc.1 R e2 e3 e5 e6 e7 (e8.trans q1) (e9.trans q2) hr.1 (by omega)
 exact h H2 s' _ _ _ (L.refit I' F e4 (by rw [e3]; exact gr)) e1 e2 e3
end
section
variable {W : Wx} {H : Hp}
def TellJ (H : Hp) (s : Scr) (rows cols dk cl sm : Nat) (cs : List Nat) (p : Nat) (st : List (Nat × Nat)) (sc2 : Nat) (R : Ro → Prop) (i : Nat) (ρ : Ro) (H' : Hp) : Prop :=
 R ρ ∧ ∃ t,Is H' t ∧ GoodT t (layT t.cols (txOf (st.take i))) ∧ t.sc = sc2 ∧ t.rows = rows ∧ t.cols = cols ∧ t.pen = penL (st.take i) ∧ (∀ a ∈ t.foot,H a = none) ∧ Ext H H'
theorem law_tail {s : Scr} {dk cl sm p : Nat} {cs : List Nat} {st : List (Nat × Nat)} {x0 x6 x7 x8 x9 x10 x11 x12 : Option V} (L : Lw H s dk cl sm cs p st) (hn : st.length ≤ 60) :
  Run W 14 [.lit (.raw (.ref 1517)),.loc 2,.loc 3,.call 2,.sto 10,.loc 5,.fr .plain 1 [.unp 2,.sto 11,.sto 12] [.lit (.raw (.ref 1524)),.loc 10,.loc 11,.loc 12,.call 3,.pop],.loc 4,.attr 34,.mth 2,.loc 10,.attr 34,.call 2,.chk,.notb,.ite [.lit (.bool true)] [.loc 4,.attr 33,.mth 2,.loc 10,.attr 33,.call 2,.chk,.notb],.ite [.lit (.bool false),.ret] [],.loc 4,.attr 35,.mth 2,.loc 10,.attr 35,.call 2,.chk,.ite [.lit (.raw (.ref 1555)),.loc 4,.loc 5,.loc 2,.loc 3,.call 4,.chk] [.lit (.bool false)],.ret] []
   [x0,some (.ref dk),some (.int s.rows),some (.int s.cols),some (.ref s.sc),some (.ref sm),x6,x7,x8,x9,x10,x11,x12] H (behind fun x H' => x = .bool true) := by
 have hcl := L.is_.cl
 have hrw := L.is_.rwb
 have stl : (stV st).length = st.length := by simp [stV]
 walk_at "r"
 refine r_call2 ((sp_newScreen (rows := s.rows) (cols := s.cols) hrw hcl).tu rfl) rfl ?_
 rintro _ H1 ⟨t0,rfl,N⟩
 walk_at "r"
 refine Run.fr (l := stV st) (args := [.ref sm]) (J := TellJ H s s.rows s.cols dk cl sm cs p st t0.sc fun ρ => ∃ b c,ρ = [x0,some (.ref dk),some (.int s.rows),some (.int s.cols),some (.ref s.sc),some (.ref sm),x6,x7,x8,x9,some (.ref t0.sc),b,c]) (Z := fun _ _ => False) rfl rfl
  ⟨⟨_,_,rfl⟩,t0,N.is_,good0 N,rfl,N.erows,N.ecols,N.cur.2.2.2,N.new,N.ext⟩ (fun i ρ H' _ hj => ?_) (fun i x ρ H' hx hj => ?_) ?_ (fun _ _ z => z.elim)
 ·obtain ⟨_,t,_,_,_,_,_,_,_,E⟩ := hj
  exact E _ _ L.stm
 ·obtain ⟨⟨b,c,rfl⟩,t,It,g,q1,q2,q3,q4,q5,E⟩ := hj
  have hi : i < st.length := by
   by_cases q : i < st.length
   ·exact q
   ·rw [List.getElem?_eq_none (by omega)] at hx; cases hx
  have ei := List.getElem?_eq_getElem hi
  have hx' : x = .tup [.int ((st[i]'hi).1 : Nat),pn (st[i]'hi).2] := by
   unfold stV at hx; rw [List.getElem?_map,ei] at hx; cases hx; rfl
  subst hx'
  have ho := L.ok _ (List.getElem_mem hi)
  have et := take_succ' ei
  generalize st[i]'hi = ev at *
  walk_at "c"
  refine r_call3 ((show CallW W 13 (.ref 1524) [.ref t0.sc,.int ev.1,pn ev.2] H' _ by rw [← q1]; exact sp_writes It g ev ho (by simp; omega)).tu rfl) rfl ?_
  rintro _ H2 ⟨rfl,t',I',F,e1,e2,e3,e4,g'⟩
  refine Run.pop ?_
  refine Run.nil ⟨⟨_,_,rfl⟩,t',I',by rw [et,e3]; exact g',e1.trans q1,e2.trans q2,e3.trans q3,by rw [et]; exact e4,fun a ha => ?_,fun a m h => F.keep a m (E a m h) fun z => ?_⟩
  ·rcases F.new a ha with q | q
   ·exact q5 a q
   ·exact back E q
  ·rw [q5 a z] at h; cases h
 ·rintro ρ H2 ⟨⟨b,c,rfl⟩,t,It,g,q1,q2,q3,q4,q5,E⟩
  rw [stl,List.take_length] at g q4
  have L2 := L.ext E
  have I1 := L2.is_
  have gg := L.good
  rw [q3] at g
  have lv : s.lv = t.lv := by rw [gg.g.lv,g.g.lv,q2,q3]
  have hl : s.hist.length = t.hist.length := by rw [gg.g.first,g.g.first,q2]
  have hv : s.hist.map qv = t.hist.map qv ∧ s.grid.map qv = t.grid.map qv := by
   unfold Scr.lv Scr.all at lv
   rw [List.map_append,List.map_append] at lv
   exact List.append_inj lv (by simp [hl])
  have er : s.row = t.row := by have := gg.g.row; have := g.g.row; omega
  have ec : s.col = t.col := by rw [gg.g.col,g.g.col,q3]
  have ew : s.wait = t.wait := by rw [gg.g.wait,g.g.wait,q3]
  have ep : s.pen = t.pen := L.pen.trans q4.symm
  have h1 := I1.sc
  have h2 := It.sc
  unfold Scr.scF at h1 h2
  rw [q1] at h2
  have g1 := I1.gr
  have g2 := It.gr
  have g1' := g1
  unfold Scr.grF at g1'
  walk_at "r"
  have gnn := I1.gn
  refine r_call2 ((sp_grEquals g1 g2 I1.gl It.gl q2.symm q3.symm hv.2 (fun l hl => I1.ln l (List.mem_append_right _ hl)) (fun l hl => It.ln l (List.mem_append_right _ hl)) (by omega)).tu rfl) rfl ?_
  rintro _ H3 ⟨rfl,E3⟩
  have I3 := I1.ext E3
  have J3 := It.ext E3
  have h1 := E3 _ _ h1
  have h2 := E3 _ _ h2
  have f1 := I3.hi
  have f1' := f1
  unfold Scr.hiF at f1'
  walk_at "r"
  have hhn := I1.hn
  refine r_call2 ((sp_hiEquals f1 J3.hi I3.hl J3.hl hv.1 (fun l hl => I3.ln l (List.mem_append_left _ hl)) (fun l hl => J3.ln l (List.mem_append_left _ hl)) (by omega)).tu rfl) rfl ?_
  rintro _ H4 ⟨rfl,E4⟩
  have L4 := L2.ext (E3.trans E4)
  have I4 := I3.ext E4
  have J4 := J3.ext E4
  have h1 := E4 _ _ h1
  have h2 := E4 _ _ h2
  have u1 := I4.cu
  have u1' := u1
  unfold Scr.cuF at u1'
  walk_at "r"
  refine r_call2 ((sp_cuEquals u1 J4.cu er ec ew ep).tu rfl) rfl ?_
  refine is_elim ?_
  walk_at "r"
  refine r_call4 ((sp_is_so L4.is_ L4.good L4.stm hn L4.ok).tu rfl) rfl ?_
  rintro _ H5 ⟨rfl,E5⟩
  walk_at "r"
  exact Run.ret rfl
theorem sp_law {a : Nat} {xs : List Int} {vs : Array Value} {n : Nat} (e : W.h₀.get? a = some (listO vs n)) (r : ∀ K,Reps K (xs.map V.int) vs.toList) (hl : xs.length ≤ 63) : CallW W 15 (.ref 1560) [.raw (.ref a)] H fun x H' => x = .bool true := by
 refine in_1560 _ ?_
 unfold cd_1560
 refine Run.lit ?_
 refine Run.has (by intro j hj; simp at hj) ?_
 walk_at "r"
 refine Run.slc (slc_raw (lo := none) (hi := some 63) e r (by simp; omega) (R := fun x H' => ∃ c,x = .ref c ∧ H' c = some (.list (xs.map V.int))) fun c hc => ⟨c,rfl,?_⟩) ⟨a,vs,n,rfl,e⟩ ?_
 ·rw [setF_same]
  have := ps_take (xs.map V.int) 63
  rw [show ((63 : Nat) : Int) = 63 from rfl] at this
  rw [this,List.take_of_length_le (by simp; omega)]
 rintro _ H1 ⟨c,rfl,hc⟩
 refine Run.lc (l := xs.map V.int) (args := [.ref c]) (J := fun i acc H' => H' = H1 ∧ ∃ cs : List Nat,acc = isV cs) rfl rfl ⟨rfl,[],rfl⟩ (fun i acc H' _ hj => by rw [hj.1]; exact hc) (by simp; omega) (fun i x acc H' hx hac hj => ?_) (fun acc H' hac hj cl hcl => ?_)
 ·obtain ⟨rfl,cs,rfl⟩ := hj
  obtain ⟨v,rfl⟩ : ∃ v,x = .int v := by
   rw [List.getElem?_map] at hx
   cases z : xs[i]? with
   | none => rw [z] at hx; cases hx
   | some v => rw [z] at hx; cases hx; exact ⟨_,rfl⟩
  walk_at "c"
  refine r_int ?_
  walk_at "r"
  refine r_mod (by omega) ?_
  obtain ⟨u,hu,eu⟩ := fmod_lt v (b := 1000000000) (by omega)
  rw [show v.fmod 1000000000 = (u : Int) from eu]
  exact Run.nil ⟨rfl,cs ++ [u],by simp [isV]⟩
 obtain ⟨rfl,cs,rfl⟩ := hj
 have csl : cs.length ≤ 63 := by rw [List.length_map] at hac; simp [isV] at hac; omega
 walk_at "r"
 refine Run.dct2 (fun z => by rw [pl_ne] at z; exact z) fun dk hdk => ?_
 have cdk : cl ≠ dk := ne_new setF_same hdk
 have D0 : Dk (setF (setF H' cl (.list (isV cs))) dk (.dict [(S "cells",.ref cl),(S "place",.int 0)])) dk cl cs 0 := ⟨setF_same,at_ne setF_same cdk,csl⟩
 generalize setF (setF H' cl (.list (isV cs))) dk (.dict [(S "cells",.ref cl),(S "place",.int 0)]) = H2 at *
 refine Run.sto (by simp) ?_
 refine r_takes D0 (by omega) fun rows cols hr hc => ?_
 have D1 : Dk (setF H2 dk (.dict (dkL cl (0 + 2)))) dk cl cs 2 := ⟨setF_same,at_ne D0.c (ne_kd D0.c D0.d rfl),csl⟩
 generalize setF H2 dk (.dict (dkL cl (0 + 2))) = H3 at *
 walk_at "r"
 refine r_call2 ((sp_newScreen hr hc).tu rfl) rfl ?_
 rintro _ H4 ⟨s,rfl,N⟩
 refine r_lst0E fun sm H5 f5 g5 E5 => ?_
 have D5 := D1.ext (N.ext.trans E5)
 have I5 := N.is_.ext E5
 have er := N.erows
 have ec := N.ecols
 have exF : ∀ y ∈ s.foot,∃ m,H4 y = some m := fun y hy => by
  unfold Scr.foot at hy
  simp only [List.mem_append,List.mem_cons,List.not_mem_nil,or_false,List.mem_map] at hy
  have I4 := N.is_
  rcases hy with (rfl | rfl | rfl | rfl | rfl | rfl) | ⟨l,hl,rfl⟩ | ⟨l,hl,rfl⟩
  ·exact ⟨_,I4.sc⟩
  ·exact ⟨_,I4.cu⟩
  ·rcases I4.md with z | ⟨_,z,_⟩ <;> exact ⟨_,z⟩
  ·exact ⟨_,I4.gr⟩
  ·exact ⟨_,I4.hl⟩
  ·exact ⟨_,I4.tb⟩
  ·exact ⟨_,(I4.ln l hl).o⟩
  ·exact ⟨_,(I4.ln l hl).cs⟩
 have L5 : Lw H5 s dk cl sm cs 2 [] := ⟨I5,good0 N,D5,g5,⟨fun z => ?_,fun z => ?_,fun z => ?_⟩,?_,N.cur.2.2.2,by simp⟩
 rotate_left
 ·have := N.new _ z; rw [D1.d] at this; cases this
 ·have := N.new _ z; rw [D1.c] at this; cases this
 ·obtain ⟨m,hm⟩ := exF _ z; rw [hm] at f5; cases f5
 ·exact (ne_new (N.ext _ _ D1.c) f5).symm
 rw [← er,← ec]
 clear er ec exF I5
 walk_at "r"
 refine r_call2 ((sp_take (b := 3) L5.deck (by omega) (by omega)).tu rfl) rfl ?_
 rintro _ _ ⟨v,hv,rfl,rfl⟩
 have L6 := L5.take 3
 refine r_add ?_
 refine Run.fr (l := (List.range (1 + (v : Int)).toNat).map fun (i : Nat) => V.int (i : Int)) (args := [.int (1 + (v : Int))])
  (J := fun i ρ H' => ∃ s p st x6 x7 x8 x9,ρ = [some (.raw (.ref a)),some (.ref dk),some (.int s.rows),some (.int s.cols),some (.ref s.sc),some (.ref sm),x6,x7,x8,x9,none,none,none] ∧ Lw H' s dk cl sm cs p st ∧ p ≤ 3 + 10 * i ∧ st.length ≤ 7 * i) (Z := fun _ _ => False) rfl rfl ⟨s,3,[],_,_,_,_,rfl,L6,by omega,by simp⟩ (fun i ρ H' _ _ => ⟨by omega,by omega,rfl⟩) (fun i x ρ H' hx hj => ?_) ?_ (fun _ _ z => z.elim)
 ·obtain ⟨s,p,st,x6,x7,x8,x9,rfl,L,hp,hst⟩ := hj
  have hi : i < 3 := by
   by_cases q : i < (1 + (v : Int)).toNat
   ·omega
   ·rw [List.getElem?_eq_none (by simp; omega)] at hx; cases hx
  walk_at "c"
  refine r_call3 ((sp_group L (by omega) (by omega)).tu rfl) rfl ?_
  rintro _ H7 ⟨rfl,s7,st7,p7,L7,e1,e2,e3,e4,e5⟩
  refine Run.pop ?_
  rw [← e1,← e2,← e3]
  refine r_check L7 (by omega) fun H8 L8 => ?_
  refine r_takes L8.deck (by omega) fun rows cols hr hc => ?_
  refine r_refit (L8.take (p7 + 2)) (by omega) hr hc fun H9 s9 x7 x8 x9 L9 q1 q2 q3 => ?_
  rw [← q1,← q2,← q3]
  refine r_check L9 (by omega) fun HA LA => ?_
  exact Run.nil ⟨s9,p7 + 2,st7,_,_,_,_,rfl,LA,by omega,by omega⟩
 ·rintro ρ H' ⟨s,p,st,x6,x7,x8,x9,rfl,L,hp,hst⟩
  rw [List.length_map,List.length_range] at hp hst
  walk_at "r"
  refine r_call3 ((sp_group L (by omega) (by omega)).tu rfl) rfl ?_
  rintro _ H7 ⟨rfl,s7,st7,p7,L7,e1,e2,e3,e4,e5⟩
  refine Run.pop ?_
  rw [← e1,← e2,← e3]
  exact law_tail L7 (by omega)
end
abbrev lawC : ClaimW := PySem.Challenge.rw_rh0243_01.row.toRowW.claim
theorem items_ints {R : WRecords} : ∀ {xs : List WData},WShape.hasItems R xs .int = true → ∃ ys : List Int,xs = ys.map WData.int
 | [],_ => ⟨[],rfl⟩
 | x :: xs,h => by
  unfold WShape.hasItems at h
  obtain ⟨h1,h2⟩ := Bool.and_eq_true_iff.mp h
  obtain ⟨ys,rfl⟩ := items_ints h2
  cases x <;> simp [WShape.has,WShape.arms] at h1
  exact ⟨_ :: ys,rfl⟩
theorem has_list {R : WRecords} {x : WData} (h : WShape.has R x (.list .int) = true) : ∃ ys : List Int,x = .list (ys.map WData.int) := by
 cases x <;> simp [WShape.has,WShape.arms] at h
 obtain ⟨ys,rfl⟩ := items_ints h
 exact ⟨ys,rfl⟩
theorem pre_ints {args : List WData} (h : lawC.pre args = true) : ∃ ys : List Int,args = [.list (ys.map WData.int)] ∧ ys.length ≤ 63 := by
 have h' : (WShape.hasAll [] args [.list .int] && PySem.Challenge.rw_rh0243_01.pre.holds [] { args := args }) = true := h
 obtain ⟨h1,h2⟩ := Bool.and_eq_true_iff.mp h'
 match args,h1 with
 | [],h1 => simp [WShape.hasAll] at h1
 | [x],h1 =>
  simp only [WShape.hasAll] at h1
  obtain ⟨ys,rfl⟩ := has_list (Bool.and_eq_true_iff.mp h1).1
  refine ⟨ys,rfl,?_⟩
  have h3 : (WTm.and (.not (.lt (.lit (.int 63)) (.len (.arg 0)))) (.lit (.bool true))).holds [] { args := [.list (ys.map WData.int)] } = true := h2
  by_cases q : ys.length ≤ 63
  ·exact q
  ·have : ((63 : Int) < (ys.length : Int)) := by omega
   simp [WTm.holds,WTm.value,PySem.W.less?,Num.less?,this] at h3
 | x :: y :: r,h1 => simp [WShape.hasAll] at h1
theorem well_ints {P : Params} {h : Heap} : ∀ {ys : List Int} {vs : List Value},WellAll P h vs (ys.map WData.int) → ∀ K,Reps K (ys.map V.int) vs
 | [],_,.nil,_ => Reps.nil
 | _ :: ys,_,.cons (.int _ t) r,K => Reps.cons (Rep.int_iff.mpr ⟨t,rfl⟩) (well_ints r K)
theorem post_true {args ds : List WData} : lawC.post args (.bool true) ds = true := by
 show (WShape.has [] (.bool true) .bool && (WTm.eq .res (.lit (.bool true))).holds [] { args := args,res := some (.bool true),after := ds }) = true
 simp [WShape.has,WShape.arms,WTm.holds,WTm.value,same]
theorem walk_main {q : Program} {loose : List Str} {XP : (Str → Option Value) → Heap → Prop} {d : DefRec} {kwd : List (Str × Expr)} (hd : d.name = S "law") :
  WalkO q loose XP Mine.hook.says PySem.Challenge.rw_rh0243_01.row.toRowW d kwd fun f vs => PySem.call f vs := by
 intro w s₀ s₁ mg mb G Y a o pm cd doc dV kV ho hdat hcd hD hmg hg args vals as hpre hlay hrd hwl hlo
 obtain ⟨ys,rfl,hl⟩ := pre_ints hpre
 obtain ⟨a',vs,rfl,e,r⟩ : ∃ a' vs,vals = [.ref a'] ∧ s₁.heap.get? a' = some (listO (List.toArray vs) 0) ∧ ∀ K,Reps K (ys.map V.int) vs := by
  cases hwl with
  | cons h1 h2 =>
   cases h2
   cases h1 with
   | list e r => exact ⟨_,_,rfl,e,well_ints r⟩
 let W : Wx := ⟨w,s₁.heap,s₁.os,q,looseW q loose,mg,mb,Y,topRead_of G.T⟩
 have S0 : W.Sat (fun b => s₁.heap.get? b) (fun _ => none) (fun _ => none) s₁ :=
  ⟨fun _ _ h => h,fun _ _ h => h,fun _ _ h => (nomatch h),fun _ _ h => (nomatch h),hg,rfl,fun a => a,⟨fun _ _ h => (nomatch h),fun _ _ h => (nomatch h),fun _ _ _ h => (nomatch h),fun _ _ _ _ _ _ h => (nomatch h)⟩⟩
 have ea : a = 1560 := by
  have h1 : nsIn (KF w.params) mainGlobals (S "law") = some (some (.ref 1560)) := by kernel_rfl
  have h2 := mg_of (W.frag S0) (W.top.keeps S0.stays).g h1
  rw [hd,show W.mg = mg from rfl] at *
  rw [h2] at hmg
  cases hmg; rfl
 subst ea
 have c := (sp_law (W := W) (H := fun _ => none) (xs := ys) (vs := vs.toArray) (n := 0) e r hl).t
 have c1 := c callerA s₁ _ _ [.ref a'] ⟨rfl,by decide,by decide⟩ S0 (Reps.cons (Rep.raw_iff.mpr rfl) Reps.nil)
 refine wpAny_mono c1 ?_ ?_
 ·rintro v s' ⟨K',x,H',le,S',rv,rfl⟩
  rw [Rep.bool_iff.mp rv]
  exact ⟨.inl ⟨_,_,[],rfl,fun _ => rfl,ReadsW.bool true,post_true,fun _ => ⟨List.nodup_nil,fun _ hm => nomatch hm⟩⟩,.of_keep S'.stays,S'.os,.of_eq S'.gens⟩
 ·intro e s' h
  exact h.elim
end Mine
theorem PySem.Challenge.cw_rh0243_01_holds : PySem.Challenge.rw_rh0243_01.Holds := by
 w_on
 o_law
 o_head Mine.hook
 case hw => w_witness2
 exact Mine.walk_main rfl
